/-
  Functions that the law PlaylistMergesAsSpecified needs, lifted.
-/
import Derived.Test.YtbgpojdmdnkeaaaGreatDoorFe
namespace Go.Proofs.YtbgpojdmdnkeaaaGreatDoor
open Go.Abs
set_option linter.unusedVariables false
set_option linter.unusedSimpArgs false
set_option maxRecDepth 20000
set_option maxHeartbeats 4000000

def ref43_Right (s_0 : S_api_Segment) : Option (Bool) :=
 some (((((((decide (0 ≤ s_0.Num) && decide (s_0.Num ≤ 1099511627776)) && decide (0 ≤ s_0.Begin)) && decide (s_0.Begin ≤ 1099511627776)) && decide (1 ≤ s_0.Len)) && decide (s_0.Len ≤ 60000)) && decide (0 ≤ s_0.Size)) && decide (s_0.Size ≤ 1099511627776))
theorem ref43_Right_ok (s_0 : S_api_Segment)  {r : Bool} (h : ref43_Right s_0 = some r) :
  Meets Tryz.prog 32 [.agg #[.int .i64 s_0.Num, .int .i64 s_0.Begin, .int .i64 s_0.Len, .int .u8 s_0.Body.a0_, .int .u8 s_0.Body.a1_, .int .u8 s_0.Body.a2_, .int .u8 s_0.Body.a3_, .int .u8 s_0.Body.a4_, .int .u8 s_0.Body.a5_, .int .u8 s_0.Body.a6_, .int .u8 s_0.Body.a7_, .int .u8 s_0.Body.a8_, .int .u8 s_0.Body.a9_, .int .u8 s_0.Body.a10_, .int .u8 s_0.Body.a11_, .int .u8 s_0.Body.a12_, .int .u8 s_0.Body.a13_, .int .u8 s_0.Body.a14_, .int .u8 s_0.Body.a15_, .int .i64 s_0.Size]] [] (fun v G => v = .bool r ∧ G = []) := by
 refine fn_of_run Tryz.func32 rfl Tryz.ntmps32 rfl (fun w0 o0 => ?_)
 refine run_seq ?_
 refine run_region' ?_
 refine ot rfl rfl (t_box rfl) ?_
 rintro _ _ ⟨b1, rfl, rfl⟩
 refine oy rfl rfl (y_assign rfl) ?_
 refine ops_nil ?_
 refine goes_code ?_
 refine run_seq ?_
 refine run_region' ?_
 refine oy rfl rfl (y_fieldAddr_box (sz := 0) Tryz.runUnderlying57 rfl Tryz.sizeOf3 rfl) ?_
 refine oy rfl rfl (y_load_box 0 Tryz.isAgg3 rfl rfl rfl) ?_
 refine oy rfl rfl (y_geq rfl rfl) ?_
 refine oy rfl rfl (y_move rfl) ?_
 refine ops_cut 4 (Bool) (fun σ => [(1, boxP b1 0), (10, .bool σ)]) (fun σ => [box b1 [qI s_0.Num, qI s_0.Begin, qI s_0.Len, qB s_0.Body.a0_, qB s_0.Body.a1_, qB s_0.Body.a2_, qB s_0.Body.a3_, qB s_0.Body.a4_, qB s_0.Body.a5_, qB s_0.Body.a6_, qB s_0.Body.a7_, qB s_0.Body.a8_, qB s_0.Body.a9_, qB s_0.Body.a10_, qB s_0.Body.a11_, qB s_0.Body.a12_, qB s_0.Body.a13_, qB s_0.Body.a14_, qB s_0.Body.a15_, qI s_0.Size]]) (fun σ => σ = (decide (0 ≤ s_0.Num) && decide (s_0.Num ≤ 1099511627776))) (fun L2 hL3 => ?_) ?_
 ·refine ops_split 6 (decide (0 ≤ s_0.Num)) rfl (fun hg4 => ?_) (fun hg4 => ?_)
  ·skip
   refine ops_y (wg 3 true 6 rfl rfl rfl rfl) rfl (y_fieldAddr_box (sz := 0) Tryz.runUnderlying57 rfl Tryz.sizeOf3 rfl) ?_
   refine ops_y (wg 3 true 6 rfl rfl rfl rfl) rfl (y_load_box 0 Tryz.isAgg3 rfl rfl rfl) ?_
   refine ops_y (wg 3 true 6 rfl rfl rfl rfl) rfl (y_leq rfl rfl) ?_
   refine oy rfl rfl (y_pick (b := true) rfl rfl) ?_
   refine ops_nil ?_
   exact goes_cut hL3 (decide (s_0.Num ≤ 1099511627776)) [0] (qv2 rfl rfl) (by decide) rfl (by rw [hg4]; simp)
  ·skip
   refine ops_no 3 true 6 rfl rfl rfl rfl rfl ?_
   refine ops_no 3 true 6 rfl rfl rfl rfl rfl ?_
   refine ops_no 3 true 6 rfl rfl rfl rfl rfl ?_
   refine oy rfl rfl (y_pick (b := false) rfl rfl) ?_
   refine ops_nil ?_
   exact goes_cut hL3 false [0] (qv2 rfl rfl) (by decide) rfl (by rw [hg4]; simp)
 rintro _ rfl
 refine oy rfl rfl (y_move rfl) ?_
 refine ops_cut 4 (Bool) (fun σ => [(1, boxP b1 0), (15, .bool σ)]) (fun σ => [box b1 [qI s_0.Num, qI s_0.Begin, qI s_0.Len, qB s_0.Body.a0_, qB s_0.Body.a1_, qB s_0.Body.a2_, qB s_0.Body.a3_, qB s_0.Body.a4_, qB s_0.Body.a5_, qB s_0.Body.a6_, qB s_0.Body.a7_, qB s_0.Body.a8_, qB s_0.Body.a9_, qB s_0.Body.a10_, qB s_0.Body.a11_, qB s_0.Body.a12_, qB s_0.Body.a13_, qB s_0.Body.a14_, qB s_0.Body.a15_, qI s_0.Size]]) (fun σ => σ = ((decide (0 ≤ s_0.Num) && decide (s_0.Num ≤ 1099511627776)) && decide (0 ≤ s_0.Begin))) (fun L5 hL6 => ?_) ?_
 ·refine ops_split 11 (decide (0 ≤ s_0.Num) && decide (s_0.Num ≤ 1099511627776)) rfl (fun hg7 => ?_) (fun hg7 => ?_)
  ·skip
   refine ops_y (wg 8 true 11 rfl rfl rfl rfl) rfl (y_fieldAddr_box (sz := 0) Tryz.runUnderlying57 rfl Tryz.sizeOf3 rfl) ?_
   refine ops_y (wg 8 true 11 rfl rfl rfl rfl) rfl (y_load_box 0 Tryz.isAgg3 rfl rfl rfl) ?_
   refine ops_y (wg 8 true 11 rfl rfl rfl rfl) rfl (y_geq rfl rfl) ?_
   refine oy rfl rfl (y_pick (b := true) rfl rfl) ?_
   refine ops_nil ?_
   exact goes_cut hL6 (decide (0 ≤ s_0.Begin)) [0] (qv2 rfl rfl) (by decide) rfl (by rw [hg7]; simp)
  ·skip
   refine ops_no 8 true 11 rfl rfl rfl rfl rfl ?_
   refine ops_no 8 true 11 rfl rfl rfl rfl rfl ?_
   refine ops_no 8 true 11 rfl rfl rfl rfl rfl ?_
   refine oy rfl rfl (y_pick (b := false) rfl rfl) ?_
   refine ops_nil ?_
   exact goes_cut hL6 false [0] (qv2 rfl rfl) (by decide) rfl (by rw [hg7]; simp)
 rintro _ rfl
 refine oy rfl rfl (y_move rfl) ?_
 refine ops_cut 4 (Bool) (fun σ => [(1, boxP b1 0), (20, .bool σ)]) (fun σ => [box b1 [qI s_0.Num, qI s_0.Begin, qI s_0.Len, qB s_0.Body.a0_, qB s_0.Body.a1_, qB s_0.Body.a2_, qB s_0.Body.a3_, qB s_0.Body.a4_, qB s_0.Body.a5_, qB s_0.Body.a6_, qB s_0.Body.a7_, qB s_0.Body.a8_, qB s_0.Body.a9_, qB s_0.Body.a10_, qB s_0.Body.a11_, qB s_0.Body.a12_, qB s_0.Body.a13_, qB s_0.Body.a14_, qB s_0.Body.a15_, qI s_0.Size]]) (fun σ => σ = (((decide (0 ≤ s_0.Num) && decide (s_0.Num ≤ 1099511627776)) && decide (0 ≤ s_0.Begin)) && decide (s_0.Begin ≤ 1099511627776))) (fun L8 hL9 => ?_) ?_
 ·refine ops_split 16 ((decide (0 ≤ s_0.Num) && decide (s_0.Num ≤ 1099511627776)) && decide (0 ≤ s_0.Begin)) rfl (fun hg10 => ?_) (fun hg10 => ?_)
  ·skip
   refine ops_y (wg 13 true 16 rfl rfl rfl rfl) rfl (y_fieldAddr_box (sz := 0) Tryz.runUnderlying57 rfl Tryz.sizeOf3 rfl) ?_
   refine ops_y (wg 13 true 16 rfl rfl rfl rfl) rfl (y_load_box 0 Tryz.isAgg3 rfl rfl rfl) ?_
   refine ops_y (wg 13 true 16 rfl rfl rfl rfl) rfl (y_leq rfl rfl) ?_
   refine oy rfl rfl (y_pick (b := true) rfl rfl) ?_
   refine ops_nil ?_
   exact goes_cut hL9 (decide (s_0.Begin ≤ 1099511627776)) [0] (qv2 rfl rfl) (by decide) rfl (by rw [hg10]; simp)
  ·skip
   refine ops_no 13 true 16 rfl rfl rfl rfl rfl ?_
   refine ops_no 13 true 16 rfl rfl rfl rfl rfl ?_
   refine ops_no 13 true 16 rfl rfl rfl rfl rfl ?_
   refine oy rfl rfl (y_pick (b := false) rfl rfl) ?_
   refine ops_nil ?_
   exact goes_cut hL9 false [0] (qv2 rfl rfl) (by decide) rfl (by rw [hg10]; simp)
 rintro _ rfl
 refine oy rfl rfl (y_move rfl) ?_
 refine ops_cut 4 (Bool) (fun σ => [(1, boxP b1 0), (25, .bool σ)]) (fun σ => [box b1 [qI s_0.Num, qI s_0.Begin, qI s_0.Len, qB s_0.Body.a0_, qB s_0.Body.a1_, qB s_0.Body.a2_, qB s_0.Body.a3_, qB s_0.Body.a4_, qB s_0.Body.a5_, qB s_0.Body.a6_, qB s_0.Body.a7_, qB s_0.Body.a8_, qB s_0.Body.a9_, qB s_0.Body.a10_, qB s_0.Body.a11_, qB s_0.Body.a12_, qB s_0.Body.a13_, qB s_0.Body.a14_, qB s_0.Body.a15_, qI s_0.Size]]) (fun σ => σ = ((((decide (0 ≤ s_0.Num) && decide (s_0.Num ≤ 1099511627776)) && decide (0 ≤ s_0.Begin)) && decide (s_0.Begin ≤ 1099511627776)) && decide (1 ≤ s_0.Len))) (fun L11 hL12 => ?_) ?_
 ·refine ops_split 21 (((decide (0 ≤ s_0.Num) && decide (s_0.Num ≤ 1099511627776)) && decide (0 ≤ s_0.Begin)) && decide (s_0.Begin ≤ 1099511627776)) rfl (fun hg13 => ?_) (fun hg13 => ?_)
  ·skip
   refine ops_y (wg 18 true 21 rfl rfl rfl rfl) rfl (y_fieldAddr_box (sz := 0) Tryz.runUnderlying57 rfl Tryz.sizeOf3 rfl) ?_
   refine ops_y (wg 18 true 21 rfl rfl rfl rfl) rfl (y_load_box 0 Tryz.isAgg3 rfl rfl rfl) ?_
   refine ops_y (wg 18 true 21 rfl rfl rfl rfl) rfl (y_geq rfl rfl) ?_
   refine oy rfl rfl (y_pick (b := true) rfl rfl) ?_
   refine ops_nil ?_
   exact goes_cut hL12 (decide (1 ≤ s_0.Len)) [0] (qv2 rfl rfl) (by decide) rfl (by rw [hg13]; simp)
  ·skip
   refine ops_no 18 true 21 rfl rfl rfl rfl rfl ?_
   refine ops_no 18 true 21 rfl rfl rfl rfl rfl ?_
   refine ops_no 18 true 21 rfl rfl rfl rfl rfl ?_
   refine oy rfl rfl (y_pick (b := false) rfl rfl) ?_
   refine ops_nil ?_
   exact goes_cut hL12 false [0] (qv2 rfl rfl) (by decide) rfl (by rw [hg13]; simp)
 rintro _ rfl
 refine oy rfl rfl (y_move rfl) ?_
 refine ops_cut 4 (Bool) (fun σ => [(1, boxP b1 0), (30, .bool σ)]) (fun σ => [box b1 [qI s_0.Num, qI s_0.Begin, qI s_0.Len, qB s_0.Body.a0_, qB s_0.Body.a1_, qB s_0.Body.a2_, qB s_0.Body.a3_, qB s_0.Body.a4_, qB s_0.Body.a5_, qB s_0.Body.a6_, qB s_0.Body.a7_, qB s_0.Body.a8_, qB s_0.Body.a9_, qB s_0.Body.a10_, qB s_0.Body.a11_, qB s_0.Body.a12_, qB s_0.Body.a13_, qB s_0.Body.a14_, qB s_0.Body.a15_, qI s_0.Size]]) (fun σ => σ = (((((decide (0 ≤ s_0.Num) && decide (s_0.Num ≤ 1099511627776)) && decide (0 ≤ s_0.Begin)) && decide (s_0.Begin ≤ 1099511627776)) && decide (1 ≤ s_0.Len)) && decide (s_0.Len ≤ 60000))) (fun L14 hL15 => ?_) ?_
 ·refine ops_split 26 ((((decide (0 ≤ s_0.Num) && decide (s_0.Num ≤ 1099511627776)) && decide (0 ≤ s_0.Begin)) && decide (s_0.Begin ≤ 1099511627776)) && decide (1 ≤ s_0.Len)) rfl (fun hg16 => ?_) (fun hg16 => ?_)
  ·skip
   refine ops_y (wg 23 true 26 rfl rfl rfl rfl) rfl (y_fieldAddr_box (sz := 0) Tryz.runUnderlying57 rfl Tryz.sizeOf3 rfl) ?_
   refine ops_y (wg 23 true 26 rfl rfl rfl rfl) rfl (y_load_box 0 Tryz.isAgg3 rfl rfl rfl) ?_
   refine ops_y (wg 23 true 26 rfl rfl rfl rfl) rfl (y_leq rfl rfl) ?_
   refine oy rfl rfl (y_pick (b := true) rfl rfl) ?_
   refine ops_nil ?_
   exact goes_cut hL15 (decide (s_0.Len ≤ 60000)) [0] (qv2 rfl rfl) (by decide) rfl (by rw [hg16]; simp)
  ·skip
   refine ops_no 23 true 26 rfl rfl rfl rfl rfl ?_
   refine ops_no 23 true 26 rfl rfl rfl rfl rfl ?_
   refine ops_no 23 true 26 rfl rfl rfl rfl rfl ?_
   refine oy rfl rfl (y_pick (b := false) rfl rfl) ?_
   refine ops_nil ?_
   exact goes_cut hL15 false [0] (qv2 rfl rfl) (by decide) rfl (by rw [hg16]; simp)
 rintro _ rfl
 refine oy rfl rfl (y_move rfl) ?_
 refine ops_cut 4 (Bool) (fun σ => [(1, boxP b1 0), (35, .bool σ)]) (fun σ => [box b1 [qI s_0.Num, qI s_0.Begin, qI s_0.Len, qB s_0.Body.a0_, qB s_0.Body.a1_, qB s_0.Body.a2_, qB s_0.Body.a3_, qB s_0.Body.a4_, qB s_0.Body.a5_, qB s_0.Body.a6_, qB s_0.Body.a7_, qB s_0.Body.a8_, qB s_0.Body.a9_, qB s_0.Body.a10_, qB s_0.Body.a11_, qB s_0.Body.a12_, qB s_0.Body.a13_, qB s_0.Body.a14_, qB s_0.Body.a15_, qI s_0.Size]]) (fun σ => σ = ((((((decide (0 ≤ s_0.Num) && decide (s_0.Num ≤ 1099511627776)) && decide (0 ≤ s_0.Begin)) && decide (s_0.Begin ≤ 1099511627776)) && decide (1 ≤ s_0.Len)) && decide (s_0.Len ≤ 60000)) && decide (0 ≤ s_0.Size))) (fun L17 hL18 => ?_) ?_
 ·refine ops_split 31 (((((decide (0 ≤ s_0.Num) && decide (s_0.Num ≤ 1099511627776)) && decide (0 ≤ s_0.Begin)) && decide (s_0.Begin ≤ 1099511627776)) && decide (1 ≤ s_0.Len)) && decide (s_0.Len ≤ 60000)) rfl (fun hg19 => ?_) (fun hg19 => ?_)
  ·skip
   refine ops_y (wg 28 true 31 rfl rfl rfl rfl) rfl (y_fieldAddr_box (sz := 0) Tryz.runUnderlying57 rfl Tryz.sizeOf3 rfl) ?_
   refine ops_y (wg 28 true 31 rfl rfl rfl rfl) rfl (y_load_box 0 Tryz.isAgg3 rfl rfl rfl) ?_
   refine ops_y (wg 28 true 31 rfl rfl rfl rfl) rfl (y_geq rfl rfl) ?_
   refine oy rfl rfl (y_pick (b := true) rfl rfl) ?_
   refine ops_nil ?_
   exact goes_cut hL18 (decide (0 ≤ s_0.Size)) [0] (qv2 rfl rfl) (by decide) rfl (by rw [hg19]; simp)
  ·skip
   refine ops_no 28 true 31 rfl rfl rfl rfl rfl ?_
   refine ops_no 28 true 31 rfl rfl rfl rfl rfl ?_
   refine ops_no 28 true 31 rfl rfl rfl rfl rfl ?_
   refine oy rfl rfl (y_pick (b := false) rfl rfl) ?_
   refine ops_nil ?_
   exact goes_cut hL18 false [0] (qv2 rfl rfl) (by decide) rfl (by rw [hg19]; simp)
 rintro _ rfl
 refine oy rfl rfl (y_move rfl) ?_
 refine ops_cut 4 (Bool) (fun σ => [(40, .bool σ)]) (fun σ => []) (fun σ => σ = (((((((decide (0 ≤ s_0.Num) && decide (s_0.Num ≤ 1099511627776)) && decide (0 ≤ s_0.Begin)) && decide (s_0.Begin ≤ 1099511627776)) && decide (1 ≤ s_0.Len)) && decide (s_0.Len ≤ 60000)) && decide (0 ≤ s_0.Size)) && decide (s_0.Size ≤ 1099511627776))) (fun L20 hL21 => ?_) ?_
 ·refine ops_split 36 ((((((decide (0 ≤ s_0.Num) && decide (s_0.Num ≤ 1099511627776)) && decide (0 ≤ s_0.Begin)) && decide (s_0.Begin ≤ 1099511627776)) && decide (1 ≤ s_0.Len)) && decide (s_0.Len ≤ 60000)) && decide (0 ≤ s_0.Size)) rfl (fun hg22 => ?_) (fun hg22 => ?_)
  ·skip
   refine ops_y (wg 33 true 36 rfl rfl rfl rfl) rfl (y_fieldAddr_box (sz := 0) Tryz.runUnderlying57 rfl Tryz.sizeOf3 rfl) ?_
   refine ops_y (wg 33 true 36 rfl rfl rfl rfl) rfl (y_load_box 0 Tryz.isAgg3 rfl rfl rfl) ?_
   refine ops_y (wg 33 true 36 rfl rfl rfl rfl) rfl (y_leq rfl rfl) ?_
   refine oy rfl rfl (y_pick (b := true) rfl rfl) ?_
   refine ops_nil ?_
   exact goes_cut hL21 (decide (s_0.Size ≤ 1099511627776)) [] (qv1 rfl) (by decide) rfl (by rw [hg22]; simp)
  ·skip
   refine ops_no 33 true 36 rfl rfl rfl rfl rfl ?_
   refine ops_no 33 true 36 rfl rfl rfl rfl rfl ?_
   refine ops_no 33 true 36 rfl rfl rfl rfl rfl ?_
   refine oy rfl rfl (y_pick (b := false) rfl rfl) ?_
   refine ops_nil ?_
   exact goes_cut hL21 false [] (qv1 rfl) (by decide) rfl (by rw [hg22]; simp)
 rintro _ rfl
 refine oy rfl rfl (y_assign rfl) ?_
 refine ops_nil ?_
 refine goes_code ?_
 refine run_ret ?_
 obtain rfl := some_eq h
 refine fin_slots [2] [.bool (((((((decide (0 ≤ s_0.Num) && decide (s_0.Num ≤ 1099511627776)) && decide (0 ≤ s_0.Begin)) && decide (s_0.Begin ≤ 1099511627776)) && decide (1 ≤ s_0.Len)) && decide (s_0.Len ≤ 60000)) && decide (0 ≤ s_0.Size)) && decide (s_0.Size ≤ 1099511627776))] [] [] Tryz.results32 rfl (by decide) rfl ?_
 exact ⟨rfl, rfl⟩

def ref43_Stream_L1 (l_0 : (List S_api_Segment)) : (Int) → Option (Lp (Int) (Lp (Unit) (Bool))) :=
 fun i_5 =>
  cond (decide (i_5 < (l_0.length : Int)))
   (idx l_0 i_5 fun x11 =>
   obind (ref43_Right x11) fun r12 =>
   bindJ (S := Bool)
    (cond (!r12)
     (some (.go true))
     (bindJ (S := Bool)
      (cond (decide (0 < i_5))
       (idx l_0 (IntKind.i64.wrap (i_5 - 1)) fun x26 =>
       some (.go (decide (x11.Num ≠ (IntKind.i64.wrap (x26.Num + 1))) || decide (x11.Begin ≠ (IntKind.i64.wrap (x26.Begin + x26.Len))))))
       (some (.go false)))
     (fun b20 =>
      some (.go b20))))
   (fun b14 =>
    cond b14
     (some (.stop (.stop false)))
     (some (.go (IntKind.i64.wrap (i_5 + 1))))))
   (some (.stop (.go ())))
def ref43_Stream (n : Nat) (l_0 : (List S_api_Segment)) : Option (Bool) :=
 bindJ (S := Unit)
  (iter (ref43_Stream_L1 l_0) n 0)
 (fun _ =>
  some (decide ((l_0.length : Int) ≤ 1000)))
theorem ref43_Stream_ok (n : Nat) (l_0 : (List S_api_Segment)) (l_0v : Value) {r : Bool} (h : ref43_Stream n l_0 = some r) :
  Meets Tryz.prog 35 [l_0v] [ro l_0v 20 (l_0.map S_api_Segment.enc)] (fun v G => v = .bool r ∧ G = []) := by
 refine fn_of_run Tryz.func35 rfl Tryz.ntmps35 rfl (fun w0 o0 => ?_)
 refine run_seq ?_
 refine run_region' ?_
 refine oy rfl rfl (y_assign rfl) ?_
 refine ops_nil ?_
 refine goes_code ?_
 obtain ⟨o1, h, ho2⟩ := bindJ_some h
 refine run_cut ((Unit) × (Unit)) (fun σ => [(0, l_0v)]) (fun σ => [ro l_0v 20 (l_0.map S_api_Segment.enc)]) (fun σ => o1 = .go σ.1) (fun L4 hL3 => ?_) ?_
 ·
  refine run_seq ?_
  refine run_region' ?_
  refine oy rfl rfl (y_assign rfl) ?_
  refine ops_nil ?_
  refine goes_code ?_
  refine run_block ?_
  refine run_iter (step := ref43_Stream_L1 l_0) (n := n) (s0 := 0) h (G := Unit) () (fun σ γ => [(3, qI σ), (0, l_0v)]) (fun σ γ => [ro l_0v 20 (l_0.map S_api_Segment.enc)]) [0] (qv2 rfl rfl) (by decide) rfl ?_
  rintro i_5 _ o6 h L9 hgo7 hstop8
  change Run _ _ _ (VF.of [(3, qI i_5), (0, l_0v)]) [ro l_0v 20 (l_0.map S_api_Segment.enc)]
  refine run_seq ?_
  refine run_seq ?_
  refine run_region' ?_
  refine oy rfl rfl (y_move rfl) ?_
  refine oy rfl rfl (y_move rfl) ?_
  refine oy rfl rfl ((y_len 0 rfl Tryz.runUnderlying22 rfl rfl reads_ro).to (v_len S_api_Segment.enc _)) ?_
  refine oy rfl rfl (y_lss rfl rfl) ?_
  refine ops_nil ?_
  refine goes_code ?_
  refine run_cond (decide (i_5 < (l_0.length : Int))) rfl (fun hc10 => ?_) (fun hc10 => ?_)
  ·replace h := cond_t h hc10
   refine run_skip ?_
   refine goes_code ?_
   refine run_seq ?_
   refine run_block ?_
   refine run_seq ?_
   refine run_region' ?_
   refine oy rfl rfl (y_move rfl) ?_
   refine oy rfl rfl (y_move rfl) ?_
   obtain ⟨x11, hzx11, hlx11, hxx11, h⟩ := idx_some h
   refine oy rfl rfl (y_indexAddrI (kd := .i64) (i := i_5) 0 Tryz.runUnderlying22 Tryz.sizeOf57 rfl rfl rfl reads_ro hzx11 (map_lt hlx11)) ?_
   refine oy rfl rfl (y_load_agg (i := i_5.toNat) (c := [qI x11.Num, qI x11.Begin, qI x11.Len, qB x11.Body.a0_, qB x11.Body.a1_, qB x11.Body.a2_, qB x11.Body.a3_, qB x11.Body.a4_, qB x11.Body.a5_, qB x11.Body.a6_, qB x11.Body.a7_, qB x11.Body.a8_, qB x11.Body.a9_, qB x11.Body.a10_, qB x11.Body.a11_, qB x11.Body.a12_, qB x11.Body.a13_, qB x11.Body.a14_, qB x11.Body.a15_, qI x11.Size]) 0 Tryz.isAgg57 Tryz.sizeOf57 rfl rfl reads_ro (map_get hxx11)) ?_
   obtain ⟨r12, hr13, h⟩ := obind_some h
   refine ot rfl rfl (t_callx (vs := [.agg #[qI x11.Num, qI x11.Begin, qI x11.Len, qB x11.Body.a0_, qB x11.Body.a1_, qB x11.Body.a2_, qB x11.Body.a3_, qB x11.Body.a4_, qB x11.Body.a5_, qB x11.Body.a6_, qB x11.Body.a7_, qB x11.Body.a8_, qB x11.Body.a9_, qB x11.Body.a10_, qB x11.Body.a11_, qB x11.Body.a12_, qB x11.Body.a13_, qB x11.Body.a14_, qB x11.Body.a15_, qI x11.Size]]) (cs := []) [] rfl Tryz.call32 rfl (ref43_Right_ok x11  hr13) showsX_nil rfl (.inl rfl)) ?_
   rintro _ _ ⟨_, ⟨rfl, rfl⟩, rfl⟩
   refine oy rfl rfl (y_assign rfl) ?_
   refine ops_nil ?_
   refine goes_code ?_
   refine run_seq ?_
   refine run_weak [(3, qI i_5), (0, l_0v), (4, .bool r12)] [0] [ro l_0v 20 (l_0.map S_api_Segment.enc)] (qv3 rfl rfl rfl) (by decide) rfl ?_
   refine run_draw (by kernel_rfl) (by kernel_rfl) ?_
   refine sy rfl rfl (y_move rfl) ?_
   refine sy rfl rfl (y_not rfl) ?_
   refine sy rfl rfl (y_move rfl) ?_
   obtain ⟨o15, h, ho16⟩ := bindJ_some h
   refine still_cut 39 (Bool) (fun σ => [(3, qI i_5), (0, l_0v), (57, .bool σ)]) (fun σ => [ro l_0v 20 (l_0.map S_api_Segment.enc)]) (fun σ => o15 = .go σ) (fun L17 hL18 => ?_) ?_
   ·refine still_split 18 (!r12) rfl (fun hg19 => ?_) (fun hg19 => ?_)
    ·replace h := cond_t h hg19
     refine still_no 2 false 18 rfl rfl rfl rfl rfl ?_
     refine still_no 2 false 18 rfl rfl rfl rfl rfl ?_
     refine still_no 2 false 18 rfl rfl rfl rfl rfl ?_
     refine still_un 5 true 21 rfl rfl rfl rfl rfl ?_
     refine still_un 5 true 21 rfl rfl rfl rfl rfl ?_
     refine still_un 5 true 21 rfl rfl rfl rfl rfl ?_
     refine still_un 5 true 21 rfl rfl rfl rfl rfl ?_
     refine still_un 5 true 21 rfl rfl rfl rfl rfl ?_
     refine still_un 5 true 21 rfl rfl rfl rfl rfl ?_
     refine still_un 5 true 21 rfl rfl rfl rfl rfl ?_
     refine still_un 5 true 21 rfl rfl rfl rfl rfl ?_
     refine still_un 5 true 21 rfl rfl rfl rfl rfl ?_
     refine still_un 5 true 21 rfl rfl rfl rfl rfl ?_
     refine still_un 5 true 21 rfl rfl rfl rfl rfl ?_
     refine still_un 5 true 21 rfl rfl rfl rfl rfl ?_
     refine still_un 5 true 21 rfl rfl rfl rfl rfl ?_
     refine still_un 5 true 21 rfl rfl rfl rfl rfl ?_
     refine still_un 19 false 35 rfl rfl rfl rfl rfl ?_
     refine still_un 19 false 35 rfl rfl rfl rfl rfl ?_
     refine still_un 19 false 35 rfl rfl rfl rfl rfl ?_
     refine still_un 19 false 35 rfl rfl rfl rfl rfl ?_
     refine still_un 19 false 35 rfl rfl rfl rfl rfl ?_
     refine still_un 19 false 35 rfl rfl rfl rfl rfl ?_
     refine still_un 19 false 35 rfl rfl rfl rfl rfl ?_
     refine still_un 19 false 35 rfl rfl rfl rfl rfl ?_
     refine still_un 19 false 35 rfl rfl rfl rfl rfl ?_
     refine still_un 19 false 35 rfl rfl rfl rfl rfl ?_
     refine still_un 19 false 35 rfl rfl rfl rfl rfl ?_
     refine still_un 19 false 35 rfl rfl rfl rfl rfl ?_
     refine still_un 19 false 35 rfl rfl rfl rfl rfl ?_
     refine still_un 19 false 35 rfl rfl rfl rfl rfl ?_
     refine still_un 19 false 35 rfl rfl rfl rfl rfl ?_
     refine still_un 19 false 35 rfl rfl rfl rfl rfl ?_
     refine still_un 19 false 35 rfl rfl rfl rfl rfl ?_
     refine still_un 19 false 35 rfl rfl rfl rfl rfl ?_
     refine still_un 19 false 35 rfl rfl rfl rfl rfl ?_
     refine still_un 5 true 21 rfl rfl rfl rfl rfl ?_
     refine still_no 2 false 18 rfl rfl rfl rfl rfl ?_
     refine sy rfl rfl (y_pick (b := true) rfl rfl) ?_
     refine still_nil ?_
     obtain rfl := some_eq h
     exact goes_cut hL18 true [0] (qv3 rfl rfl rfl) (by decide) rfl rfl
    ·replace h := cond_f h hg19
     refine still_y (wg 2 false 18 rfl rfl rfl rfl) rfl (y_move rfl) ?_
     refine still_y (wg 2 false 18 rfl rfl rfl rfl) rfl (y_gtr rfl rfl) ?_
     refine still_y (wg 2 false 18 rfl rfl rfl rfl) rfl (y_move rfl) ?_
     obtain ⟨o21, h, ho22⟩ := bindJ_some h
     refine still_cut 35 (Bool) (fun σ => [(3, qI i_5), (0, l_0v), (18, .bool false), (56, .bool σ)]) (fun σ => [ro l_0v 20 (l_0.map S_api_Segment.enc)]) (fun σ => o21 = .go σ) (fun L23 hL24 => ?_) ?_
     ·refine still_split 21 (decide (0 < i_5)) rfl (fun hg25 => ?_) (fun hg25 => ?_)
      ·replace h := cond_t h hg25
       refine still_y (wg 5 true 21 rfl rfl rfl rfl) rfl (y_move rfl) ?_
       refine still_y (wg 5 true 21 rfl rfl rfl rfl) rfl (y_move rfl) ?_
       refine still_y (wg 5 true 21 rfl rfl rfl rfl) rfl (y_indexAddrI (kd := .i64) (i := i_5) 0 Tryz.runUnderlying22 Tryz.sizeOf57 rfl rfl rfl reads_ro hzx11 (map_lt hlx11)) ?_
       refine still_y (wg 5 true 21 rfl rfl rfl rfl) rfl (y_fieldAddr_elem (sz := 0) Tryz.runUnderlying57 rfl Tryz.sizeOf3 rfl) ?_
       refine still_y (wg 5 true 21 rfl rfl rfl rfl) rfl (y_load_field (i := i_5.toNat) (j := 0) 0 Tryz.isAgg3 rfl rfl reads_ro (map_get hxx11) rfl) ?_
       refine still_y (wg 5 true 21 rfl rfl rfl rfl) rfl (y_move rfl) ?_
       refine still_y (wg 5 true 21 rfl rfl rfl rfl) rfl (y_move rfl) ?_
       refine still_y (wg 5 true 21 rfl rfl rfl rfl) rfl (y_sub rfl rfl) ?_
       obtain ⟨x26, hzx26, hlx26, hxx26, h⟩ := idx_some h
       refine still_y (wg 5 true 21 rfl rfl rfl rfl) rfl (y_indexAddrI (kd := .i64) (i := (IntKind.i64.wrap (i_5 - 1))) 0 Tryz.runUnderlying22 Tryz.sizeOf57 rfl rfl rfl reads_ro hzx26 (map_lt hlx26)) ?_
       refine still_y (wg 5 true 21 rfl rfl rfl rfl) rfl (y_fieldAddr_elem (sz := 0) Tryz.runUnderlying57 rfl Tryz.sizeOf3 rfl) ?_
       refine still_y (wg 5 true 21 rfl rfl rfl rfl) rfl (y_load_field (i := ((IntKind.i64.wrap (i_5 - 1))).toNat) (j := 0) 0 Tryz.isAgg3 rfl rfl reads_ro (map_get hxx26) rfl) ?_
       refine still_y (wg 5 true 21 rfl rfl rfl rfl) rfl (y_add rfl rfl) ?_
       refine still_y (wg 5 true 21 rfl rfl rfl rfl) rfl (y_neq rfl rfl) ?_
       refine still_y (wg 5 true 21 rfl rfl rfl rfl) rfl (y_move rfl) ?_
       refine still_cut 20 (Bool) (fun σ => [(3, qI i_5), (0, l_0v), (18, .bool false), (21, .bool true), (55, .bool σ)]) (fun σ => [ro l_0v 20 (l_0.map S_api_Segment.enc)]) (fun σ => σ = (decide (x11.Num ≠ (IntKind.i64.wrap (x26.Num + 1))) || decide (x11.Begin ≠ (IntKind.i64.wrap (x26.Begin + x26.Len))))) (fun L27 hL28 => ?_) ?_
       ·refine still_split 35 (decide (x11.Num ≠ (IntKind.i64.wrap (x26.Num + 1)))) rfl (fun hg29 => ?_) (fun hg29 => ?_)
        ·skip
         refine still_no 19 false 35 rfl rfl rfl rfl rfl ?_
         refine still_no 19 false 35 rfl rfl rfl rfl rfl ?_
         refine still_no 19 false 35 rfl rfl rfl rfl rfl ?_
         refine still_no 19 false 35 rfl rfl rfl rfl rfl ?_
         refine still_no 19 false 35 rfl rfl rfl rfl rfl ?_
         refine still_no 19 false 35 rfl rfl rfl rfl rfl ?_
         refine still_no 19 false 35 rfl rfl rfl rfl rfl ?_
         refine still_no 19 false 35 rfl rfl rfl rfl rfl ?_
         refine still_no 19 false 35 rfl rfl rfl rfl rfl ?_
         refine still_no 19 false 35 rfl rfl rfl rfl rfl ?_
         refine still_no 19 false 35 rfl rfl rfl rfl rfl ?_
         refine still_no 19 false 35 rfl rfl rfl rfl rfl ?_
         refine still_no 19 false 35 rfl rfl rfl rfl rfl ?_
         refine still_no 19 false 35 rfl rfl rfl rfl rfl ?_
         refine still_no 19 false 35 rfl rfl rfl rfl rfl ?_
         refine still_no 19 false 35 rfl rfl rfl rfl rfl ?_
         refine still_no 19 false 35 rfl rfl rfl rfl rfl ?_
         refine still_no 19 false 35 rfl rfl rfl rfl rfl ?_
         refine still_no 19 false 35 rfl rfl rfl rfl rfl ?_
         refine still_y (wg 5 true 21 rfl rfl rfl rfl) rfl (y_pick (b := true) rfl rfl) ?_
         refine still_nil ?_
         exact goes_cut hL28 true [0] (qv5 rfl rfl rfl rfl rfl) (by decide) rfl (by rw [hg29]; simp)
        ·skip
         refine still_y (wg 19 false 35 rfl rfl rfl rfl) rfl (y_move rfl) ?_
         refine still_y (wg 19 false 35 rfl rfl rfl rfl) rfl (y_move rfl) ?_
         refine still_y (wg 19 false 35 rfl rfl rfl rfl) rfl (y_indexAddrI (kd := .i64) (i := i_5) 0 Tryz.runUnderlying22 Tryz.sizeOf57 rfl rfl rfl reads_ro hzx11 (map_lt hlx11)) ?_
         refine still_y (wg 19 false 35 rfl rfl rfl rfl) rfl (y_fieldAddr_elem (sz := 0) Tryz.runUnderlying57 rfl Tryz.sizeOf3 rfl) ?_
         refine still_y (wg 19 false 35 rfl rfl rfl rfl) rfl (y_load_field (i := i_5.toNat) (j := 1) 0 Tryz.isAgg3 rfl rfl reads_ro (map_get hxx11) rfl) ?_
         refine still_y (wg 19 false 35 rfl rfl rfl rfl) rfl (y_move rfl) ?_
         refine still_y (wg 19 false 35 rfl rfl rfl rfl) rfl (y_move rfl) ?_
         refine still_y (wg 19 false 35 rfl rfl rfl rfl) rfl (y_sub rfl rfl) ?_
         refine still_y (wg 19 false 35 rfl rfl rfl rfl) rfl (y_indexAddrI (kd := .i64) (i := (IntKind.i64.wrap (i_5 - 1))) 0 Tryz.runUnderlying22 Tryz.sizeOf57 rfl rfl rfl reads_ro hzx26 (map_lt hlx26)) ?_
         refine still_y (wg 19 false 35 rfl rfl rfl rfl) rfl (y_fieldAddr_elem (sz := 0) Tryz.runUnderlying57 rfl Tryz.sizeOf3 rfl) ?_
         refine still_y (wg 19 false 35 rfl rfl rfl rfl) rfl (y_load_field (i := ((IntKind.i64.wrap (i_5 - 1))).toNat) (j := 1) 0 Tryz.isAgg3 rfl rfl reads_ro (map_get hxx26) rfl) ?_
         refine still_y (wg 19 false 35 rfl rfl rfl rfl) rfl (y_move rfl) ?_
         refine still_y (wg 19 false 35 rfl rfl rfl rfl) rfl (y_move rfl) ?_
         refine still_y (wg 19 false 35 rfl rfl rfl rfl) rfl (y_sub rfl rfl) ?_
         refine still_y (wg 19 false 35 rfl rfl rfl rfl) rfl (y_indexAddrI (kd := .i64) (i := (IntKind.i64.wrap (i_5 - 1))) 0 Tryz.runUnderlying22 Tryz.sizeOf57 rfl rfl rfl reads_ro hzx26 (map_lt hlx26)) ?_
         refine still_y (wg 19 false 35 rfl rfl rfl rfl) rfl (y_fieldAddr_elem (sz := 0) Tryz.runUnderlying57 rfl Tryz.sizeOf3 rfl) ?_
         refine still_y (wg 19 false 35 rfl rfl rfl rfl) rfl (y_load_field (i := ((IntKind.i64.wrap (i_5 - 1))).toNat) (j := 2) 0 Tryz.isAgg3 rfl rfl reads_ro (map_get hxx26) rfl) ?_
         refine still_y (wg 19 false 35 rfl rfl rfl rfl) rfl (y_add rfl rfl) ?_
         refine still_y (wg 19 false 35 rfl rfl rfl rfl) rfl (y_neq rfl rfl) ?_
         refine still_y (wg 5 true 21 rfl rfl rfl rfl) rfl (y_pick (b := false) rfl rfl) ?_
         refine still_nil ?_
         exact goes_cut hL28 (decide (x11.Begin ≠ (IntKind.i64.wrap (x26.Begin + x26.Len)))) [0] (qv5 rfl rfl rfl rfl rfl) (by decide) rfl (by rw [hg29]; simp)
       rintro _ rfl
       refine still_y (wg 2 false 18 rfl rfl rfl rfl) rfl (y_pick (b := true) rfl rfl) ?_
       refine still_nil ?_
       obtain rfl := some_eq h
       exact goes_cut hL24 (decide (x11.Num ≠ (IntKind.i64.wrap (x26.Num + 1))) || decide (x11.Begin ≠ (IntKind.i64.wrap (x26.Begin + x26.Len)))) [0] (qv4 rfl rfl rfl rfl) (by decide) rfl rfl
      ·replace h := cond_f h hg25
       refine still_no 5 true 21 rfl rfl rfl rfl rfl ?_
       refine still_no 5 true 21 rfl rfl rfl rfl rfl ?_
       refine still_no 5 true 21 rfl rfl rfl rfl rfl ?_
       refine still_no 5 true 21 rfl rfl rfl rfl rfl ?_
       refine still_no 5 true 21 rfl rfl rfl rfl rfl ?_
       refine still_no 5 true 21 rfl rfl rfl rfl rfl ?_
       refine still_no 5 true 21 rfl rfl rfl rfl rfl ?_
       refine still_no 5 true 21 rfl rfl rfl rfl rfl ?_
       refine still_no 5 true 21 rfl rfl rfl rfl rfl ?_
       refine still_no 5 true 21 rfl rfl rfl rfl rfl ?_
       refine still_no 5 true 21 rfl rfl rfl rfl rfl ?_
       refine still_no 5 true 21 rfl rfl rfl rfl rfl ?_
       refine still_no 5 true 21 rfl rfl rfl rfl rfl ?_
       refine still_no 5 true 21 rfl rfl rfl rfl rfl ?_
       refine still_un 19 false 35 rfl rfl rfl rfl rfl ?_
       refine still_un 19 false 35 rfl rfl rfl rfl rfl ?_
       refine still_un 19 false 35 rfl rfl rfl rfl rfl ?_
       refine still_un 19 false 35 rfl rfl rfl rfl rfl ?_
       refine still_un 19 false 35 rfl rfl rfl rfl rfl ?_
       refine still_un 19 false 35 rfl rfl rfl rfl rfl ?_
       refine still_un 19 false 35 rfl rfl rfl rfl rfl ?_
       refine still_un 19 false 35 rfl rfl rfl rfl rfl ?_
       refine still_un 19 false 35 rfl rfl rfl rfl rfl ?_
       refine still_un 19 false 35 rfl rfl rfl rfl rfl ?_
       refine still_un 19 false 35 rfl rfl rfl rfl rfl ?_
       refine still_un 19 false 35 rfl rfl rfl rfl rfl ?_
       refine still_un 19 false 35 rfl rfl rfl rfl rfl ?_
       refine still_un 19 false 35 rfl rfl rfl rfl rfl ?_
       refine still_un 19 false 35 rfl rfl rfl rfl rfl ?_
       refine still_un 19 false 35 rfl rfl rfl rfl rfl ?_
       refine still_un 19 false 35 rfl rfl rfl rfl rfl ?_
       refine still_un 19 false 35 rfl rfl rfl rfl rfl ?_
       refine still_un 19 false 35 rfl rfl rfl rfl rfl ?_
       refine still_no 5 true 21 rfl rfl rfl rfl rfl ?_
       refine still_y (wg 2 false 18 rfl rfl rfl rfl) rfl (y_pick (b := false) rfl rfl) ?_
       refine still_nil ?_
       obtain rfl := some_eq h
       exact goes_cut hL24 false [0] (qv4 rfl rfl rfl rfl) (by decide) rfl rfl
     rintro b20 hj
     obtain rfl : o21 = _ := hj
     replace h := after_go ho22
     clear ho22
     refine sy rfl rfl (y_pick (b := false) rfl rfl) ?_
     refine still_nil ?_
     obtain rfl := some_eq h
     exact goes_cut hL18 b20 [0] (qv3 rfl rfl rfl) (by decide) rfl rfl
   rintro b14 hj
   obtain rfl : o15 = _ := hj
   replace h := after_go ho16
   clear ho16
   refine still_nil ?_
   refine goes_code ?_
   refine run_cond b14 rfl (fun hc30 => ?_) (fun hc30 => ?_)
   ·replace h := cond_t h hc30
    refine run_seq ?_
    refine run_region' ?_
    refine oy rfl rfl (y_assign rfl) ?_
    refine ops_nil ?_
    refine goes_code ?_
    refine run_ret ?_
    obtain rfl := some_eq h
    obtain rfl := hstop8 _ rfl
    skip
    obtain rfl := after_stop ho2
    refine fin_slots [2] [.bool false] [] [] Tryz.results35 rfl (by decide) rfl ?_
    exact ⟨rfl, rfl⟩
   ·replace h := cond_f h hc30
    refine run_skip ?_
    refine goes_blk ?_
    refine goes_code ?_
    refine run_region' ?_
    refine oy rfl rfl (y_move rfl) ?_
    refine oy rfl rfl (y_add rfl rfl) ?_
    refine oy rfl rfl (y_assign rfl) ?_
    refine ops_nil ?_
    obtain rfl := some_eq h
    exact goes_iter hgo7 (IntKind.i64.wrap (i_5 + 1)) () [0] rfl (qv2 rfl rfl) (by decide) rfl
  ·replace h := cond_f h hc10
   refine run_exit _ rfl ?_
   obtain rfl := some_eq h
   obtain rfl := hstop8 _ rfl
   exact goes_cut hL3 ((), ()) [0] (qv1 rfl) (by decide) rfl rfl
 rintro ⟨_, _⟩ hj
 obtain rfl : o1 = _ := hj
 replace h := after_go ho2
 clear ho2
 change Run _ _ _ (VF.of [(0, l_0v)]) [ro l_0v 20 (l_0.map S_api_Segment.enc)]
 refine run_seq ?_
 refine run_region' ?_
 refine oy rfl rfl (y_move rfl) ?_
 refine oy rfl rfl ((y_len 0 rfl Tryz.runUnderlying22 rfl rfl reads_ro).to (v_len S_api_Segment.enc _)) ?_
 refine oy rfl rfl (y_leq rfl rfl) ?_
 refine oy rfl rfl (y_assign rfl) ?_
 refine ops_nil ?_
 refine goes_code ?_
 refine run_ret ?_
 obtain rfl := some_eq h
 refine fin_slots [2] [.bool (decide ((l_0.length : Int) ≤ 1000))] [] [] Tryz.results35 rfl (by decide) rfl ?_
 exact ⟨rfl, rfl⟩

def ref43_Valid (n : Nat) (p_0 : S_api_Playlist) : Option (Bool) :=
 bindJ (S := Bool)
  (cond ((decide (p_0.First < 0) || decide (1099511627776 < p_0.First)) || decide (100 < (p_0.L.length : Int)))
   (some (.go true))
   (bindJ (S := Bool)
    (cond (decide (0 < (p_0.L.length : Int)))
     (idx p_0.L 0 fun x20 =>
     some (.go (decide (x20.Num ≠ p_0.First))))
     (some (.go false)))
   (fun b14 =>
    some (.go b14))))
 (fun b8 =>
  cond b8
   (some false)
   (obind (ref43_Stream n p_0.L) fun r22 =>
   some r22))
theorem ref43_Valid_ok (n : Nat) (p_0 : S_api_Playlist) (p_0_Lv : Value) {r : Bool} (h : ref43_Valid n p_0 = some r) :
  Meets Tryz.prog 7 [.agg #[.int .i64 p_0.First, p_0_Lv, .bool p_0.Done]] [ro p_0_Lv 20 (p_0.L.map S_api_Segment.enc)] (fun v G => v = .bool r ∧ G = []) := by
 refine fn_of_run Tryz.func7 rfl Tryz.ntmps7 rfl (fun w0 o0 => ?_)
 refine run_seq ?_
 refine run_region' ?_
 refine ot rfl rfl (t_box rfl) ?_
 rintro _ _ ⟨b1, rfl, rfl⟩
 refine oy rfl rfl (y_assign rfl) ?_
 refine ops_nil ?_
 refine goes_code ?_
 refine run_seq ?_
 refine run_seq ?_
 refine run_draw (by kernel_rfl) (by kernel_rfl) ?_
 refine sy rfl rfl (y_fieldAddr_box (sz := 0) Tryz.runUnderlying24 rfl Tryz.sizeOf3 rfl) ?_
 refine sy rfl rfl (y_load_box 1 Tryz.isAgg3 rfl rfl rfl) ?_
 refine sy rfl rfl (y_lss rfl rfl) ?_
 refine sy rfl rfl (y_move rfl) ?_
 refine still_cut 4 (Bool) (fun σ => [(1, boxP b1 0), (10, .bool σ)]) (fun σ => [ro p_0_Lv 20 (p_0.L.map S_api_Segment.enc), box b1 [qI p_0.First, p_0_Lv, .bool p_0.Done]]) (fun σ => σ = (decide (p_0.First < 0) || decide (1099511627776 < p_0.First))) (fun L2 hL3 => ?_) ?_
 ·refine still_split 6 (decide (p_0.First < 0)) rfl (fun hg4 => ?_) (fun hg4 => ?_)
  ·skip
   refine still_no 3 false 6 rfl rfl rfl rfl rfl ?_
   refine still_no 3 false 6 rfl rfl rfl rfl rfl ?_
   refine still_no 3 false 6 rfl rfl rfl rfl rfl ?_
   refine sy rfl rfl (y_pick (b := true) rfl rfl) ?_
   refine still_nil ?_
   exact goes_cut hL3 true [0, 1] (qv2 rfl rfl) (by decide) rfl (by rw [hg4]; simp)
  ·skip
   refine still_y (wg 3 false 6 rfl rfl rfl rfl) rfl (y_fieldAddr_box (sz := 0) Tryz.runUnderlying24 rfl Tryz.sizeOf3 rfl) ?_
   refine still_y (wg 3 false 6 rfl rfl rfl rfl) rfl (y_load_box 1 Tryz.isAgg3 rfl rfl rfl) ?_
   refine still_y (wg 3 false 6 rfl rfl rfl rfl) rfl (y_gtr rfl rfl) ?_
   refine sy rfl rfl (y_pick (b := false) rfl rfl) ?_
   refine still_nil ?_
   exact goes_cut hL3 (decide (1099511627776 < p_0.First)) [0, 1] (qv2 rfl rfl) (by decide) rfl (by rw [hg4]; simp)
 rintro _ rfl
 refine sy rfl rfl (y_move rfl) ?_
 refine still_cut 5 (Bool) (fun σ => [(1, boxP b1 0), (16, .bool σ)]) (fun σ => [ro p_0_Lv 20 (p_0.L.map S_api_Segment.enc), box b1 [qI p_0.First, p_0_Lv, .bool p_0.Done]]) (fun σ => σ = ((decide (p_0.First < 0) || decide (1099511627776 < p_0.First)) || decide (100 < (p_0.L.length : Int)))) (fun L5 hL6 => ?_) ?_
 ·refine still_split 11 (decide (p_0.First < 0) || decide (1099511627776 < p_0.First)) rfl (fun hg7 => ?_) (fun hg7 => ?_)
  ·skip
   refine still_no 8 false 11 rfl rfl rfl rfl rfl ?_
   refine still_no 8 false 11 rfl rfl rfl rfl rfl ?_
   refine still_no 8 false 11 rfl rfl rfl rfl rfl ?_
   refine still_no 8 false 11 rfl rfl rfl rfl rfl ?_
   refine sy rfl rfl (y_pick (b := true) rfl rfl) ?_
   refine still_nil ?_
   exact goes_cut hL6 true [0, 1] (qv2 rfl rfl) (by decide) rfl (by rw [hg7]; simp)
  ·skip
   refine still_y (wg 8 false 11 rfl rfl rfl rfl) rfl (y_fieldAddr_box (sz := 0) Tryz.runUnderlying24 rfl Tryz.sizeOf22 rfl) ?_
   refine still_y (wg 8 false 11 rfl rfl rfl rfl) rfl (y_load_box 1 Tryz.isAgg22 rfl rfl rfl) ?_
   refine still_y (wg 8 false 11 rfl rfl rfl rfl) rfl ((y_len 0 rfl Tryz.runUnderlying22 rfl rfl reads_ro).to (v_len S_api_Segment.enc _)) ?_
   refine still_y (wg 8 false 11 rfl rfl rfl rfl) rfl (y_gtr rfl rfl) ?_
   refine sy rfl rfl (y_pick (b := false) rfl rfl) ?_
   refine still_nil ?_
   exact goes_cut hL6 (decide (100 < (p_0.L.length : Int))) [0, 1] (qv2 rfl rfl) (by decide) rfl (by rw [hg7]; simp)
 rintro _ rfl
 refine sy rfl rfl (y_move rfl) ?_
 obtain ⟨o9, h, ho10⟩ := bindJ_some h
 refine still_cut 15 (Bool) (fun σ => [(1, boxP b1 0), (32, .bool σ)]) (fun σ => [ro p_0_Lv 20 (p_0.L.map S_api_Segment.enc), box b1 [qI p_0.First, p_0_Lv, .bool p_0.Done]]) (fun σ => o9 = .go σ) (fun L11 hL12 => ?_) ?_
 ·refine still_split 17 ((decide (p_0.First < 0) || decide (1099511627776 < p_0.First)) || decide (100 < (p_0.L.length : Int))) rfl (fun hg13 => ?_) (fun hg13 => ?_)
  ·replace h := cond_t h hg13
   refine still_no 14 false 17 rfl rfl rfl rfl rfl ?_
   refine still_no 14 false 17 rfl rfl rfl rfl rfl ?_
   refine still_no 14 false 17 rfl rfl rfl rfl rfl ?_
   refine still_no 14 false 17 rfl rfl rfl rfl rfl ?_
   refine still_no 14 false 17 rfl rfl rfl rfl rfl ?_
   refine still_un 19 true 22 rfl rfl rfl rfl rfl ?_
   refine still_un 19 true 22 rfl rfl rfl rfl rfl ?_
   refine still_un 19 true 22 rfl rfl rfl rfl rfl ?_
   refine still_un 19 true 22 rfl rfl rfl rfl rfl ?_
   refine still_un 19 true 22 rfl rfl rfl rfl rfl ?_
   refine still_un 19 true 22 rfl rfl rfl rfl rfl ?_
   refine still_un 19 true 22 rfl rfl rfl rfl rfl ?_
   refine still_un 19 true 22 rfl rfl rfl rfl rfl ?_
   refine still_no 14 false 17 rfl rfl rfl rfl rfl ?_
   refine sy rfl rfl (y_pick (b := true) rfl rfl) ?_
   refine still_nil ?_
   obtain rfl := some_eq h
   exact goes_cut hL12 true [0, 1] (qv2 rfl rfl) (by decide) rfl rfl
  ·replace h := cond_f h hg13
   refine still_y (wg 14 false 17 rfl rfl rfl rfl) rfl (y_fieldAddr_box (sz := 0) Tryz.runUnderlying24 rfl Tryz.sizeOf22 rfl) ?_
   refine still_y (wg 14 false 17 rfl rfl rfl rfl) rfl (y_load_box 1 Tryz.isAgg22 rfl rfl rfl) ?_
   refine still_y (wg 14 false 17 rfl rfl rfl rfl) rfl ((y_len 0 rfl Tryz.runUnderlying22 rfl rfl reads_ro).to (v_len S_api_Segment.enc _)) ?_
   refine still_y (wg 14 false 17 rfl rfl rfl rfl) rfl (y_gtr rfl rfl) ?_
   refine still_y (wg 14 false 17 rfl rfl rfl rfl) rfl (y_move rfl) ?_
   obtain ⟨o15, h, ho16⟩ := bindJ_some h
   refine still_cut 9 (Bool) (fun σ => [(1, boxP b1 0), (17, .bool false), (31, .bool σ)]) (fun σ => [ro p_0_Lv 20 (p_0.L.map S_api_Segment.enc), box b1 [qI p_0.First, p_0_Lv, .bool p_0.Done]]) (fun σ => o15 = .go σ) (fun L17 hL18 => ?_) ?_
   ·refine still_split 22 (decide (0 < (p_0.L.length : Int))) rfl (fun hg19 => ?_) (fun hg19 => ?_)
    ·replace h := cond_t h hg19
     refine still_y (wg 19 true 22 rfl rfl rfl rfl) rfl (y_fieldAddr_box (sz := 0) Tryz.runUnderlying24 rfl Tryz.sizeOf22 rfl) ?_
     refine still_y (wg 19 true 22 rfl rfl rfl rfl) rfl (y_load_box 1 Tryz.isAgg22 rfl rfl rfl) ?_
     obtain ⟨x20, hzx20, hlx20, hxx20, h⟩ := idx_some h
     refine still_y (wg 19 true 22 rfl rfl rfl rfl) rfl (y_indexAddrI (kd := .i64) (i := 0) 0 Tryz.runUnderlying22 Tryz.sizeOf57 rfl rfl rfl reads_ro hzx20 (map_lt hlx20)) ?_
     refine still_y (wg 19 true 22 rfl rfl rfl rfl) rfl (y_fieldAddr_elem (sz := 0) Tryz.runUnderlying57 rfl Tryz.sizeOf3 rfl) ?_
     refine still_y (wg 19 true 22 rfl rfl rfl rfl) rfl (y_load_field (i := (0 : Int).toNat) (j := 0) 0 Tryz.isAgg3 rfl rfl reads_ro (map_get hxx20) rfl) ?_
     refine still_y (wg 19 true 22 rfl rfl rfl rfl) rfl (y_fieldAddr_box (sz := 0) Tryz.runUnderlying24 rfl Tryz.sizeOf3 rfl) ?_
     refine still_y (wg 19 true 22 rfl rfl rfl rfl) rfl (y_load_box 1 Tryz.isAgg3 rfl rfl rfl) ?_
     refine still_y (wg 19 true 22 rfl rfl rfl rfl) rfl (y_neq rfl rfl) ?_
     refine still_y (wg 14 false 17 rfl rfl rfl rfl) rfl (y_pick (b := true) rfl rfl) ?_
     refine still_nil ?_
     obtain rfl := some_eq h
     exact goes_cut hL18 (decide (x20.Num ≠ p_0.First)) [0, 1] (qv3 rfl rfl rfl) (by decide) rfl rfl
    ·replace h := cond_f h hg19
     refine still_no 19 true 22 rfl rfl rfl rfl rfl ?_
     refine still_no 19 true 22 rfl rfl rfl rfl rfl ?_
     refine still_no 19 true 22 rfl rfl rfl rfl rfl ?_
     refine still_no 19 true 22 rfl rfl rfl rfl rfl ?_
     refine still_no 19 true 22 rfl rfl rfl rfl rfl ?_
     refine still_no 19 true 22 rfl rfl rfl rfl rfl ?_
     refine still_no 19 true 22 rfl rfl rfl rfl rfl ?_
     refine still_no 19 true 22 rfl rfl rfl rfl rfl ?_
     refine still_y (wg 14 false 17 rfl rfl rfl rfl) rfl (y_pick (b := false) rfl rfl) ?_
     refine still_nil ?_
     obtain rfl := some_eq h
     exact goes_cut hL18 false [0, 1] (qv3 rfl rfl rfl) (by decide) rfl rfl
   rintro b14 hj
   obtain rfl : o15 = _ := hj
   replace h := after_go ho16
   clear ho16
   refine sy rfl rfl (y_pick (b := false) rfl rfl) ?_
   refine still_nil ?_
   obtain rfl := some_eq h
   exact goes_cut hL12 b14 [0, 1] (qv2 rfl rfl) (by decide) rfl rfl
 rintro b8 hj
 obtain rfl : o9 = _ := hj
 replace h := after_go ho10
 clear ho10
 refine still_nil ?_
 refine goes_code ?_
 refine run_cond b8 rfl (fun hc21 => ?_) (fun hc21 => ?_)
 ·replace h := cond_t h hc21
  refine run_seq ?_
  refine run_region' ?_
  refine oy rfl rfl (y_assign rfl) ?_
  refine ops_nil ?_
  refine goes_code ?_
  refine run_ret ?_
  obtain rfl := some_eq h
  refine fin_slots [2] [.bool false] [] [] Tryz.results7 rfl (by decide) rfl ?_
  exact ⟨rfl, rfl⟩
 ·replace h := cond_f h hc21
  refine run_skip ?_
  refine goes_code ?_
  refine run_seq ?_
  refine run_region' ?_
  refine oy rfl rfl (y_fieldAddr_box (sz := 0) Tryz.runUnderlying24 rfl Tryz.sizeOf22 rfl) ?_
  refine oy rfl rfl (y_load_box 1 Tryz.isAgg22 rfl rfl rfl) ?_
  obtain ⟨r22, hr23, h⟩ := obind_some h
  refine ot rfl rfl (t_callx (vs := [p_0_Lv]) (cs := []) [(0, 0)] rfl Tryz.call35 rfl (ref43_Stream_ok n p_0.L p_0_Lv hr23) (showsX_view 0 rfl views_ro showsX_nil) rfl (.inl rfl)) ?_
  rintro _ _ ⟨_, ⟨rfl, rfl⟩, rfl⟩
  refine oy rfl rfl (y_assign rfl) ?_
  refine ops_nil ?_
  refine goes_code ?_
  refine run_ret ?_
  obtain rfl := some_eq h
  refine fin_slots [2] [.bool r22] [] [] Tryz.results7 rfl (by decide) rfl ?_
  exact ⟨rfl, rfl⟩

def ref43_wide (n_0 : Int) : Option (Bool) :=
 some (decide (1 ≤ n_0) && decide (n_0 ≤ 100))
theorem ref43_wide_ok (n_0 : Int)  {r : Bool} (h : ref43_wide n_0 = some r) :
  Meets Tryz.prog 42 [.int .i64 n_0] [] (fun v G => v = .bool r ∧ G = []) := by
 refine fn_of_run Tryz.func42 rfl Tryz.ntmps42 rfl (fun w0 o0 => ?_)
 refine run_seq ?_
 refine run_region' ?_
 refine oy rfl rfl (y_assign rfl) ?_
 refine ops_nil ?_
 refine goes_code ?_
 refine run_seq ?_
 refine run_region' ?_
 refine oy rfl rfl (y_move rfl) ?_
 refine oy rfl rfl (y_geq rfl rfl) ?_
 refine oy rfl rfl (y_move rfl) ?_
 refine ops_cut 3 (Bool) (fun σ => [(8, .bool σ)]) (fun σ => []) (fun σ => σ = (decide (1 ≤ n_0) && decide (n_0 ≤ 100))) (fun L1 hL2 => ?_) ?_
 ·refine ops_split 5 (decide (1 ≤ n_0)) rfl (fun hg3 => ?_) (fun hg3 => ?_)
  ·skip
   refine ops_y (wg 2 true 5 rfl rfl rfl rfl) rfl (y_move rfl) ?_
   refine ops_y (wg 2 true 5 rfl rfl rfl rfl) rfl (y_leq rfl rfl) ?_
   refine oy rfl rfl (y_pick (b := true) rfl rfl) ?_
   refine ops_nil ?_
   exact goes_cut hL2 (decide (n_0 ≤ 100)) [] (qv1 rfl) (by decide) rfl (by rw [hg3]; simp)
  ·skip
   refine ops_no 2 true 5 rfl rfl rfl rfl rfl ?_
   refine ops_no 2 true 5 rfl rfl rfl rfl rfl ?_
   refine oy rfl rfl (y_pick (b := false) rfl rfl) ?_
   refine ops_nil ?_
   exact goes_cut hL2 false [] (qv1 rfl) (by decide) rfl (by rw [hg3]; simp)
 rintro _ rfl
 refine oy rfl rfl (y_assign rfl) ?_
 refine ops_nil ?_
 refine goes_code ?_
 refine run_ret ?_
 obtain rfl := some_eq h
 refine fin_slots [2] [.bool (decide (1 ≤ n_0) && decide (n_0 ≤ 100))] [] [] Tryz.results42 rfl (by decide) rfl ?_
 exact ⟨rfl, rfl⟩

def ref43_Next (p_0 : S_api_Playlist) : Option (Int) :=
 some (IntKind.i64.wrap (p_0.First + (p_0.L.length : Int)))
theorem ref43_Next_ok (p_0 : S_api_Playlist) (p_0_Lv : Value) {r : Int} (h : ref43_Next p_0 = some r) :
  Meets Tryz.prog 28 [.agg #[.int .i64 p_0.First, p_0_Lv, .bool p_0.Done]] [ro p_0_Lv 20 (p_0.L.map S_api_Segment.enc)] (fun v G => v = .int .i64 r ∧ G = []) := by
 refine fn_of_run Tryz.func28 rfl Tryz.ntmps28 rfl (fun w0 o0 => ?_)
 refine run_seq ?_
 refine run_region' ?_
 refine ot rfl rfl (t_box rfl) ?_
 rintro _ _ ⟨b1, rfl, rfl⟩
 refine oy rfl rfl (y_assign rfl) ?_
 refine ops_nil ?_
 refine goes_code ?_
 refine run_seq ?_
 refine run_region' ?_
 refine oy rfl rfl (y_fieldAddr_box (sz := 0) Tryz.runUnderlying24 rfl Tryz.sizeOf3 rfl) ?_
 refine oy rfl rfl (y_load_box 1 Tryz.isAgg3 rfl rfl rfl) ?_
 refine oy rfl rfl (y_fieldAddr_box (sz := 0) Tryz.runUnderlying24 rfl Tryz.sizeOf22 rfl) ?_
 refine oy rfl rfl (y_load_box 1 Tryz.isAgg22 rfl rfl rfl) ?_
 refine oy rfl rfl ((y_len 0 rfl Tryz.runUnderlying22 rfl rfl reads_ro).to (v_len S_api_Segment.enc _)) ?_
 refine oy rfl rfl (y_add rfl rfl) ?_
 refine oy rfl rfl (y_assign rfl) ?_
 refine ops_nil ?_
 refine goes_code ?_
 refine run_ret ?_
 obtain rfl := some_eq h
 refine fin_slots [2] [qI (IntKind.i64.wrap (p_0.First + (p_0.L.length : Int)))] [] [] Tryz.results28 rfl (by decide) rfl ?_
 exact ⟨rfl, rfl⟩

def ref43_Find_L1 (p_0 : S_api_Playlist) (num_1 : Int) : (Int) → Option (Lp (Int) (Lp (Unit) (S_ref43_Got))) :=
 fun i_7 =>
  cond (decide (i_7 < (p_0.L.length : Int)))
   (idx p_0.L i_7 fun x13 =>
   cond (decide (x13.Num = num_1))
    (some (.stop (.stop (S_ref43_Got.mk x13 0))))
    (some (.go (IntKind.i64.wrap (i_7 + 1)))))
   (some (.stop (.go ())))
def ref43_Find (n : Nat) (p_0 : S_api_Playlist) (num_1 : Int) : Option (S_ref43_Got) :=
 bindJ (S := Unit)
  (iter (ref43_Find_L1 p_0 num_1) n 0)
 (fun _ =>
  some (S_ref43_Got.mk (S_api_Segment.mk 0 0 0 (S_api_Digest.mk 0 0 0 0 0 0 0 0 0 0 0 0 0 0 0 0) 0) 5))
theorem ref43_Find_ok (n : Nat) (p_0 : S_api_Playlist) (num_1 : Int) (p_0_Lv : Value) {r : S_ref43_Got} (h : ref43_Find n p_0 num_1 = some r) :
  Meets Tryz.prog 25 [.agg #[.int .i64 p_0.First, p_0_Lv, .bool p_0.Done], .int .i64 num_1] [ro p_0_Lv 20 (p_0.L.map S_api_Segment.enc)] (fun v G => v = .agg #[.int .i64 r.S.Num, .int .i64 r.S.Begin, .int .i64 r.S.Len, .int .u8 r.S.Body.a0_, .int .u8 r.S.Body.a1_, .int .u8 r.S.Body.a2_, .int .u8 r.S.Body.a3_, .int .u8 r.S.Body.a4_, .int .u8 r.S.Body.a5_, .int .u8 r.S.Body.a6_, .int .u8 r.S.Body.a7_, .int .u8 r.S.Body.a8_, .int .u8 r.S.Body.a9_, .int .u8 r.S.Body.a10_, .int .u8 r.S.Body.a11_, .int .u8 r.S.Body.a12_, .int .u8 r.S.Body.a13_, .int .u8 r.S.Body.a14_, .int .u8 r.S.Body.a15_, .int .i64 r.S.Size, .int .i64 r.E] ∧ G = []) := by
 refine fn_of_run Tryz.func25 rfl Tryz.ntmps25 rfl (fun w0 o0 => ?_)
 refine run_seq ?_
 refine run_region' ?_
 refine ot rfl rfl (t_box rfl) ?_
 rintro _ _ ⟨b1, rfl, rfl⟩
 refine ot rfl rfl (t_alloc Tryz.zeroValue61) ?_
 rintro _ _ ⟨b2, rfl, rfl⟩
 refine ops_nil ?_
 refine goes_code ?_
 obtain ⟨o3, h, ho4⟩ := bindJ_some h
 refine run_cut ((Unit) × (Unit)) (fun σ => [(4, boxP b2 0)]) (fun σ => [box b2 [qI 0, qI 0, qI 0, qB 0, qB 0, qB 0, qB 0, qB 0, qB 0, qB 0, qB 0, qB 0, qB 0, qB 0, qB 0, qB 0, qB 0, qB 0, qB 0, qI 0, qI 0]]) (fun σ => o3 = .go σ.1) (fun L6 hL5 => ?_) ?_
 ·
  refine run_seq ?_
  refine run_region' ?_
  refine oy rfl rfl (y_assign rfl) ?_
  refine ops_nil ?_
  refine goes_code ?_
  refine run_block ?_
  refine run_iter (step := ref43_Find_L1 p_0 num_1) (n := n) (s0 := 0) h (G := Unit) () (fun σ γ => [(5, qI σ), (1, qI num_1), (2, boxP b1 0), (4, boxP b2 0)]) (fun σ γ => [box b1 [qI p_0.First, p_0_Lv, .bool p_0.Done], ro p_0_Lv 20 (p_0.L.map S_api_Segment.enc), box b2 [qI 0, qI 0, qI 0, qB 0, qB 0, qB 0, qB 0, qB 0, qB 0, qB 0, qB 0, qB 0, qB 0, qB 0, qB 0, qB 0, qB 0, qB 0, qB 0, qI 0, qI 0]]) [1, 0, 2] (qv4 rfl rfl rfl rfl) (by decide) rfl ?_
  rintro i_7 _ o8 h L11 hgo9 hstop10
  change Run _ _ _ (VF.of [(5, qI i_7), (1, qI num_1), (2, boxP b1 0), (4, boxP b2 0)]) [box b1 [qI p_0.First, p_0_Lv, .bool p_0.Done], ro p_0_Lv 20 (p_0.L.map S_api_Segment.enc), box b2 [qI 0, qI 0, qI 0, qB 0, qB 0, qB 0, qB 0, qB 0, qB 0, qB 0, qB 0, qB 0, qB 0, qB 0, qB 0, qB 0, qB 0, qB 0, qB 0, qI 0, qI 0]]
  refine run_seq ?_
  refine run_seq ?_
  refine run_region' ?_
  refine oy rfl rfl (y_move rfl) ?_
  refine oy rfl rfl (y_fieldAddr_box (sz := 0) Tryz.runUnderlying24 rfl Tryz.sizeOf22 rfl) ?_
  refine oy rfl rfl (y_load_box 0 Tryz.isAgg22 rfl rfl rfl) ?_
  refine oy rfl rfl ((y_len 1 rfl Tryz.runUnderlying22 rfl rfl reads_ro).to (v_len S_api_Segment.enc _)) ?_
  refine oy rfl rfl (y_lss rfl rfl) ?_
  refine ops_nil ?_
  refine goes_code ?_
  refine run_cond (decide (i_7 < (p_0.L.length : Int))) rfl (fun hc12 => ?_) (fun hc12 => ?_)
  ·replace h := cond_t h hc12
   refine run_skip ?_
   refine goes_code ?_
   refine run_seq ?_
   refine run_block ?_
   refine run_seq ?_
   refine run_region' ?_
   refine oy rfl rfl (y_fieldAddr_box (sz := 0) Tryz.runUnderlying24 rfl Tryz.sizeOf22 rfl) ?_
   refine oy rfl rfl (y_load_box 0 Tryz.isAgg22 rfl rfl rfl) ?_
   refine oy rfl rfl (y_move rfl) ?_
   obtain ⟨x13, hzx13, hlx13, hxx13, h⟩ := idx_some h
   refine oy rfl rfl (y_indexAddrI (kd := .i64) (i := i_7) 1 Tryz.runUnderlying22 Tryz.sizeOf57 rfl rfl rfl reads_ro hzx13 (map_lt hlx13)) ?_
   refine oy rfl rfl (y_fieldAddr_elem (sz := 0) Tryz.runUnderlying57 rfl Tryz.sizeOf3 rfl) ?_
   refine oy rfl rfl (y_load_field (i := i_7.toNat) (j := 0) 1 Tryz.isAgg3 rfl rfl reads_ro (map_get hxx13) rfl) ?_
   refine oy rfl rfl (y_move rfl) ?_
   refine oy rfl rfl (y_eql rfl rfl) ?_
   refine ops_nil ?_
   refine goes_code ?_
   refine run_cond (decide (x13.Num = num_1)) rfl (fun hc14 => ?_) (fun hc14 => ?_)
   ·replace h := cond_t h hc14
    refine run_seq ?_
    refine run_weak [(5, qI i_7), (2, boxP b1 0), (4, boxP b2 0)] [0, 1, 2] [box b1 [qI p_0.First, p_0_Lv, .bool p_0.Done], ro p_0_Lv 20 (p_0.L.map S_api_Segment.enc), box b2 [qI 0, qI 0, qI 0, qB 0, qB 0, qB 0, qB 0, qB 0, qB 0, qB 0, qB 0, qB 0, qB 0, qB 0, qB 0, qB 0, qB 0, qB 0, qB 0, qI 0, qI 0]] (qv3 rfl rfl rfl) (by decide) rfl ?_
    refine run_region' ?_
    refine oy rfl rfl (y_fieldAddr_box (sz := 0) Tryz.runUnderlying24 rfl Tryz.sizeOf22 rfl) ?_
    refine oy rfl rfl (y_load_box 0 Tryz.isAgg22 rfl rfl rfl) ?_
    refine oy rfl rfl (y_move rfl) ?_
    refine oy rfl rfl (y_indexAddrI (kd := .i64) (i := i_7) 1 Tryz.runUnderlying22 Tryz.sizeOf57 rfl rfl rfl reads_ro hzx13 (map_lt hlx13)) ?_
    refine oy rfl rfl (y_load_agg (i := i_7.toNat) (c := [qI x13.Num, qI x13.Begin, qI x13.Len, qB x13.Body.a0_, qB x13.Body.a1_, qB x13.Body.a2_, qB x13.Body.a3_, qB x13.Body.a4_, qB x13.Body.a5_, qB x13.Body.a6_, qB x13.Body.a7_, qB x13.Body.a8_, qB x13.Body.a9_, qB x13.Body.a10_, qB x13.Body.a11_, qB x13.Body.a12_, qB x13.Body.a13_, qB x13.Body.a14_, qB x13.Body.a15_, qI x13.Size]) 1 Tryz.isAgg57 Tryz.sizeOf57 rfl rfl reads_ro (map_get hxx13)) ?_
    refine oy rfl rfl (y_build_struct (cells := #[qI x13.Num, qI x13.Begin, qI x13.Len, qB x13.Body.a0_, qB x13.Body.a1_, qB x13.Body.a2_, qB x13.Body.a3_, qB x13.Body.a4_, qB x13.Body.a5_, qB x13.Body.a6_, qB x13.Body.a7_, qB x13.Body.a8_, qB x13.Body.a9_, qB x13.Body.a10_, qB x13.Body.a11_, qB x13.Body.a12_, qB x13.Body.a13_, qB x13.Body.a14_, qB x13.Body.a15_, qI x13.Size, qI 0]) [(0, .agg #[qI x13.Num, qI x13.Begin, qI x13.Len, qB x13.Body.a0_, qB x13.Body.a1_, qB x13.Body.a2_, qB x13.Body.a3_, qB x13.Body.a4_, qB x13.Body.a5_, qB x13.Body.a6_, qB x13.Body.a7_, qB x13.Body.a8_, qB x13.Body.a9_, qB x13.Body.a10_, qB x13.Body.a11_, qB x13.Body.a12_, qB x13.Body.a13_, qB x13.Body.a14_, qB x13.Body.a15_, qI x13.Size])] [(0, [qI x13.Num, qI x13.Begin, qI x13.Len, qB x13.Body.a0_, qB x13.Body.a1_, qB x13.Body.a2_, qB x13.Body.a3_, qB x13.Body.a4_, qB x13.Body.a5_, qB x13.Body.a6_, qB x13.Body.a7_, qB x13.Body.a8_, qB x13.Body.a9_, qB x13.Body.a10_, qB x13.Body.a11_, qB x13.Body.a12_, qB x13.Body.a13_, qB x13.Body.a14_, qB x13.Body.a15_, qI x13.Size])] Tryz.zeroValue61 Tryz.runUnderlying61 (fs_cons Tryz.sizeOf57 (fs_cons Tryz.sizeOf27 fs_nil)) rfl (by kernel_rfl) (by kernel_rfl)) ?_
    refine ot rfl rfl (t_store 2 Tryz.sizeOf61 rfl rfl rfl rfl (by simp [Value.cells, boxP]) (by simp [Value.cells, Value.oneCell', boxP])) ?_
    rintro _ _ ⟨rfl, rfl⟩
    refine ops_turn (retell 2 (g := box b2 [qI x13.Num, qI x13.Begin, qI x13.Len, qB x13.Body.a0_, qB x13.Body.a1_, qB x13.Body.a2_, qB x13.Body.a3_, qB x13.Body.a4_, qB x13.Body.a5_, qB x13.Body.a6_, qB x13.Body.a7_, qB x13.Body.a8_, qB x13.Body.a9_, qB x13.Body.a10_, qB x13.Body.a11_, qB x13.Body.a12_, qB x13.Body.a13_, qB x13.Body.a14_, qB x13.Body.a15_, qI x13.Size, qI 0]) rfl (by kernel_rfl)) ?_
    refine ops_nil ?_
    refine goes_code ?_
    refine run_ret ?_
    obtain rfl := some_eq h
    obtain rfl := hstop10 _ rfl
    skip
    obtain rfl := after_stop ho4
    refine fin_res [.cell 4 61] [.agg #[qI x13.Num, qI x13.Begin, qI x13.Len, qB x13.Body.a0_, qB x13.Body.a1_, qB x13.Body.a2_, qB x13.Body.a3_, qB x13.Body.a4_, qB x13.Body.a5_, qB x13.Body.a6_, qB x13.Body.a7_, qB x13.Body.a8_, qB x13.Body.a9_, qB x13.Body.a10_, qB x13.Body.a11_, qB x13.Body.a12_, qB x13.Body.a13_, qB x13.Body.a14_, qB x13.Body.a15_, qI x13.Size, qI 0]] [] [] Tryz.results25 rfl (rescons (res_box 2 Tryz.isAgg61 Tryz.sizeOf61 rfl rfl rfl) resnil) (by decide) rfl ?_
    exact ⟨rfl, rfl⟩
   ·replace h := cond_f h hc14
    refine run_skip ?_
    refine goes_blk ?_
    refine goes_code ?_
    refine run_weak [(5, qI i_7), (1, qI num_1), (2, boxP b1 0), (4, boxP b2 0)] [0, 1, 2] [box b1 [qI p_0.First, p_0_Lv, .bool p_0.Done], ro p_0_Lv 20 (p_0.L.map S_api_Segment.enc), box b2 [qI 0, qI 0, qI 0, qB 0, qB 0, qB 0, qB 0, qB 0, qB 0, qB 0, qB 0, qB 0, qB 0, qB 0, qB 0, qB 0, qB 0, qB 0, qB 0, qI 0, qI 0]] (qv4 rfl rfl rfl rfl) (by decide) rfl ?_
    refine run_region' ?_
    refine oy rfl rfl (y_move rfl) ?_
    refine oy rfl rfl (y_add rfl rfl) ?_
    refine oy rfl rfl (y_assign rfl) ?_
    refine ops_nil ?_
    obtain rfl := some_eq h
    exact goes_iter hgo9 (IntKind.i64.wrap (i_7 + 1)) () [0, 1, 2] rfl (qv4 rfl rfl rfl rfl) (by decide) rfl
  ·replace h := cond_f h hc12
   refine run_exit _ rfl ?_
   obtain rfl := some_eq h
   obtain rfl := hstop10 _ rfl
   exact goes_cut hL5 ((), ()) [2] (qv1 rfl) (by decide) rfl rfl
 rintro ⟨_, _⟩ hj
 obtain rfl : o3 = _ := hj
 replace h := after_go ho4
 clear ho4
 change Run _ _ _ (VF.of [(4, boxP b2 0)]) [box b2 [qI 0, qI 0, qI 0, qB 0, qB 0, qB 0, qB 0, qB 0, qB 0, qB 0, qB 0, qB 0, qB 0, qB 0, qB 0, qB 0, qB 0, qB 0, qB 0, qI 0, qI 0]]
 refine run_seq ?_
 refine run_region' ?_
 refine oy rfl rfl (y_build_struct (cells := #[qI 0, qI 0, qI 0, qB 0, qB 0, qB 0, qB 0, qB 0, qB 0, qB 0, qB 0, qB 0, qB 0, qB 0, qB 0, qB 0, qB 0, qB 0, qB 0, qI 0, qI 5]) [(1, qI 5)] [(1, [qI 5])] Tryz.zeroValue61 Tryz.runUnderlying61 (fs_cons Tryz.sizeOf57 (fs_cons Tryz.sizeOf27 fs_nil)) rfl (by kernel_rfl) (by kernel_rfl)) ?_
 refine ot rfl rfl (t_store 0 Tryz.sizeOf61 rfl rfl rfl rfl (by simp [Value.cells, boxP]) (by simp [Value.cells, Value.oneCell', boxP])) ?_
 rintro _ _ ⟨rfl, rfl⟩
 refine ops_turn (retell 0 (g := box b2 [qI 0, qI 0, qI 0, qB 0, qB 0, qB 0, qB 0, qB 0, qB 0, qB 0, qB 0, qB 0, qB 0, qB 0, qB 0, qB 0, qB 0, qB 0, qB 0, qI 0, qI 5]) rfl (by kernel_rfl)) ?_
 refine ops_nil ?_
 refine goes_code ?_
 refine run_ret ?_
 obtain rfl := some_eq h
 refine fin_res [.cell 4 61] [.agg #[qI 0, qI 0, qI 0, qB 0, qB 0, qB 0, qB 0, qB 0, qB 0, qB 0, qB 0, qB 0, qB 0, qB 0, qB 0, qB 0, qB 0, qB 0, qB 0, qI 0, qI 5]] [] [] Tryz.results25 rfl (rescons (res_box 0 Tryz.isAgg61 Tryz.sizeOf61 rfl rfl rfl) resnil) (by decide) rfl ?_
 exact ⟨rfl, rfl⟩

def ref43_Edge (p_0 : S_api_Playlist) : Option (Int) :=
 cond (decide ((p_0.L.length : Int) = 0))
  (some 0)
  (idx p_0.L (IntKind.i64.wrap ((p_0.L.length : Int) - 1)) fun x3 =>
  some (IntKind.i64.wrap (x3.Begin + x3.Len)))
theorem ref43_Edge_ok (p_0 : S_api_Playlist) (p_0_Lv : Value) {r : Int} (h : ref43_Edge p_0 = some r) :
  Meets Tryz.prog 30 [.agg #[.int .i64 p_0.First, p_0_Lv, .bool p_0.Done]] [ro p_0_Lv 20 (p_0.L.map S_api_Segment.enc)] (fun v G => v = .int .i64 r ∧ G = []) := by
 refine fn_of_run Tryz.func30 rfl Tryz.ntmps30 rfl (fun w0 o0 => ?_)
 refine run_seq ?_
 refine run_region' ?_
 refine ot rfl rfl (t_box rfl) ?_
 rintro _ _ ⟨b1, rfl, rfl⟩
 refine oy rfl rfl (y_assign rfl) ?_
 refine ops_nil ?_
 refine goes_code ?_
 refine run_seq ?_
 refine run_seq ?_
 refine run_region' ?_
 refine oy rfl rfl (y_fieldAddr_box (sz := 0) Tryz.runUnderlying24 rfl Tryz.sizeOf22 rfl) ?_
 refine oy rfl rfl (y_load_box 1 Tryz.isAgg22 rfl rfl rfl) ?_
 refine oy rfl rfl ((y_len 0 rfl Tryz.runUnderlying22 rfl rfl reads_ro).to (v_len S_api_Segment.enc _)) ?_
 refine oy rfl rfl (y_eql rfl rfl) ?_
 refine ops_nil ?_
 refine goes_code ?_
 refine run_cond (decide ((p_0.L.length : Int) = 0)) rfl (fun hc2 => ?_) (fun hc2 => ?_)
 ·replace h := cond_t h hc2
  refine run_seq ?_
  refine run_region' ?_
  refine oy rfl rfl (y_assign rfl) ?_
  refine ops_nil ?_
  refine goes_code ?_
  refine run_ret ?_
  obtain rfl := some_eq h
  refine fin_slots [2] [qI 0] [] [] Tryz.results30 rfl (by decide) rfl ?_
  exact ⟨rfl, rfl⟩
 ·replace h := cond_f h hc2
  refine run_skip ?_
  refine goes_code ?_
  refine run_seq ?_
  refine run_region' ?_
  refine oy rfl rfl (y_fieldAddr_box (sz := 0) Tryz.runUnderlying24 rfl Tryz.sizeOf22 rfl) ?_
  refine oy rfl rfl (y_load_box 1 Tryz.isAgg22 rfl rfl rfl) ?_
  refine oy rfl rfl (y_fieldAddr_box (sz := 0) Tryz.runUnderlying24 rfl Tryz.sizeOf22 rfl) ?_
  refine oy rfl rfl (y_load_box 1 Tryz.isAgg22 rfl rfl rfl) ?_
  refine oy rfl rfl ((y_len 0 rfl Tryz.runUnderlying22 rfl rfl reads_ro).to (v_len S_api_Segment.enc _)) ?_
  refine oy rfl rfl (y_sub rfl rfl) ?_
  obtain ⟨x3, hzx3, hlx3, hxx3, h⟩ := idx_some h
  refine oy rfl rfl (y_indexAddrI (kd := .i64) (i := (IntKind.i64.wrap ((p_0.L.length : Int) - 1))) 0 Tryz.runUnderlying22 Tryz.sizeOf57 rfl rfl rfl reads_ro hzx3 (map_lt hlx3)) ?_
  refine oy rfl rfl (y_load_agg (i := ((IntKind.i64.wrap ((p_0.L.length : Int) - 1))).toNat) (c := [qI x3.Num, qI x3.Begin, qI x3.Len, qB x3.Body.a0_, qB x3.Body.a1_, qB x3.Body.a2_, qB x3.Body.a3_, qB x3.Body.a4_, qB x3.Body.a5_, qB x3.Body.a6_, qB x3.Body.a7_, qB x3.Body.a8_, qB x3.Body.a9_, qB x3.Body.a10_, qB x3.Body.a11_, qB x3.Body.a12_, qB x3.Body.a13_, qB x3.Body.a14_, qB x3.Body.a15_, qI x3.Size]) 0 Tryz.isAgg57 Tryz.sizeOf57 rfl rfl reads_ro (map_get hxx3)) ?_
  refine ot rfl rfl (t_alloc Tryz.zeroValue57) ?_
  rintro _ _ ⟨b4, rfl, rfl⟩
  refine ot rfl rfl (t_store 2 Tryz.sizeOf57 rfl rfl rfl rfl (by simp [Value.cells, boxP]) (by simp [Value.cells, Value.oneCell', boxP])) ?_
  rintro _ _ ⟨rfl, rfl⟩
  refine ops_turn (retell 2 (g := box b4 [qI x3.Num, qI x3.Begin, qI x3.Len, qB x3.Body.a0_, qB x3.Body.a1_, qB x3.Body.a2_, qB x3.Body.a3_, qB x3.Body.a4_, qB x3.Body.a5_, qB x3.Body.a6_, qB x3.Body.a7_, qB x3.Body.a8_, qB x3.Body.a9_, qB x3.Body.a10_, qB x3.Body.a11_, qB x3.Body.a12_, qB x3.Body.a13_, qB x3.Body.a14_, qB x3.Body.a15_, qI x3.Size]) rfl (by kernel_rfl)) ?_
  refine ops_nil ?_
  refine goes_code ?_
  refine run_seq ?_
  refine run_weak [(3, boxP b4 0)] [2] [box b4 [qI x3.Num, qI x3.Begin, qI x3.Len, qB x3.Body.a0_, qB x3.Body.a1_, qB x3.Body.a2_, qB x3.Body.a3_, qB x3.Body.a4_, qB x3.Body.a5_, qB x3.Body.a6_, qB x3.Body.a7_, qB x3.Body.a8_, qB x3.Body.a9_, qB x3.Body.a10_, qB x3.Body.a11_, qB x3.Body.a12_, qB x3.Body.a13_, qB x3.Body.a14_, qB x3.Body.a15_, qI x3.Size]] (qv1 rfl) (by decide) rfl ?_
  refine run_region' ?_
  refine oy rfl rfl (y_fieldAddr_box (sz := 0) Tryz.runUnderlying57 rfl Tryz.sizeOf3 rfl) ?_
  refine oy rfl rfl (y_load_box 0 Tryz.isAgg3 rfl rfl rfl) ?_
  refine oy rfl rfl (y_fieldAddr_box (sz := 0) Tryz.runUnderlying57 rfl Tryz.sizeOf3 rfl) ?_
  refine oy rfl rfl (y_load_box 0 Tryz.isAgg3 rfl rfl rfl) ?_
  refine oy rfl rfl (y_add rfl rfl) ?_
  refine oy rfl rfl (y_assign rfl) ?_
  refine ops_nil ?_
  refine goes_code ?_
  refine run_ret ?_
  obtain rfl := some_eq h
  refine fin_slots [2] [qI (IntKind.i64.wrap (x3.Begin + x3.Len))] [] [] Tryz.results30 rfl (by decide) rfl ?_
  exact ⟨rfl, rfl⟩

def ref43_cut (p_0 : S_api_Playlist) (window_1 : Int) : Option (S_api_Playlist) :=
 bindJ (S := Int × (List S_api_Segment))
  (cond (decide (window_1 < (p_0.L.length : Int)))
   (need (0 ≤ (IntKind.i64.wrap ((p_0.L.length : Int) - window_1)) ∧ (IntKind.i64.wrap ((p_0.L.length : Int) - window_1)) ≤ (p_0.L.length : Int) ∧ (p_0.L.length : Int) ≤ (p_0.L.length : Int)) (
   idx (p_0.L.drop (((IntKind.i64.wrap ((p_0.L.length : Int) - window_1))).toNat)) 0 fun x13 =>
   some (.go (x13.Num, (p_0.L.drop (((IntKind.i64.wrap ((p_0.L.length : Int) - window_1))).toNat))))))
   (some (.go (p_0.First, p_0.L))))
 (fun (x_3, x_4) =>
  some (S_api_Playlist.mk x_3 x_4 p_0.Done))
theorem ref43_cut_ok (p_0 : S_api_Playlist) (window_1 : Int) (p_0_Lv : Value) {r : S_api_Playlist} (h : ref43_cut p_0 window_1 = some r) :
  Meets Tryz.prog 44 [.agg #[.int .i64 p_0.First, p_0_Lv, .bool p_0.Done], .int .i64 window_1] [ro p_0_Lv 20 (p_0.L.map S_api_Segment.enc)] (fun v G => ∃ v0, v = .agg #[.int .i64 r.First, v0, .bool r.Done] ∧ G = [ro v0 20 (r.L.map S_api_Segment.enc)]) := by
 refine fn_of_run Tryz.func44 rfl Tryz.ntmps44 rfl (fun w0 o0 => ?_)
 refine run_seq ?_
 refine run_region' ?_
 refine ot rfl rfl (t_box rfl) ?_
 rintro _ _ ⟨b1, rfl, rfl⟩
 refine ot rfl rfl (t_alloc Tryz.zeroValue24) ?_
 rintro _ _ ⟨b2, rfl, rfl⟩
 refine ops_nil ?_
 refine goes_code ?_
 obtain ⟨o6, h, ho7⟩ := bindJ_some h
 refine run_cut ((Int × (List S_api_Segment)) × (Value)) (fun σ => [(2, boxP b1 0), (4, boxP b2 0)]) (fun σ => [box b1 [qI σ.1.1, σ.2, .bool p_0.Done], ro σ.2 20 (σ.1.2.map S_api_Segment.enc), box b2 [qI 0, .slice none 0 0, .bool false]]) (fun σ => o6 = .go σ.1) (fun L9 hL8 => ?_) ?_
 ·
  refine run_seq ?_
  refine run_region' ?_
  refine oy rfl rfl (y_fieldAddr_box (sz := 0) Tryz.runUnderlying24 rfl Tryz.sizeOf22 rfl) ?_
  refine oy rfl rfl (y_load_box 1 Tryz.isAgg22 rfl rfl rfl) ?_
  refine oy rfl rfl ((y_len 0 rfl Tryz.runUnderlying22 rfl rfl reads_ro).to (v_len S_api_Segment.enc _)) ?_
  refine oy rfl rfl (y_move rfl) ?_
  refine oy rfl rfl (y_gtr rfl rfl) ?_
  refine ops_nil ?_
  refine goes_code ?_
  refine run_cond (decide (window_1 < (p_0.L.length : Int))) rfl (fun hc10 => ?_) (fun hc10 => ?_)
  ·replace h := cond_t h hc10
   refine run_seq ?_
   refine run_region' ?_
   refine oy rfl rfl (y_fieldAddr_box (sz := 0) Tryz.runUnderlying24 rfl Tryz.sizeOf22 rfl) ?_
   refine oy rfl rfl (y_load_box 1 Tryz.isAgg22 rfl rfl rfl) ?_
   refine oy rfl rfl (y_fieldAddr_box (sz := 0) Tryz.runUnderlying24 rfl Tryz.sizeOf22 rfl) ?_
   refine oy rfl rfl (y_load_box 1 Tryz.isAgg22 rfl rfl rfl) ?_
   refine oy rfl rfl ((y_len 0 rfl Tryz.runUnderlying22 rfl rfl reads_ro).to (v_len S_api_Segment.enc _)) ?_
   refine oy rfl rfl (y_move rfl) ?_
   refine oy rfl rfl (y_sub rfl rfl) ?_
   obtain ⟨hb11, h⟩ := need_some h
   refine oy rfl rfl (y_slice (l := (IntKind.i64.wrap ((p_0.L.length : Int) - window_1))) (r := (p_0.L.length : Int)) 0 Tryz.runUnderlying22 Tryz.sizeOf57 rfl rfl reads_ro (bi1 (kd := .i64) rfl) bi0m hb11.1 hb11.2.1 (map_len_le hb11.2.2)) ?_
   refine ops_turn (turn_sub (l := ((IntKind.i64.wrap ((p_0.L.length : Int) - window_1))).toNat) (r := ((p_0.L.length : Int)).toNat) 0 rfl (by omega) (map_toNat_le hb11.2.2)) ?_
   refine ops_turn (retell 3 (g := ro (subS p_0_Lv 20 (((IntKind.i64.wrap ((p_0.L.length : Int) - window_1))).toNat) (((p_0.L.length : Int)).toNat)) 20 ((p_0.L.drop (((IntKind.i64.wrap ((p_0.L.length : Int) - window_1))).toNat)).map S_api_Segment.enc)) rfl (congrArg (ro _ _) (sub_lo _ _ _))) ?_
   refine oy rfl rfl (y_fieldAddr_box (sz := 0) Tryz.runUnderlying24 rfl Tryz.sizeOf22 rfl) ?_
   refine ops_weak [(2, boxP b1 0), (4, boxP b2 0), (17, (subS p_0_Lv 20 (((IntKind.i64.wrap ((p_0.L.length : Int) - window_1))).toNat) (((p_0.L.length : Int)).toNat))), (18, boxP b1 1)] [0, 1, 2, 3] [ro p_0_Lv 20 (p_0.L.map S_api_Segment.enc), box b1 [qI p_0.First, p_0_Lv, .bool p_0.Done], box b2 [qI 0, .slice none 0 0, .bool false], ro (subS p_0_Lv 20 (((IntKind.i64.wrap ((p_0.L.length : Int) - window_1))).toNat) (((p_0.L.length : Int)).toNat)) 20 ((p_0.L.drop (((IntKind.i64.wrap ((p_0.L.length : Int) - window_1))).toNat)).map S_api_Segment.enc)] (qv4 rfl rfl rfl rfl) (by decide) rfl ?_
   refine ops_slc 3 rfl reads_ro (fun hs12 hs12o => ?_)
   refine ot rfl rfl (t_store 1 Tryz.sizeOf22 rfl rfl rfl (by rw [hs12]; rfl) (by simp [Value.cells, boxP]) (by rw [hs12]; exact allL_cons hs12o (allL_nil))) ?_
   rintro _ _ ⟨rfl, rfl⟩
   refine ops_turn (retell 1 (g := box b1 [.int .i64 p_0.First, (subS p_0_Lv 20 (((IntKind.i64.wrap ((p_0.L.length : Int) - window_1))).toNat) (((p_0.L.length : Int)).toNat)), .bool p_0.Done]) rfl (by rw [hs12]; rfl)) ?_
   refine ops_nil ?_
   refine goes_code ?_
   refine run_region' ?_
   refine oy rfl rfl (y_fieldAddr_box (sz := 0) Tryz.runUnderlying24 rfl Tryz.sizeOf22 rfl) ?_
   refine oy rfl rfl (y_load_box 1 Tryz.isAgg22 rfl rfl rfl) ?_
   obtain ⟨x13, hzx13, hlx13, hxx13, h⟩ := idx_some h
   refine oy rfl rfl (y_indexAddrI (kd := .i64) (i := 0) 3 Tryz.runUnderlying22 Tryz.sizeOf57 rfl rfl rfl reads_ro hzx13 (map_lt hlx13)) ?_
   refine oy rfl rfl (y_fieldAddr_elem (sz := 0) Tryz.runUnderlying57 rfl Tryz.sizeOf3 rfl) ?_
   refine oy rfl rfl (y_load_field (i := (0 : Int).toNat) (j := 0) 3 Tryz.isAgg3 rfl rfl reads_ro (map_get hxx13) rfl) ?_
   refine oy rfl rfl (y_fieldAddr_box (sz := 0) Tryz.runUnderlying24 rfl Tryz.sizeOf3 rfl) ?_
   refine ot rfl rfl (t_store 1 Tryz.sizeOf3 rfl rfl rfl rfl (by simp [Value.cells, boxP]) (by simp [Value.cells, Value.oneCell', boxP])) ?_
   rintro _ _ ⟨rfl, rfl⟩
   refine ops_turn (retell 1 (g := box b1 [qI x13.Num, (subS p_0_Lv 20 (((IntKind.i64.wrap ((p_0.L.length : Int) - window_1))).toNat) (((p_0.L.length : Int)).toNat)), .bool p_0.Done]) rfl rfl) ?_
   refine ops_nil ?_
   obtain rfl := some_eq h
   exact goes_cut hL8 ((x13.Num, (p_0.L.drop (((IntKind.i64.wrap ((p_0.L.length : Int) - window_1))).toNat))), (subS p_0_Lv 20 (((IntKind.i64.wrap ((p_0.L.length : Int) - window_1))).toNat) (((p_0.L.length : Int)).toNat))) [1, 3, 2] (qv2 rfl rfl) (by decide) rfl rfl
  ·replace h := cond_f h hc10
   refine run_skip ?_
   obtain rfl := some_eq h
   exact goes_cut hL8 ((p_0.First, p_0.L), p_0_Lv) [1, 0, 2] (qv2 rfl rfl) (by decide) rfl rfl
 rintro ⟨⟨x_3, x_4⟩, v5⟩ hj
 obtain rfl : o6 = _ := hj
 replace h := after_go ho7
 clear ho7
 change Run _ _ _ (VF.of [(2, boxP b1 0), (4, boxP b2 0)]) [box b1 [qI x_3, v5, .bool p_0.Done], ro v5 20 (x_4.map S_api_Segment.enc), box b2 [qI 0, .slice none 0 0, .bool false]]
 refine run_seq ?_
 refine run_region' ?_
 refine oy rfl rfl (y_load_boxagg (c := [qI x_3, v5, .bool p_0.Done]) 0 Tryz.isAgg24 Tryz.sizeOf24 rfl rfl rfl) ?_
 refine ops_slc 1 rfl reads_ro (fun hs14 hs14o => ?_)
 refine ot rfl rfl (t_store 2 Tryz.sizeOf24 rfl rfl rfl rfl (by simp [Value.cells, boxP]) (allL_cons rfl (allL_cons hs14o (allL_cons rfl (allL_nil))))) ?_
 rintro _ _ ⟨rfl, rfl⟩
 refine ops_turn (retell 2 (g := box b2 [qI x_3, v5, .bool p_0.Done]) rfl rfl) ?_
 refine ops_nil ?_
 refine goes_code ?_
 refine run_ret ?_
 obtain rfl := some_eq h
 refine fin_res [.cell 4 24] [.agg #[qI x_3, v5, .bool p_0.Done]] [1] [ro v5 20 (x_4.map S_api_Segment.enc)] Tryz.results44 rfl (rescons (res_box 2 Tryz.isAgg24 Tryz.sizeOf24 rfl rfl rfl) resnil) (by decide) rfl ?_
 exact ⟨_, rfl, rfl⟩

end Go.Proofs.YtbgpojdmdnkeaaaGreatDoor
