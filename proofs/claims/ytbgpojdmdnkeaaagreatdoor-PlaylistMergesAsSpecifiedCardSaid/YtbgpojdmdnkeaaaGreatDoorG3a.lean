/-
  Functions that the law PlaylistMergesAsSpecified needs, lifted.
-/
import Derived.Test.YtbgpojdmdnkeaaaGreatDoorFe
namespace Go.Proofs.YtbgpojdmdnkeaaaGreatDoor
open Go.Abs
set_option linter.unusedVariables false
set_option linter.unusedSimpArgs false
set_option maxRecDepth 20000
set_option maxHeartbeats 4000000

def ref43_Right (s_0 : S_api_Segment) : Option (Bool) :=
 some (((((((decide (0 ≤ s_0.Num) && decide (s_0.Num ≤ 1099511627776)) && decide (0 ≤ s_0.Begin)) && decide (s_0.Begin ≤ 1099511627776)) && decide (1 ≤ s_0.Len)) && decide (s_0.Len ≤ 60000)) && decide (0 ≤ s_0.Size)) && decide (s_0.Size ≤ 1099511627776))
theorem ref43_Right_ok (s_0 : S_api_Segment)  {r : Bool} (h : ref43_Right s_0 = some r) :
  Meets Tryz.prog 32 [.agg #[.int .i64 s_0.Num, .int .i64 s_0.Begin, .int .i64 s_0.Len, .int .u8 s_0.Body.a0_, .int .u8 s_0.Body.a1_, .int .u8 s_0.Body.a2_, .int .u8 s_0.Body.a3_, .int .u8 s_0.Body.a4_, .int .u8 s_0.Body.a5_, .int .u8 s_0.Body.a6_, .int .u8 s_0.Body.a7_, .int .u8 s_0.Body.a8_, .int .u8 s_0.Body.a9_, .int .u8 s_0.Body.a10_, .int .u8 s_0.Body.a11_, .int .u8 s_0.Body.a12_, .int .u8 s_0.Body.a13_, .int .u8 s_0.Body.a14_, .int .u8 s_0.Body.a15_, .int .i64 s_0.Size]] [] (fun v G => v = .bool r ∧ G = []) := by
 refine fn_of_run Tryz.func32 rfl Tryz.ntmps32 rfl (fun w0 o0 => ?_)
 refine run_seq ?_
 refine run_region' ?_
 refine ot rfl rfl (t_box rfl) ?_
 rintro _ _ ⟨b1, rfl, rfl⟩
 refine oy rfl rfl (y_assign rfl) ?_
 refine ops_nil ?_
 refine goes_code ?_
 refine run_seq ?_
 refine run_region' ?_
 refine oy rfl rfl (y_fieldAddr_box (sz := 0) Tryz.runUnderlying57 rfl Tryz.sizeOf3 rfl) ?_
 refine oy rfl rfl (y_load_box 0 Tryz.isAgg3 rfl rfl rfl) ?_
 refine oy rfl rfl (y_geq rfl rfl) ?_
 refine oy rfl rfl (y_move rfl) ?_
 refine ops_cut 4 (Bool) (fun σ => [(1, boxP b1 0), (10, .bool σ)]) (fun σ => [box b1 [.int .i64 s_0.Num, .int .i64 s_0.Begin, .int .i64 s_0.Len, .int .u8 s_0.Body.a0_, .int .u8 s_0.Body.a1_, .int .u8 s_0.Body.a2_, .int .u8 s_0.Body.a3_, .int .u8 s_0.Body.a4_, .int .u8 s_0.Body.a5_, .int .u8 s_0.Body.a6_, .int .u8 s_0.Body.a7_, .int .u8 s_0.Body.a8_, .int .u8 s_0.Body.a9_, .int .u8 s_0.Body.a10_, .int .u8 s_0.Body.a11_, .int .u8 s_0.Body.a12_, .int .u8 s_0.Body.a13_, .int .u8 s_0.Body.a14_, .int .u8 s_0.Body.a15_, .int .i64 s_0.Size]]) (fun σ => σ = (decide (0 ≤ s_0.Num) && decide (s_0.Num ≤ 1099511627776))) (fun L2 hL3 => ?_) ?_
 ·refine ops_split 6 (decide (0 ≤ s_0.Num)) rfl (fun hg4 => ?_) (fun hg4 => ?_)
  ·skip
   refine ops_y (wg 3 true 6 rfl rfl rfl rfl) rfl (y_fieldAddr_box (sz := 0) Tryz.runUnderlying57 rfl Tryz.sizeOf3 rfl) ?_
   refine ops_y (wg 3 true 6 rfl rfl rfl rfl) rfl (y_load_box 0 Tryz.isAgg3 rfl rfl rfl) ?_
   refine ops_y (wg 3 true 6 rfl rfl rfl rfl) rfl (y_leq rfl rfl) ?_
   refine oy rfl rfl (y_pick (b := true) rfl rfl) ?_
   refine ops_nil ?_
   exact goes_cut hL3 (decide (s_0.Num ≤ 1099511627776)) [0] (qv2 rfl rfl) (by decide) rfl (by rw [hg4]; simp)
  ·skip
   refine ops_no 3 true 6 rfl rfl rfl rfl rfl ?_
   refine ops_no 3 true 6 rfl rfl rfl rfl rfl ?_
   refine ops_no 3 true 6 rfl rfl rfl rfl rfl ?_
   refine oy rfl rfl (y_pick (b := false) rfl rfl) ?_
   refine ops_nil ?_
   exact goes_cut hL3 false [0] (qv2 rfl rfl) (by decide) rfl (by rw [hg4]; simp)
 rintro _ rfl
 refine oy rfl rfl (y_move rfl) ?_
 refine ops_cut 4 (Bool) (fun σ => [(1, boxP b1 0), (15, .bool σ)]) (fun σ => [box b1 [.int .i64 s_0.Num, .int .i64 s_0.Begin, .int .i64 s_0.Len, .int .u8 s_0.Body.a0_, .int .u8 s_0.Body.a1_, .int .u8 s_0.Body.a2_, .int .u8 s_0.Body.a3_, .int .u8 s_0.Body.a4_, .int .u8 s_0.Body.a5_, .int .u8 s_0.Body.a6_, .int .u8 s_0.Body.a7_, .int .u8 s_0.Body.a8_, .int .u8 s_0.Body.a9_, .int .u8 s_0.Body.a10_, .int .u8 s_0.Body.a11_, .int .u8 s_0.Body.a12_, .int .u8 s_0.Body.a13_, .int .u8 s_0.Body.a14_, .int .u8 s_0.Body.a15_, .int .i64 s_0.Size]]) (fun σ => σ = ((decide (0 ≤ s_0.Num) && decide (s_0.Num ≤ 1099511627776)) && decide (0 ≤ s_0.Begin))) (fun L5 hL6 => ?_) ?_
 ·refine ops_split 11 (decide (0 ≤ s_0.Num) && decide (s_0.Num ≤ 1099511627776)) rfl (fun hg7 => ?_) (fun hg7 => ?_)
  ·skip
   refine ops_y (wg 8 true 11 rfl rfl rfl rfl) rfl (y_fieldAddr_box (sz := 0) Tryz.runUnderlying57 rfl Tryz.sizeOf3 rfl) ?_
   refine ops_y (wg 8 true 11 rfl rfl rfl rfl) rfl (y_load_box 0 Tryz.isAgg3 rfl rfl rfl) ?_
   refine ops_y (wg 8 true 11 rfl rfl rfl rfl) rfl (y_geq rfl rfl) ?_
   refine oy rfl rfl (y_pick (b := true) rfl rfl) ?_
   refine ops_nil ?_
   exact goes_cut hL6 (decide (0 ≤ s_0.Begin)) [0] (qv2 rfl rfl) (by decide) rfl (by rw [hg7]; simp)
  ·skip
   refine ops_no 8 true 11 rfl rfl rfl rfl rfl ?_
   refine ops_no 8 true 11 rfl rfl rfl rfl rfl ?_
   refine ops_no 8 true 11 rfl rfl rfl rfl rfl ?_
   refine oy rfl rfl (y_pick (b := false) rfl rfl) ?_
   refine ops_nil ?_
   exact goes_cut hL6 false [0] (qv2 rfl rfl) (by decide) rfl (by rw [hg7]; simp)
 rintro _ rfl
 refine oy rfl rfl (y_move rfl) ?_
 refine ops_cut 4 (Bool) (fun σ => [(1, boxP b1 0), (20, .bool σ)]) (fun σ => [box b1 [.int .i64 s_0.Num, .int .i64 s_0.Begin, .int .i64 s_0.Len, .int .u8 s_0.Body.a0_, .int .u8 s_0.Body.a1_, .int .u8 s_0.Body.a2_, .int .u8 s_0.Body.a3_, .int .u8 s_0.Body.a4_, .int .u8 s_0.Body.a5_, .int .u8 s_0.Body.a6_, .int .u8 s_0.Body.a7_, .int .u8 s_0.Body.a8_, .int .u8 s_0.Body.a9_, .int .u8 s_0.Body.a10_, .int .u8 s_0.Body.a11_, .int .u8 s_0.Body.a12_, .int .u8 s_0.Body.a13_, .int .u8 s_0.Body.a14_, .int .u8 s_0.Body.a15_, .int .i64 s_0.Size]]) (fun σ => σ = (((decide (0 ≤ s_0.Num) && decide (s_0.Num ≤ 1099511627776)) && decide (0 ≤ s_0.Begin)) && decide (s_0.Begin ≤ 1099511627776))) (fun L8 hL9 => ?_) ?_
 ·refine ops_split 16 ((decide (0 ≤ s_0.Num) && decide (s_0.Num ≤ 1099511627776)) && decide (0 ≤ s_0.Begin)) rfl (fun hg10 => ?_) (fun hg10 => ?_)
  ·skip
   refine ops_y (wg 13 true 16 rfl rfl rfl rfl) rfl (y_fieldAddr_box (sz := 0) Tryz.runUnderlying57 rfl Tryz.sizeOf3 rfl) ?_
   refine ops_y (wg 13 true 16 rfl rfl rfl rfl) rfl (y_load_box 0 Tryz.isAgg3 rfl rfl rfl) ?_
   refine ops_y (wg 13 true 16 rfl rfl rfl rfl) rfl (y_leq rfl rfl) ?_
   refine oy rfl rfl (y_pick (b := true) rfl rfl) ?_
   refine ops_nil ?_
   exact goes_cut hL9 (decide (s_0.Begin ≤ 1099511627776)) [0] (qv2 rfl rfl) (by decide) rfl (by rw [hg10]; simp)
  ·skip
   refine ops_no 13 true 16 rfl rfl rfl rfl rfl ?_
   refine ops_no 13 true 16 rfl rfl rfl rfl rfl ?_
   refine ops_no 13 true 16 rfl rfl rfl rfl rfl ?_
   refine oy rfl rfl (y_pick (b := false) rfl rfl) ?_
   refine ops_nil ?_
   exact goes_cut hL9 false [0] (qv2 rfl rfl) (by decide) rfl (by rw [hg10]; simp)
 rintro _ rfl
 refine oy rfl rfl (y_move rfl) ?_
 refine ops_cut 4 (Bool) (fun σ => [(1, boxP b1 0), (25, .bool σ)]) (fun σ => [box b1 [.int .i64 s_0.Num, .int .i64 s_0.Begin, .int .i64 s_0.Len, .int .u8 s_0.Body.a0_, .int .u8 s_0.Body.a1_, .int .u8 s_0.Body.a2_, .int .u8 s_0.Body.a3_, .int .u8 s_0.Body.a4_, .int .u8 s_0.Body.a5_, .int .u8 s_0.Body.a6_, .int .u8 s_0.Body.a7_, .int .u8 s_0.Body.a8_, .int .u8 s_0.Body.a9_, .int .u8 s_0.Body.a10_, .int .u8 s_0.Body.a11_, .int .u8 s_0.Body.a12_, .int .u8 s_0.Body.a13_, .int .u8 s_0.Body.a14_, .int .u8 s_0.Body.a15_, .int .i64 s_0.Size]]) (fun σ => σ = ((((decide (0 ≤ s_0.Num) && decide (s_0.Num ≤ 1099511627776)) && decide (0 ≤ s_0.Begin)) && decide (s_0.Begin ≤ 1099511627776)) && decide (1 ≤ s_0.Len))) (fun L11 hL12 => ?_) ?_
 ·refine ops_split 21 (((decide (0 ≤ s_0.Num) && decide (s_0.Num ≤ 1099511627776)) && decide (0 ≤ s_0.Begin)) && decide (s_0.Begin ≤ 1099511627776)) rfl (fun hg13 => ?_) (fun hg13 => ?_)
  ·skip
   refine ops_y (wg 18 true 21 rfl rfl rfl rfl) rfl (y_fieldAddr_box (sz := 0) Tryz.runUnderlying57 rfl Tryz.sizeOf3 rfl) ?_
   refine ops_y (wg 18 true 21 rfl rfl rfl rfl) rfl (y_load_box 0 Tryz.isAgg3 rfl rfl rfl) ?_
   refine ops_y (wg 18 true 21 rfl rfl rfl rfl) rfl (y_geq rfl rfl) ?_
   refine oy rfl rfl (y_pick (b := true) rfl rfl) ?_
   refine ops_nil ?_
   exact goes_cut hL12 (decide (1 ≤ s_0.Len)) [0] (qv2 rfl rfl) (by decide) rfl (by rw [hg13]; simp)
  ·skip
   refine ops_no 18 true 21 rfl rfl rfl rfl rfl ?_
   refine ops_no 18 true 21 rfl rfl rfl rfl rfl ?_
   refine ops_no 18 true 21 rfl rfl rfl rfl rfl ?_
   refine oy rfl rfl (y_pick (b := false) rfl rfl) ?_
   refine ops_nil ?_
   exact goes_cut hL12 false [0] (qv2 rfl rfl) (by decide) rfl (by rw [hg13]; simp)
 rintro _ rfl
 refine oy rfl rfl (y_move rfl) ?_
 refine ops_cut 4 (Bool) (fun σ => [(1, boxP b1 0), (30, .bool σ)]) (fun σ => [box b1 [.int .i64 s_0.Num, .int .i64 s_0.Begin, .int .i64 s_0.Len, .int .u8 s_0.Body.a0_, .int .u8 s_0.Body.a1_, .int .u8 s_0.Body.a2_, .int .u8 s_0.Body.a3_, .int .u8 s_0.Body.a4_, .int .u8 s_0.Body.a5_, .int .u8 s_0.Body.a6_, .int .u8 s_0.Body.a7_, .int .u8 s_0.Body.a8_, .int .u8 s_0.Body.a9_, .int .u8 s_0.Body.a10_, .int .u8 s_0.Body.a11_, .int .u8 s_0.Body.a12_, .int .u8 s_0.Body.a13_, .int .u8 s_0.Body.a14_, .int .u8 s_0.Body.a15_, .int .i64 s_0.Size]]) (fun σ => σ = (((((decide (0 ≤ s_0.Num) && decide (s_0.Num ≤ 1099511627776)) && decide (0 ≤ s_0.Begin)) && decide (s_0.Begin ≤ 1099511627776)) && decide (1 ≤ s_0.Len)) && decide (s_0.Len ≤ 60000))) (fun L14 hL15 => ?_) ?_
 ·refine ops_split 26 ((((decide (0 ≤ s_0.Num) && decide (s_0.Num ≤ 1099511627776)) && decide (0 ≤ s_0.Begin)) && decide (s_0.Begin ≤ 1099511627776)) && decide (1 ≤ s_0.Len)) rfl (fun hg16 => ?_) (fun hg16 => ?_)
  ·skip
   refine ops_y (wg 23 true 26 rfl rfl rfl rfl) rfl (y_fieldAddr_box (sz := 0) Tryz.runUnderlying57 rfl Tryz.sizeOf3 rfl) ?_
   refine ops_y (wg 23 true 26 rfl rfl rfl rfl) rfl (y_load_box 0 Tryz.isAgg3 rfl rfl rfl) ?_
   refine ops_y (wg 23 true 26 rfl rfl rfl rfl) rfl (y_leq rfl rfl) ?_
   refine oy rfl rfl (y_pick (b := true) rfl rfl) ?_
   refine ops_nil ?_
   exact goes_cut hL15 (decide (s_0.Len ≤ 60000)) [0] (qv2 rfl rfl) (by decide) rfl (by rw [hg16]; simp)
  ·skip
   refine ops_no 23 true 26 rfl rfl rfl rfl rfl ?_
   refine ops_no 23 true 26 rfl rfl rfl rfl rfl ?_
   refine ops_no 23 true 26 rfl rfl rfl rfl rfl ?_
   refine oy rfl rfl (y_pick (b := false) rfl rfl) ?_
   refine ops_nil ?_
   exact goes_cut hL15 false [0] (qv2 rfl rfl) (by decide) rfl (by rw [hg16]; simp)
 rintro _ rfl
 refine oy rfl rfl (y_move rfl) ?_
 refine ops_cut 4 (Bool) (fun σ => [(1, boxP b1 0), (35, .bool σ)]) (fun σ => [box b1 [.int .i64 s_0.Num, .int .i64 s_0.Begin, .int .i64 s_0.Len, .int .u8 s_0.Body.a0_, .int .u8 s_0.Body.a1_, .int .u8 s_0.Body.a2_, .int .u8 s_0.Body.a3_, .int .u8 s_0.Body.a4_, .int .u8 s_0.Body.a5_, .int .u8 s_0.Body.a6_, .int .u8 s_0.Body.a7_, .int .u8 s_0.Body.a8_, .int .u8 s_0.Body.a9_, .int .u8 s_0.Body.a10_, .int .u8 s_0.Body.a11_, .int .u8 s_0.Body.a12_, .int .u8 s_0.Body.a13_, .int .u8 s_0.Body.a14_, .int .u8 s_0.Body.a15_, .int .i64 s_0.Size]]) (fun σ => σ = ((((((decide (0 ≤ s_0.Num) && decide (s_0.Num ≤ 1099511627776)) && decide (0 ≤ s_0.Begin)) && decide (s_0.Begin ≤ 1099511627776)) && decide (1 ≤ s_0.Len)) && decide (s_0.Len ≤ 60000)) && decide (0 ≤ s_0.Size))) (fun L17 hL18 => ?_) ?_
 ·refine ops_split 31 (((((decide (0 ≤ s_0.Num) && decide (s_0.Num ≤ 1099511627776)) && decide (0 ≤ s_0.Begin)) && decide (s_0.Begin ≤ 1099511627776)) && decide (1 ≤ s_0.Len)) && decide (s_0.Len ≤ 60000)) rfl (fun hg19 => ?_) (fun hg19 => ?_)
  ·skip
   refine ops_y (wg 28 true 31 rfl rfl rfl rfl) rfl (y_fieldAddr_box (sz := 0) Tryz.runUnderlying57 rfl Tryz.sizeOf3 rfl) ?_
   refine ops_y (wg 28 true 31 rfl rfl rfl rfl) rfl (y_load_box 0 Tryz.isAgg3 rfl rfl rfl) ?_
   refine ops_y (wg 28 true 31 rfl rfl rfl rfl) rfl (y_geq rfl rfl) ?_
   refine oy rfl rfl (y_pick (b := true) rfl rfl) ?_
   refine ops_nil ?_
   exact goes_cut hL18 (decide (0 ≤ s_0.Size)) [0] (qv2 rfl rfl) (by decide) rfl (by rw [hg19]; simp)
  ·skip
   refine ops_no 28 true 31 rfl rfl rfl rfl rfl ?_
   refine ops_no 28 true 31 rfl rfl rfl rfl rfl ?_
   refine ops_no 28 true 31 rfl rfl rfl rfl rfl ?_
   refine oy rfl rfl (y_pick (b := false) rfl rfl) ?_
   refine ops_nil ?_
   exact goes_cut hL18 false [0] (qv2 rfl rfl) (by decide) rfl (by rw [hg19]; simp)
 rintro _ rfl
 refine oy rfl rfl (y_move rfl) ?_
 refine ops_cut 4 (Bool) (fun σ => [(40, .bool σ)]) (fun σ => []) (fun σ => σ = (((((((decide (0 ≤ s_0.Num) && decide (s_0.Num ≤ 1099511627776)) && decide (0 ≤ s_0.Begin)) && decide (s_0.Begin ≤ 1099511627776)) && decide (1 ≤ s_0.Len)) && decide (s_0.Len ≤ 60000)) && decide (0 ≤ s_0.Size)) && decide (s_0.Size ≤ 1099511627776))) (fun L20 hL21 => ?_) ?_
 ·refine ops_split 36 ((((((decide (0 ≤ s_0.Num) && decide (s_0.Num ≤ 1099511627776)) && decide (0 ≤ s_0.Begin)) && decide (s_0.Begin ≤ 1099511627776)) && decide (1 ≤ s_0.Len)) && decide (s_0.Len ≤ 60000)) && decide (0 ≤ s_0.Size)) rfl (fun hg22 => ?_) (fun hg22 => ?_)
  ·skip
   refine ops_y (wg 33 true 36 rfl rfl rfl rfl) rfl (y_fieldAddr_box (sz := 0) Tryz.runUnderlying57 rfl Tryz.sizeOf3 rfl) ?_
   refine ops_y (wg 33 true 36 rfl rfl rfl rfl) rfl (y_load_box 0 Tryz.isAgg3 rfl rfl rfl) ?_
   refine ops_y (wg 33 true 36 rfl rfl rfl rfl) rfl (y_leq rfl rfl) ?_
   refine oy rfl rfl (y_pick (b := true) rfl rfl) ?_
   refine ops_nil ?_
   exact goes_cut hL21 (decide (s_0.Size ≤ 1099511627776)) [] (qv1 rfl) (by decide) rfl (by rw [hg22]; simp)
  ·skip
   refine ops_no 33 true 36 rfl rfl rfl rfl rfl ?_
   refine ops_no 33 true 36 rfl rfl rfl rfl rfl ?_
   refine ops_no 33 true 36 rfl rfl rfl rfl rfl ?_
   refine oy rfl rfl (y_pick (b := false) rfl rfl) ?_
   refine ops_nil ?_
   exact goes_cut hL21 false [] (qv1 rfl) (by decide) rfl (by rw [hg22]; simp)
 rintro _ rfl
 refine oy rfl rfl (y_assign rfl) ?_
 refine ops_nil ?_
 refine goes_code ?_
 refine run_ret ?_
 obtain rfl := some_eq h
 refine fin_slots [2] [.bool (((((((decide (0 ≤ s_0.Num) && decide (s_0.Num ≤ 1099511627776)) && decide (0 ≤ s_0.Begin)) && decide (s_0.Begin ≤ 1099511627776)) && decide (1 ≤ s_0.Len)) && decide (s_0.Len ≤ 60000)) && decide (0 ≤ s_0.Size)) && decide (s_0.Size ≤ 1099511627776))] [] [] Tryz.results32 rfl (by decide) rfl ?_
 exact ⟨rfl, rfl⟩

def ref43_Stream_L1 (l_0 : (List S_api_Segment)) : (Int) → Option (Lp (Int) (Lp (Unit) (Bool))) :=
 fun i_5 =>
  cond (decide (i_5 < (l_0.length : Int)))
   (idx l_0 i_5 fun x11 =>
   obind (ref43_Right x11) fun r12 =>
   bindJ (S := Bool)
    (cond (!r12)
     (some (.go true))
     (bindJ (S := Bool)
      (cond (decide (0 < i_5))
       (idx l_0 (IntKind.i64.wrap (i_5 - 1)) fun x26 =>
       some (.go (decide (x11.Num ≠ (IntKind.i64.wrap (x26.Num + 1))) || decide (x11.Begin ≠ (IntKind.i64.wrap (x26.Begin + x26.Len))))))
       (some (.go false)))
     (fun b20 =>
      some (.go b20))))
   (fun b14 =>
    cond b14
     (some (.stop (.stop false)))
     (some (.go (IntKind.i64.wrap (i_5 + 1))))))
   (some (.stop (.go ())))
def ref43_Stream (n : Nat) (l_0 : (List S_api_Segment)) : Option (Bool) :=
 bindJ (S := Unit)
  (iter (ref43_Stream_L1 l_0) n 0)
 (fun _ =>
  some (decide ((l_0.length : Int) ≤ 1000)))
theorem ref43_Stream_ok (n : Nat) (l_0 : (List S_api_Segment)) (l_0v : Value) {r : Bool} (h : ref43_Stream n l_0 = some r) :
  Meets Tryz.prog 35 [l_0v] [ro l_0v 20 (l_0.map S_api_Segment.enc)] (fun v G => v = .bool r ∧ G = []) := by
 refine fn_of_run Tryz.func35 rfl Tryz.ntmps35 rfl (fun w0 o0 => ?_)
 refine run_seq ?_
 refine run_region' ?_
 refine oy rfl rfl (y_assign rfl) ?_
 refine ops_nil ?_
 refine goes_code ?_
 obtain ⟨o1, h, ho2⟩ := bindJ_some h
 refine run_cut ((Unit) × (Unit)) (fun σ => [(0, l_0v)]) (fun σ => [ro l_0v 20 (l_0.map S_api_Segment.enc)]) (fun σ => o1 = .go σ.1) (fun L4 hL3 => ?_) ?_
 ·
  refine run_seq ?_
  refine run_region' ?_
  refine oy rfl rfl (y_assign rfl) ?_
  refine ops_nil ?_
  refine goes_code ?_
  refine run_block ?_
  refine run_iter (step := ref43_Stream_L1 l_0) (n := n) (s0 := 0) h (G := Unit) () (fun σ γ => [(3, .int .i64 σ), (0, l_0v)]) (fun σ γ => [ro l_0v 20 (l_0.map S_api_Segment.enc)]) [0] (qv2 rfl rfl) (by decide) rfl ?_
  rintro i_5 _ o6 h L9 hgo7 hstop8
  change Run _ _ _ (VF.of [(3, .int .i64 i_5), (0, l_0v)]) [ro l_0v 20 (l_0.map S_api_Segment.enc)]
  refine run_seq ?_
  refine run_seq ?_
  refine run_region' ?_
  refine oy rfl rfl (y_move rfl) ?_
  refine oy rfl rfl (y_move rfl) ?_
  refine oy rfl rfl ((y_len 0 rfl Tryz.runUnderlying22 rfl rfl reads_ro).to (v_len S_api_Segment.enc _)) ?_
  refine oy rfl rfl (y_lss rfl rfl) ?_
  refine ops_nil ?_
  refine goes_code ?_
  refine run_cond (decide (i_5 < (l_0.length : Int))) rfl (fun hc10 => ?_) (fun hc10 => ?_)
  ·replace h := cond_t h hc10
   refine run_skip ?_
   refine goes_code ?_
   refine run_seq ?_
   refine run_block ?_
   refine run_seq ?_
   refine run_region' ?_
   refine oy rfl rfl (y_move rfl) ?_
   refine oy rfl rfl (y_move rfl) ?_
   obtain ⟨x11, hzx11, hlx11, hxx11, h⟩ := idx_some h
   refine oy rfl rfl (y_indexAddrI (kd := .i64) (i := i_5) 0 Tryz.runUnderlying22 Tryz.sizeOf57 rfl rfl rfl reads_ro hzx11 (map_lt hlx11)) ?_
   refine oy rfl rfl (y_load_agg (i := i_5.toNat) (c := [.int .i64 x11.Num, .int .i64 x11.Begin, .int .i64 x11.Len, .int .u8 x11.Body.a0_, .int .u8 x11.Body.a1_, .int .u8 x11.Body.a2_, .int .u8 x11.Body.a3_, .int .u8 x11.Body.a4_, .int .u8 x11.Body.a5_, .int .u8 x11.Body.a6_, .int .u8 x11.Body.a7_, .int .u8 x11.Body.a8_, .int .u8 x11.Body.a9_, .int .u8 x11.Body.a10_, .int .u8 x11.Body.a11_, .int .u8 x11.Body.a12_, .int .u8 x11.Body.a13_, .int .u8 x11.Body.a14_, .int .u8 x11.Body.a15_, .int .i64 x11.Size]) 0 Tryz.isAgg57 Tryz.sizeOf57 rfl rfl reads_ro (map_get hxx11)) ?_
   obtain ⟨r12, hr13, h⟩ := obind_some h
   refine ot rfl rfl (t_callx (vs := [.agg #[.int .i64 x11.Num, .int .i64 x11.Begin, .int .i64 x11.Len, .int .u8 x11.Body.a0_, .int .u8 x11.Body.a1_, .int .u8 x11.Body.a2_, .int .u8 x11.Body.a3_, .int .u8 x11.Body.a4_, .int .u8 x11.Body.a5_, .int .u8 x11.Body.a6_, .int .u8 x11.Body.a7_, .int .u8 x11.Body.a8_, .int .u8 x11.Body.a9_, .int .u8 x11.Body.a10_, .int .u8 x11.Body.a11_, .int .u8 x11.Body.a12_, .int .u8 x11.Body.a13_, .int .u8 x11.Body.a14_, .int .u8 x11.Body.a15_, .int .i64 x11.Size]]) (cs := []) [] rfl Tryz.call32 rfl (ref43_Right_ok x11  hr13) showsX_nil rfl (.inl rfl)) ?_
   rintro _ _ ⟨_, ⟨rfl, rfl⟩, rfl⟩
   refine oy rfl rfl (y_assign rfl) ?_
   refine ops_nil ?_
   refine goes_code ?_
   refine run_seq ?_
   refine run_weak [(3, .int .i64 i_5), (0, l_0v), (4, .bool r12)] [0] [ro l_0v 20 (l_0.map S_api_Segment.enc)] (qv3 rfl rfl rfl) (by decide) rfl ?_
   refine run_draw (by kernel_rfl) (by kernel_rfl) ?_
   refine sy rfl rfl (y_move rfl) ?_
   refine sy rfl rfl (y_not rfl) ?_
   refine sy rfl rfl (y_move rfl) ?_
   obtain ⟨o15, h, ho16⟩ := bindJ_some h
   refine still_cut 39 (Bool) (fun σ => [(3, .int .i64 i_5), (0, l_0v), (57, .bool σ)]) (fun σ => [ro l_0v 20 (l_0.map S_api_Segment.enc)]) (fun σ => o15 = .go σ) (fun L17 hL18 => ?_) ?_
   ·refine still_split 18 (!r12) rfl (fun hg19 => ?_) (fun hg19 => ?_)
    ·replace h := cond_t h hg19
     refine still_no 2 false 18 rfl rfl rfl rfl rfl ?_
     refine still_no 2 false 18 rfl rfl rfl rfl rfl ?_
     refine still_no 2 false 18 rfl rfl rfl rfl rfl ?_
     refine still_un 5 true 21 rfl rfl rfl rfl rfl ?_
     refine still_un 5 true 21 rfl rfl rfl rfl rfl ?_
     refine still_un 5 true 21 rfl rfl rfl rfl rfl ?_
     refine still_un 5 true 21 rfl rfl rfl rfl rfl ?_
     refine still_un 5 true 21 rfl rfl rfl rfl rfl ?_
     refine still_un 5 true 21 rfl rfl rfl rfl rfl ?_
     refine still_un 5 true 21 rfl rfl rfl rfl rfl ?_
     refine still_un 5 true 21 rfl rfl rfl rfl rfl ?_
     refine still_un 5 true 21 rfl rfl rfl rfl rfl ?_
     refine still_un 5 true 21 rfl rfl rfl rfl rfl ?_
     refine still_un 5 true 21 rfl rfl rfl rfl rfl ?_
     refine still_un 5 true 21 rfl rfl rfl rfl rfl ?_
     refine still_un 5 true 21 rfl rfl rfl rfl rfl ?_
     refine still_un 5 true 21 rfl rfl rfl rfl rfl ?_
     refine still_un 19 false 35 rfl rfl rfl rfl rfl ?_
     refine still_un 19 false 35 rfl rfl rfl rfl rfl ?_
     refine still_un 19 false 35 rfl rfl rfl rfl rfl ?_
     refine still_un 19 false 35 rfl rfl rfl rfl rfl ?_
     refine still_un 19 false 35 rfl rfl rfl rfl rfl ?_
     refine still_un 19 false 35 rfl rfl rfl rfl rfl ?_
     refine still_un 19 false 35 rfl rfl rfl rfl rfl ?_
     refine still_un 19 false 35 rfl rfl rfl rfl rfl ?_
     refine still_un 19 false 35 rfl rfl rfl rfl rfl ?_
     refine still_un 19 false 35 rfl rfl rfl rfl rfl ?_
     refine still_un 19 false 35 rfl rfl rfl rfl rfl ?_
     refine still_un 19 false 35 rfl rfl rfl rfl rfl ?_
     refine still_un 19 false 35 rfl rfl rfl rfl rfl ?_
     refine still_un 19 false 35 rfl rfl rfl rfl rfl ?_
     refine still_un 19 false 35 rfl rfl rfl rfl rfl ?_
     refine still_un 19 false 35 rfl rfl rfl rfl rfl ?_
     refine still_un 19 false 35 rfl rfl rfl rfl rfl ?_
     refine still_un 19 false 35 rfl rfl rfl rfl rfl ?_
     refine still_un 19 false 35 rfl rfl rfl rfl rfl ?_
     refine still_un 5 true 21 rfl rfl rfl rfl rfl ?_
     refine still_no 2 false 18 rfl rfl rfl rfl rfl ?_
     refine sy rfl rfl (y_pick (b := true) rfl rfl) ?_
     refine still_nil ?_
     obtain rfl := some_eq h
     exact goes_cut hL18 true [0] (qv3 rfl rfl rfl) (by decide) rfl rfl
    ·replace h := cond_f h hg19
     refine still_y (wg 2 false 18 rfl rfl rfl rfl) rfl (y_move rfl) ?_
     refine still_y (wg 2 false 18 rfl rfl rfl rfl) rfl (y_gtr rfl rfl) ?_
     refine still_y (wg 2 false 18 rfl rfl rfl rfl) rfl (y_move rfl) ?_
     obtain ⟨o21, h, ho22⟩ := bindJ_some h
     refine still_cut 35 (Bool) (fun σ => [(3, .int .i64 i_5), (0, l_0v), (18, .bool false), (56, .bool σ)]) (fun σ => [ro l_0v 20 (l_0.map S_api_Segment.enc)]) (fun σ => o21 = .go σ) (fun L23 hL24 => ?_) ?_
     ·refine still_split 21 (decide (0 < i_5)) rfl (fun hg25 => ?_) (fun hg25 => ?_)
      ·replace h := cond_t h hg25
       refine still_y (wg 5 true 21 rfl rfl rfl rfl) rfl (y_move rfl) ?_
       refine still_y (wg 5 true 21 rfl rfl rfl rfl) rfl (y_move rfl) ?_
       refine still_y (wg 5 true 21 rfl rfl rfl rfl) rfl (y_indexAddrI (kd := .i64) (i := i_5) 0 Tryz.runUnderlying22 Tryz.sizeOf57 rfl rfl rfl reads_ro hzx11 (map_lt hlx11)) ?_
       refine still_y (wg 5 true 21 rfl rfl rfl rfl) rfl (y_fieldAddr_elem (sz := 0) Tryz.runUnderlying57 rfl Tryz.sizeOf3 rfl) ?_
       refine still_y (wg 5 true 21 rfl rfl rfl rfl) rfl (y_load_field (i := i_5.toNat) (j := 0) 0 Tryz.isAgg3 rfl rfl reads_ro (map_get hxx11) rfl) ?_
       refine still_y (wg 5 true 21 rfl rfl rfl rfl) rfl (y_move rfl) ?_
       refine still_y (wg 5 true 21 rfl rfl rfl rfl) rfl (y_move rfl) ?_
       refine still_y (wg 5 true 21 rfl rfl rfl rfl) rfl (y_sub rfl rfl) ?_
       obtain ⟨x26, hzx26, hlx26, hxx26, h⟩ := idx_some h
       refine still_y (wg 5 true 21 rfl rfl rfl rfl) rfl (y_indexAddrI (kd := .i64) (i := (IntKind.i64.wrap (i_5 - 1))) 0 Tryz.runUnderlying22 Tryz.sizeOf57 rfl rfl rfl reads_ro hzx26 (map_lt hlx26)) ?_
       refine still_y (wg 5 true 21 rfl rfl rfl rfl) rfl (y_fieldAddr_elem (sz := 0) Tryz.runUnderlying57 rfl Tryz.sizeOf3 rfl) ?_
       refine still_y (wg 5 true 21 rfl rfl rfl rfl) rfl (y_load_field (i := ((IntKind.i64.wrap (i_5 - 1))).toNat) (j := 0) 0 Tryz.isAgg3 rfl rfl reads_ro (map_get hxx26) rfl) ?_
       refine still_y (wg 5 true 21 rfl rfl rfl rfl) rfl (y_add rfl rfl) ?_
       refine still_y (wg 5 true 21 rfl rfl rfl rfl) rfl (y_neq rfl rfl) ?_
       refine still_y (wg 5 true 21 rfl rfl rfl rfl) rfl (y_move rfl) ?_
       refine still_cut 20 (Bool) (fun σ => [(3, .int .i64 i_5), (0, l_0v), (18, .bool false), (21, .bool true), (55, .bool σ)]) (fun σ => [ro l_0v 20 (l_0.map S_api_Segment.enc)]) (fun σ => σ = (decide (x11.Num ≠ (IntKind.i64.wrap (x26.Num + 1))) || decide (x11.Begin ≠ (IntKind.i64.wrap (x26.Begin + x26.Len))))) (fun L27 hL28 => ?_) ?_
       ·refine still_split 35 (decide (x11.Num ≠ (IntKind.i64.wrap (x26.Num + 1)))) rfl (fun hg29 => ?_) (fun hg29 => ?_)
        ·skip
         refine still_no 19 false 35 rfl rfl rfl rfl rfl ?_
         refine still_no 19 false 35 rfl rfl rfl rfl rfl ?_
         refine still_no 19 false 35 rfl rfl rfl rfl rfl ?_
         refine still_no 19 false 35 rfl rfl rfl rfl rfl ?_
         refine still_no 19 false 35 rfl rfl rfl rfl rfl ?_
         refine still_no 19 false 35 rfl rfl rfl rfl rfl ?_
         refine still_no 19 false 35 rfl rfl rfl rfl rfl ?_
         refine still_no 19 false 35 rfl rfl rfl rfl rfl ?_
         refine still_no 19 false 35 rfl rfl rfl rfl rfl ?_
         refine still_no 19 false 35 rfl rfl rfl rfl rfl ?_
         refine still_no 19 false 35 rfl rfl rfl rfl rfl ?_
         refine still_no 19 false 35 rfl rfl rfl rfl rfl ?_
         refine still_no 19 false 35 rfl rfl rfl rfl rfl ?_
         refine still_no 19 false 35 rfl rfl rfl rfl rfl ?_
         refine still_no 19 false 35 rfl rfl rfl rfl rfl ?_
         refine still_no 19 false 35 rfl rfl rfl rfl rfl ?_
         refine still_no 19 false 35 rfl rfl rfl rfl rfl ?_
         refine still_no 19 false 35 rfl rfl rfl rfl rfl ?_
         refine still_no 19 false 35 rfl rfl rfl rfl rfl ?_
         refine still_y (wg 5 true 21 rfl rfl rfl rfl) rfl (y_pick (b := true) rfl rfl) ?_
         refine still_nil ?_
         exact goes_cut hL28 true [0] (qv5 rfl rfl rfl rfl rfl) (by decide) rfl (by rw [hg29]; simp)
        ·skip
         refine still_y (wg 19 false 35 rfl rfl rfl rfl) rfl (y_move rfl) ?_
         refine still_y (wg 19 false 35 rfl rfl rfl rfl) rfl (y_move rfl) ?_
         refine still_y (wg 19 false 35 rfl rfl rfl rfl) rfl (y_indexAddrI (kd := .i64) (i := i_5) 0 Tryz.runUnderlying22 Tryz.sizeOf57 rfl rfl rfl reads_ro hzx11 (map_lt hlx11)) ?_
         refine still_y (wg 19 false 35 rfl rfl rfl rfl) rfl (y_fieldAddr_elem (sz := 0) Tryz.runUnderlying57 rfl Tryz.sizeOf3 rfl) ?_
         refine still_y (wg 19 false 35 rfl rfl rfl rfl) rfl (y_load_field (i := i_5.toNat) (j := 1) 0 Tryz.isAgg3 rfl rfl reads_ro (map_get hxx11) rfl) ?_
         refine still_y (wg 19 false 35 rfl rfl rfl rfl) rfl (y_move rfl) ?_
         refine still_y (wg 19 false 35 rfl rfl rfl rfl) rfl (y_move rfl) ?_
         refine still_y (wg 19 false 35 rfl rfl rfl rfl) rfl (y_sub rfl rfl) ?_
         refine still_y (wg 19 false 35 rfl rfl rfl rfl) rfl (y_indexAddrI (kd := .i64) (i := (IntKind.i64.wrap (i_5 - 1))) 0 Tryz.runUnderlying22 Tryz.sizeOf57 rfl rfl rfl reads_ro hzx26 (map_lt hlx26)) ?_
         refine still_y (wg 19 false 35 rfl rfl rfl rfl) rfl (y_fieldAddr_elem (sz := 0) Tryz.runUnderlying57 rfl Tryz.sizeOf3 rfl) ?_
         refine still_y (wg 19 false 35 rfl rfl rfl rfl) rfl (y_load_field (i := ((IntKind.i64.wrap (i_5 - 1))).toNat) (j := 1) 0 Tryz.isAgg3 rfl rfl reads_ro (map_get hxx26) rfl) ?_
         refine still_y (wg 19 false 35 rfl rfl rfl rfl) rfl (y_move rfl) ?_
         refine still_y (wg 19 false 35 rfl rfl rfl rfl) rfl (y_move rfl) ?_
         refine still_y (wg 19 false 35 rfl rfl rfl rfl) rfl (y_sub rfl rfl) ?_
         refine still_y (wg 19 false 35 rfl rfl rfl rfl) rfl (y_indexAddrI (kd := .i64) (i := (IntKind.i64.wrap (i_5 - 1))) 0 Tryz.runUnderlying22 Tryz.sizeOf57 rfl rfl rfl reads_ro hzx26 (map_lt hlx26)) ?_
         refine still_y (wg 19 false 35 rfl rfl rfl rfl) rfl (y_fieldAddr_elem (sz := 0) Tryz.runUnderlying57 rfl Tryz.sizeOf3 rfl) ?_
         refine still_y (wg 19 false 35 rfl rfl rfl rfl) rfl (y_load_field (i := ((IntKind.i64.wrap (i_5 - 1))).toNat) (j := 2) 0 Tryz.isAgg3 rfl rfl reads_ro (map_get hxx26) rfl) ?_
         refine still_y (wg 19 false 35 rfl rfl rfl rfl) rfl (y_add rfl rfl) ?_
         refine still_y (wg 19 false 35 rfl rfl rfl rfl) rfl (y_neq rfl rfl) ?_
         refine still_y (wg 5 true 21 rfl rfl rfl rfl) rfl (y_pick (b := false) rfl rfl) ?_
         refine still_nil ?_
         exact goes_cut hL28 (decide (x11.Begin ≠ (IntKind.i64.wrap (x26.Begin + x26.Len)))) [0] (qv5 rfl rfl rfl rfl rfl) (by decide) rfl (by rw [hg29]; simp)
       rintro _ rfl
       refine still_y (wg 2 false 18 rfl rfl rfl rfl) rfl (y_pick (b := true) rfl rfl) ?_
       refine still_nil ?_
       obtain rfl := some_eq h
       exact goes_cut hL24 (decide (x11.Num ≠ (IntKind.i64.wrap (x26.Num + 1))) || decide (x11.Begin ≠ (IntKind.i64.wrap (x26.Begin + x26.Len)))) [0] (qv4 rfl rfl rfl rfl) (by decide) rfl rfl
      ·replace h := cond_f h hg25
       refine still_no 5 true 21 rfl rfl rfl rfl rfl ?_
       refine still_no 5 true 21 rfl rfl rfl rfl rfl ?_
       refine still_no 5 true 21 rfl rfl rfl rfl rfl ?_
       refine still_no 5 true 21 rfl rfl rfl rfl rfl ?_
       refine still_no 5 true 21 rfl rfl rfl rfl rfl ?_
       refine still_no 5 true 21 rfl rfl rfl rfl rfl ?_
       refine still_no 5 true 21 rfl rfl rfl rfl rfl ?_
       refine still_no 5 true 21 rfl rfl rfl rfl rfl ?_
       refine still_no 5 true 21 rfl rfl rfl rfl rfl ?_
       refine still_no 5 true 21 rfl rfl rfl rfl rfl ?_
       refine still_no 5 true 21 rfl rfl rfl rfl rfl ?_
       refine still_no 5 true 21 rfl rfl rfl rfl rfl ?_
       refine still_no 5 true 21 rfl rfl rfl rfl rfl ?_
       refine still_no 5 true 21 rfl rfl rfl rfl rfl ?_
       refine still_un 19 false 35 rfl rfl rfl rfl rfl ?_
       refine still_un 19 false 35 rfl rfl rfl rfl rfl ?_
       refine still_un 19 false 35 rfl rfl rfl rfl rfl ?_
       refine still_un 19 false 35 rfl rfl rfl rfl rfl ?_
       refine still_un 19 false 35 rfl rfl rfl rfl rfl ?_
       refine still_un 19 false 35 rfl rfl rfl rfl rfl ?_
       refine still_un 19 false 35 rfl rfl rfl rfl rfl ?_
       refine still_un 19 false 35 rfl rfl rfl rfl rfl ?_
       refine still_un 19 false 35 rfl rfl rfl rfl rfl ?_
       refine still_un 19 false 35 rfl rfl rfl rfl rfl ?_
       refine still_un 19 false 35 rfl rfl rfl rfl rfl ?_
       refine still_un 19 false 35 rfl rfl rfl rfl rfl ?_
       refine still_un 19 false 35 rfl rfl rfl rfl rfl ?_
       refine still_un 19 false 35 rfl rfl rfl rfl rfl ?_
       refine still_un 19 false 35 rfl rfl rfl rfl rfl ?_
       refine still_un 19 false 35 rfl rfl rfl rfl rfl ?_
       refine still_un 19 false 35 rfl rfl rfl rfl rfl ?_
       refine still_un 19 false 35 rfl rfl rfl rfl rfl ?_
       refine still_un 19 false 35 rfl rfl rfl rfl rfl ?_
       refine still_no 5 true 21 rfl rfl rfl rfl rfl ?_
       refine still_y (wg 2 false 18 rfl rfl rfl rfl) rfl (y_pick (b := false) rfl rfl) ?_
       refine still_nil ?_
       obtain rfl := some_eq h
       exact goes_cut hL24 false [0] (qv4 rfl rfl rfl rfl) (by decide) rfl rfl
     rintro b20 hj
     obtain rfl : o21 = _ := hj
     replace h := after_go ho22
     clear ho22
     refine sy rfl rfl (y_pick (b := false) rfl rfl) ?_
     refine still_nil ?_
     obtain rfl := some_eq h
     exact goes_cut hL18 b20 [0] (qv3 rfl rfl rfl) (by decide) rfl rfl
   rintro b14 hj
   obtain rfl : o15 = _ := hj
   replace h := after_go ho16
   clear ho16
   refine still_nil ?_
   refine goes_code ?_
   refine run_cond b14 rfl (fun hc30 => ?_) (fun hc30 => ?_)
   ·replace h := cond_t h hc30
    refine run_seq ?_
    refine run_region' ?_
    refine oy rfl rfl (y_assign rfl) ?_
    refine ops_nil ?_
    refine goes_code ?_
    refine run_ret ?_
    obtain rfl := some_eq h
    obtain rfl := hstop8 _ rfl
    skip
    obtain rfl := after_stop ho2
    refine fin_slots [2] [.bool false] [] [] Tryz.results35 rfl (by decide) rfl ?_
    exact ⟨rfl, rfl⟩
   ·replace h := cond_f h hc30
    refine run_skip ?_
    refine goes_blk ?_
    refine goes_code ?_
    refine run_region' ?_
    refine oy rfl rfl (y_move rfl) ?_
    refine oy rfl rfl (y_add rfl rfl) ?_
    refine oy rfl rfl (y_assign rfl) ?_
    refine ops_nil ?_
    obtain rfl := some_eq h
    exact goes_iter hgo7 (IntKind.i64.wrap (i_5 + 1)) () [0] rfl (qv2 rfl rfl) (by decide) rfl
  ·replace h := cond_f h hc10
   refine run_exit _ rfl ?_
   obtain rfl := some_eq h
   obtain rfl := hstop8 _ rfl
   exact goes_cut hL3 ((), ()) [0] (qv1 rfl) (by decide) rfl rfl
 rintro ⟨_, _⟩ hj
 obtain rfl : o1 = _ := hj
 replace h := after_go ho2
 clear ho2
 change Run _ _ _ (VF.of [(0, l_0v)]) [ro l_0v 20 (l_0.map S_api_Segment.enc)]
 refine run_seq ?_
 refine run_region' ?_
 refine oy rfl rfl (y_move rfl) ?_
 refine oy rfl rfl ((y_len 0 rfl Tryz.runUnderlying22 rfl rfl reads_ro).to (v_len S_api_Segment.enc _)) ?_
 refine oy rfl rfl (y_leq rfl rfl) ?_
 refine oy rfl rfl (y_assign rfl) ?_
 refine ops_nil ?_
 refine goes_code ?_
 refine run_ret ?_
 obtain rfl := some_eq h
 refine fin_slots [2] [.bool (decide ((l_0.length : Int) ≤ 1000))] [] [] Tryz.results35 rfl (by decide) rfl ?_
 exact ⟨rfl, rfl⟩

def ref43_Valid (n : Nat) (p_0 : S_api_Playlist) : Option (Bool) :=
 bindJ (S := Bool)
  (cond ((decide (p_0.First < 0) || decide (1099511627776 < p_0.First)) || decide (100 < (p_0.L.length : Int)))
   (some (.go true))
   (bindJ (S := Bool)
    (cond (decide (0 < (p_0.L.length : Int)))
     (idx p_0.L 0 fun x20 =>
     some (.go (decide (x20.Num ≠ p_0.First))))
     (some (.go false)))
   (fun b14 =>
    some (.go b14))))
 (fun b8 =>
  cond b8
   (some false)
   (obind (ref43_Stream n p_0.L) fun r22 =>
   some r22))
theorem ref43_Valid_ok (n : Nat) (p_0 : S_api_Playlist) (p_0_Lv : Value) {r : Bool} (h : ref43_Valid n p_0 = some r) :
  Meets Tryz.prog 7 [.agg #[.int .i64 p_0.First, p_0_Lv, .bool p_0.Done]] [ro p_0_Lv 20 (p_0.L.map S_api_Segment.enc)] (fun v G => v = .bool r ∧ G = []) := by
 refine fn_of_run Tryz.func7 rfl Tryz.ntmps7 rfl (fun w0 o0 => ?_)
 refine run_seq ?_
 refine run_region' ?_
 refine ot rfl rfl (t_box rfl) ?_
 rintro _ _ ⟨b1, rfl, rfl⟩
 refine oy rfl rfl (y_assign rfl) ?_
 refine ops_nil ?_
 refine goes_code ?_
 refine run_seq ?_
 refine run_seq ?_
 refine run_draw (by kernel_rfl) (by kernel_rfl) ?_
 refine sy rfl rfl (y_fieldAddr_box (sz := 0) Tryz.runUnderlying24 rfl Tryz.sizeOf3 rfl) ?_
 refine sy rfl rfl (y_load_box 1 Tryz.isAgg3 rfl rfl rfl) ?_
 refine sy rfl rfl (y_lss rfl rfl) ?_
 refine sy rfl rfl (y_move rfl) ?_
 refine still_cut 4 (Bool) (fun σ => [(1, boxP b1 0), (10, .bool σ)]) (fun σ => [ro p_0_Lv 20 (p_0.L.map S_api_Segment.enc), box b1 [.int .i64 p_0.First, p_0_Lv, .bool p_0.Done]]) (fun σ => σ = (decide (p_0.First < 0) || decide (1099511627776 < p_0.First))) (fun L2 hL3 => ?_) ?_
 ·refine still_split 6 (decide (p_0.First < 0)) rfl (fun hg4 => ?_) (fun hg4 => ?_)
  ·skip
   refine still_no 3 false 6 rfl rfl rfl rfl rfl ?_
   refine still_no 3 false 6 rfl rfl rfl rfl rfl ?_
   refine still_no 3 false 6 rfl rfl rfl rfl rfl ?_
   refine sy rfl rfl (y_pick (b := true) rfl rfl) ?_
   refine still_nil ?_
   exact goes_cut hL3 true [0, 1] (qv2 rfl rfl) (by decide) rfl (by rw [hg4]; simp)
  ·skip
   refine still_y (wg 3 false 6 rfl rfl rfl rfl) rfl (y_fieldAddr_box (sz := 0) Tryz.runUnderlying24 rfl Tryz.sizeOf3 rfl) ?_
   refine still_y (wg 3 false 6 rfl rfl rfl rfl) rfl (y_load_box 1 Tryz.isAgg3 rfl rfl rfl) ?_
   refine still_y (wg 3 false 6 rfl rfl rfl rfl) rfl (y_gtr rfl rfl) ?_
   refine sy rfl rfl (y_pick (b := false) rfl rfl) ?_
   refine still_nil ?_
   exact goes_cut hL3 (decide (1099511627776 < p_0.First)) [0, 1] (qv2 rfl rfl) (by decide) rfl (by rw [hg4]; simp)
 rintro _ rfl
 refine sy rfl rfl (y_move rfl) ?_
 refine still_cut 5 (Bool) (fun σ => [(1, boxP b1 0), (16, .bool σ)]) (fun σ => [ro p_0_Lv 20 (p_0.L.map S_api_Segment.enc), box b1 [.int .i64 p_0.First, p_0_Lv, .bool p_0.Done]]) (fun σ => σ = ((decide (p_0.First < 0) || decide (1099511627776 < p_0.First)) || decide (100 < (p_0.L.length : Int)))) (fun L5 hL6 => ?_) ?_
 ·refine still_split 11 (decide (p_0.First < 0) || decide (1099511627776 < p_0.First)) rfl (fun hg7 => ?_) (fun hg7 => ?_)
  ·skip
   refine still_no 8 false 11 rfl rfl rfl rfl rfl ?_
   refine still_no 8 false 11 rfl rfl rfl rfl rfl ?_
   refine still_no 8 false 11 rfl rfl rfl rfl rfl ?_
   refine still_no 8 false 11 rfl rfl rfl rfl rfl ?_
   refine sy rfl rfl (y_pick (b := true) rfl rfl) ?_
   refine still_nil ?_
   exact goes_cut hL6 true [0, 1] (qv2 rfl rfl) (by decide) rfl (by rw [hg7]; simp)
  ·skip
   refine still_y (wg 8 false 11 rfl rfl rfl rfl) rfl (y_fieldAddr_box (sz := 0) Tryz.runUnderlying24 rfl Tryz.sizeOf22 rfl) ?_
   refine still_y (wg 8 false 11 rfl rfl rfl rfl) rfl (y_load_box 1 Tryz.isAgg22 rfl rfl rfl) ?_
   refine still_y (wg 8 false 11 rfl rfl rfl rfl) rfl ((y_len 0 rfl Tryz.runUnderlying22 rfl rfl reads_ro).to (v_len S_api_Segment.enc _)) ?_
   refine still_y (wg 8 false 11 rfl rfl rfl rfl) rfl (y_gtr rfl rfl) ?_
   refine sy rfl rfl (y_pick (b := false) rfl rfl) ?_
   refine still_nil ?_
   exact goes_cut hL6 (decide (100 < (p_0.L.length : Int))) [0, 1] (qv2 rfl rfl) (by decide) rfl (by rw [hg7]; simp)
 rintro _ rfl
 refine sy rfl rfl (y_move rfl) ?_
 obtain ⟨o9, h, ho10⟩ := bindJ_some h
 refine still_cut 15 (Bool) (fun σ => [(1, boxP b1 0), (32, .bool σ)]) (fun σ => [ro p_0_Lv 20 (p_0.L.map S_api_Segment.enc), box b1 [.int .i64 p_0.First, p_0_Lv, .bool p_0.Done]]) (fun σ => o9 = .go σ) (fun L11 hL12 => ?_) ?_
 ·refine still_split 17 ((decide (p_0.First < 0) || decide (1099511627776 < p_0.First)) || decide (100 < (p_0.L.length : Int))) rfl (fun hg13 => ?_) (fun hg13 => ?_)
  ·replace h := cond_t h hg13
   refine still_no 14 false 17 rfl rfl rfl rfl rfl ?_
   refine still_no 14 false 17 rfl rfl rfl rfl rfl ?_
   refine still_no 14 false 17 rfl rfl rfl rfl rfl ?_
   refine still_no 14 false 17 rfl rfl rfl rfl rfl ?_
   refine still_no 14 false 17 rfl rfl rfl rfl rfl ?_
   refine still_un 19 true 22 rfl rfl rfl rfl rfl ?_
   refine still_un 19 true 22 rfl rfl rfl rfl rfl ?_
   refine still_un 19 true 22 rfl rfl rfl rfl rfl ?_
   refine still_un 19 true 22 rfl rfl rfl rfl rfl ?_
   refine still_un 19 true 22 rfl rfl rfl rfl rfl ?_
   refine still_un 19 true 22 rfl rfl rfl rfl rfl ?_
   refine still_un 19 true 22 rfl rfl rfl rfl rfl ?_
   refine still_un 19 true 22 rfl rfl rfl rfl rfl ?_
   refine still_no 14 false 17 rfl rfl rfl rfl rfl ?_
   refine sy rfl rfl (y_pick (b := true) rfl rfl) ?_
   refine still_nil ?_
   obtain rfl := some_eq h
   exact goes_cut hL12 true [0, 1] (qv2 rfl rfl) (by decide) rfl rfl
  ·replace h := cond_f h hg13
   refine still_y (wg 14 false 17 rfl rfl rfl rfl) rfl (y_fieldAddr_box (sz := 0) Tryz.runUnderlying24 rfl Tryz.sizeOf22 rfl) ?_
   refine still_y (wg 14 false 17 rfl rfl rfl rfl) rfl (y_load_box 1 Tryz.isAgg22 rfl rfl rfl) ?_
   refine still_y (wg 14 false 17 rfl rfl rfl rfl) rfl ((y_len 0 rfl Tryz.runUnderlying22 rfl rfl reads_ro).to (v_len S_api_Segment.enc _)) ?_
   refine still_y (wg 14 false 17 rfl rfl rfl rfl) rfl (y_gtr rfl rfl) ?_
   refine still_y (wg 14 false 17 rfl rfl rfl rfl) rfl (y_move rfl) ?_
   obtain ⟨o15, h, ho16⟩ := bindJ_some h
   refine still_cut 9 (Bool) (fun σ => [(1, boxP b1 0), (17, .bool false), (31, .bool σ)]) (fun σ => [ro p_0_Lv 20 (p_0.L.map S_api_Segment.enc), box b1 [.int .i64 p_0.First, p_0_Lv, .bool p_0.Done]]) (fun σ => o15 = .go σ) (fun L17 hL18 => ?_) ?_
   ·refine still_split 22 (decide (0 < (p_0.L.length : Int))) rfl (fun hg19 => ?_) (fun hg19 => ?_)
    ·replace h := cond_t h hg19
     refine still_y (wg 19 true 22 rfl rfl rfl rfl) rfl (y_fieldAddr_box (sz := 0) Tryz.runUnderlying24 rfl Tryz.sizeOf22 rfl) ?_
     refine still_y (wg 19 true 22 rfl rfl rfl rfl) rfl (y_load_box 1 Tryz.isAgg22 rfl rfl rfl) ?_
     obtain ⟨x20, hzx20, hlx20, hxx20, h⟩ := idx_some h
     refine still_y (wg 19 true 22 rfl rfl rfl rfl) rfl (y_indexAddrI (kd := .i64) (i := 0) 0 Tryz.runUnderlying22 Tryz.sizeOf57 rfl rfl rfl reads_ro hzx20 (map_lt hlx20)) ?_
     refine still_y (wg 19 true 22 rfl rfl rfl rfl) rfl (y_fieldAddr_elem (sz := 0) Tryz.runUnderlying57 rfl Tryz.sizeOf3 rfl) ?_
     refine still_y (wg 19 true 22 rfl rfl rfl rfl) rfl (y_load_field (i := (0 : Int).toNat) (j := 0) 0 Tryz.isAgg3 rfl rfl reads_ro (map_get hxx20) rfl) ?_
     refine still_y (wg 19 true 22 rfl rfl rfl rfl) rfl (y_fieldAddr_box (sz := 0) Tryz.runUnderlying24 rfl Tryz.sizeOf3 rfl) ?_
     refine still_y (wg 19 true 22 rfl rfl rfl rfl) rfl (y_load_box 1 Tryz.isAgg3 rfl rfl rfl) ?_
     refine still_y (wg 19 true 22 rfl rfl rfl rfl) rfl (y_neq rfl rfl) ?_
     refine still_y (wg 14 false 17 rfl rfl rfl rfl) rfl (y_pick (b := true) rfl rfl) ?_
     refine still_nil ?_
     obtain rfl := some_eq h
     exact goes_cut hL18 (decide (x20.Num ≠ p_0.First)) [0, 1] (qv3 rfl rfl rfl) (by decide) rfl rfl
    ·replace h := cond_f h hg19
     refine still_no 19 true 22 rfl rfl rfl rfl rfl ?_
     refine still_no 19 true 22 rfl rfl rfl rfl rfl ?_
     refine still_no 19 true 22 rfl rfl rfl rfl rfl ?_
     refine still_no 19 true 22 rfl rfl rfl rfl rfl ?_
     refine still_no 19 true 22 rfl rfl rfl rfl rfl ?_
     refine still_no 19 true 22 rfl rfl rfl rfl rfl ?_
     refine still_no 19 true 22 rfl rfl rfl rfl rfl ?_
     refine still_no 19 true 22 rfl rfl rfl rfl rfl ?_
     refine still_y (wg 14 false 17 rfl rfl rfl rfl) rfl (y_pick (b := false) rfl rfl) ?_
     refine still_nil ?_
     obtain rfl := some_eq h
     exact goes_cut hL18 false [0, 1] (qv3 rfl rfl rfl) (by decide) rfl rfl
   rintro b14 hj
   obtain rfl : o15 = _ := hj
   replace h := after_go ho16
   clear ho16
   refine sy rfl rfl (y_pick (b := false) rfl rfl) ?_
   refine still_nil ?_
   obtain rfl := some_eq h
   exact goes_cut hL12 b14 [0, 1] (qv2 rfl rfl) (by decide) rfl rfl
 rintro b8 hj
 obtain rfl : o9 = _ := hj
 replace h := after_go ho10
 clear ho10
 refine still_nil ?_
 refine goes_code ?_
 refine run_cond b8 rfl (fun hc21 => ?_) (fun hc21 => ?_)
 ·replace h := cond_t h hc21
  refine run_seq ?_
  refine run_region' ?_
  refine oy rfl rfl (y_assign rfl) ?_
  refine ops_nil ?_
  refine goes_code ?_
  refine run_ret ?_
  obtain rfl := some_eq h
  refine fin_slots [2] [.bool false] [] [] Tryz.results7 rfl (by decide) rfl ?_
  exact ⟨rfl, rfl⟩
 ·replace h := cond_f h hc21
  refine run_skip ?_
  refine goes_code ?_
  refine run_seq ?_
  refine run_region' ?_
  refine oy rfl rfl (y_fieldAddr_box (sz := 0) Tryz.runUnderlying24 rfl Tryz.sizeOf22 rfl) ?_
  refine oy rfl rfl (y_load_box 1 Tryz.isAgg22 rfl rfl rfl) ?_
  obtain ⟨r22, hr23, h⟩ := obind_some h
  refine ot rfl rfl (t_callx (vs := [p_0_Lv]) (cs := []) [(0, 0)] rfl Tryz.call35 rfl (ref43_Stream_ok n p_0.L p_0_Lv hr23) (showsX_view 0 rfl views_ro showsX_nil) rfl (.inl rfl)) ?_
  rintro _ _ ⟨_, ⟨rfl, rfl⟩, rfl⟩
  refine oy rfl rfl (y_assign rfl) ?_
  refine ops_nil ?_
  refine goes_code ?_
  refine run_ret ?_
  obtain rfl := some_eq h
  refine fin_slots [2] [.bool r22] [] [] Tryz.results7 rfl (by decide) rfl ?_
  exact ⟨rfl, rfl⟩

def ref43_wide (n_0 : Int) : Option (Bool) :=
 some (decide (1 ≤ n_0) && decide (n_0 ≤ 100))
theorem ref43_wide_ok (n_0 : Int)  {r : Bool} (h : ref43_wide n_0 = some r) :
  Meets Tryz.prog 42 [.int .i64 n_0] [] (fun v G => v = .bool r ∧ G = []) := by
 refine fn_of_run Tryz.func42 rfl Tryz.ntmps42 rfl (fun w0 o0 => ?_)
 refine run_seq ?_
 refine run_region' ?_
 refine oy rfl rfl (y_assign rfl) ?_
 refine ops_nil ?_
 refine goes_code ?_
 refine run_seq ?_
 refine run_region' ?_
 refine oy rfl rfl (y_move rfl) ?_
 refine oy rfl rfl (y_geq rfl rfl) ?_
 refine oy rfl rfl (y_move rfl) ?_
 refine ops_cut 3 (Bool) (fun σ => [(8, .bool σ)]) (fun σ => []) (fun σ => σ = (decide (1 ≤ n_0) && decide (n_0 ≤ 100))) (fun L1 hL2 => ?_) ?_
 ·refine ops_split 5 (decide (1 ≤ n_0)) rfl (fun hg3 => ?_) (fun hg3 => ?_)
  ·skip
   refine ops_y (wg 2 true 5 rfl rfl rfl rfl) rfl (y_move rfl) ?_
   refine ops_y (wg 2 true 5 rfl rfl rfl rfl) rfl (y_leq rfl rfl) ?_
   refine oy rfl rfl (y_pick (b := true) rfl rfl) ?_
   refine ops_nil ?_
   exact goes_cut hL2 (decide (n_0 ≤ 100)) [] (qv1 rfl) (by decide) rfl (by rw [hg3]; simp)
  ·skip
   refine ops_no 2 true 5 rfl rfl rfl rfl rfl ?_
   refine ops_no 2 true 5 rfl rfl rfl rfl rfl ?_
   refine oy rfl rfl (y_pick (b := false) rfl rfl) ?_
   refine ops_nil ?_
   exact goes_cut hL2 false [] (qv1 rfl) (by decide) rfl (by rw [hg3]; simp)
 rintro _ rfl
 refine oy rfl rfl (y_assign rfl) ?_
 refine ops_nil ?_
 refine goes_code ?_
 refine run_ret ?_
 obtain rfl := some_eq h
 refine fin_slots [2] [.bool (decide (1 ≤ n_0) && decide (n_0 ≤ 100))] [] [] Tryz.results42 rfl (by decide) rfl ?_
 exact ⟨rfl, rfl⟩

def ref43_Next (p_0 : S_api_Playlist) : Option (Int) :=
 some (IntKind.i64.wrap (p_0.First + (p_0.L.length : Int)))
theorem ref43_Next_ok (p_0 : S_api_Playlist) (p_0_Lv : Value) {r : Int} (h : ref43_Next p_0 = some r) :
  Meets Tryz.prog 28 [.agg #[.int .i64 p_0.First, p_0_Lv, .bool p_0.Done]] [ro p_0_Lv 20 (p_0.L.map S_api_Segment.enc)] (fun v G => v = .int .i64 r ∧ G = []) := by
 refine fn_of_run Tryz.func28 rfl Tryz.ntmps28 rfl (fun w0 o0 => ?_)
 refine run_seq ?_
 refine run_region' ?_
 refine ot rfl rfl (t_box rfl) ?_
 rintro _ _ ⟨b1, rfl, rfl⟩
 refine oy rfl rfl (y_assign rfl) ?_
 refine ops_nil ?_
 refine goes_code ?_
 refine run_seq ?_
 refine run_region' ?_
 refine oy rfl rfl (y_fieldAddr_box (sz := 0) Tryz.runUnderlying24 rfl Tryz.sizeOf3 rfl) ?_
 refine oy rfl rfl (y_load_box 1 Tryz.isAgg3 rfl rfl rfl) ?_
 refine oy rfl rfl (y_fieldAddr_box (sz := 0) Tryz.runUnderlying24 rfl Tryz.sizeOf22 rfl) ?_
 refine oy rfl rfl (y_load_box 1 Tryz.isAgg22 rfl rfl rfl) ?_
 refine oy rfl rfl ((y_len 0 rfl Tryz.runUnderlying22 rfl rfl reads_ro).to (v_len S_api_Segment.enc _)) ?_
 refine oy rfl rfl (y_add rfl rfl) ?_
 refine oy rfl rfl (y_assign rfl) ?_
 refine ops_nil ?_
 refine goes_code ?_
 refine run_ret ?_
 obtain rfl := some_eq h
 refine fin_slots [2] [.int .i64 (IntKind.i64.wrap (p_0.First + (p_0.L.length : Int)))] [] [] Tryz.results28 rfl (by decide) rfl ?_
 exact ⟨rfl, rfl⟩

def ref43_Find_L1 (p_0 : S_api_Playlist) (num_1 : Int) : (Int) → Option (Lp (Int) (Lp (Unit) (S_ref43_Got))) :=
 fun i_7 =>
  cond (decide (i_7 < (p_0.L.length : Int)))
   (idx p_0.L i_7 fun x13 =>
   cond (decide (x13.Num = num_1))
    (some (.stop (.stop (S_ref43_Got.mk x13 0))))
    (some (.go (IntKind.i64.wrap (i_7 + 1)))))
   (some (.stop (.go ())))
def ref43_Find (n : Nat) (p_0 : S_api_Playlist) (num_1 : Int) : Option (S_ref43_Got) :=
 bindJ (S := Unit)
  (iter (ref43_Find_L1 p_0 num_1) n 0)
 (fun _ =>
  some (S_ref43_Got.mk (S_api_Segment.mk 0 0 0 (S_api_Digest.mk 0 0 0 0 0 0 0 0 0 0 0 0 0 0 0 0) 0) 5))
theorem ref43_Find_ok (n : Nat) (p_0 : S_api_Playlist) (num_1 : Int) (p_0_Lv : Value) {r : S_ref43_Got} (h : ref43_Find n p_0 num_1 = some r) :
  Meets Tryz.prog 25 [.agg #[.int .i64 p_0.First, p_0_Lv, .bool p_0.Done], .int .i64 num_1] [ro p_0_Lv 20 (p_0.L.map S_api_Segment.enc)] (fun v G => v = .agg #[.int .i64 r.S.Num, .int .i64 r.S.Begin, .int .i64 r.S.Len, .int .u8 r.S.Body.a0_, .int .u8 r.S.Body.a1_, .int .u8 r.S.Body.a2_, .int .u8 r.S.Body.a3_, .int .u8 r.S.Body.a4_, .int .u8 r.S.Body.a5_, .int .u8 r.S.Body.a6_, .int .u8 r.S.Body.a7_, .int .u8 r.S.Body.a8_, .int .u8 r.S.Body.a9_, .int .u8 r.S.Body.a10_, .int .u8 r.S.Body.a11_, .int .u8 r.S.Body.a12_, .int .u8 r.S.Body.a13_, .int .u8 r.S.Body.a14_, .int .u8 r.S.Body.a15_, .int .i64 r.S.Size, .int .i64 r.E] ∧ G = []) := by
 refine fn_of_run Tryz.func25 rfl Tryz.ntmps25 rfl (fun w0 o0 => ?_)
 refine run_seq ?_
 refine run_region' ?_
 refine ot rfl rfl (t_box rfl) ?_
 rintro _ _ ⟨b1, rfl, rfl⟩
 refine ot rfl rfl (t_alloc Tryz.zeroValue61) ?_
 rintro _ _ ⟨b2, rfl, rfl⟩
 refine ops_nil ?_
 refine goes_code ?_
 obtain ⟨o3, h, ho4⟩ := bindJ_some h
 refine run_cut ((Unit) × (Unit)) (fun σ => [(4, boxP b2 0)]) (fun σ => [box b2 [.int .i64 0, .int .i64 0, .int .i64 0, .int .u8 0, .int .u8 0, .int .u8 0, .int .u8 0, .int .u8 0, .int .u8 0, .int .u8 0, .int .u8 0, .int .u8 0, .int .u8 0, .int .u8 0, .int .u8 0, .int .u8 0, .int .u8 0, .int .u8 0, .int .u8 0, .int .i64 0, .int .i64 0]]) (fun σ => o3 = .go σ.1) (fun L6 hL5 => ?_) ?_
 ·
  refine run_seq ?_
  refine run_region' ?_
  refine oy rfl rfl (y_assign rfl) ?_
  refine ops_nil ?_
  refine goes_code ?_
  refine run_block ?_
  refine run_iter (step := ref43_Find_L1 p_0 num_1) (n := n) (s0 := 0) h (G := Unit) () (fun σ γ => [(5, .int .i64 σ), (1, .int .i64 num_1), (2, boxP b1 0), (4, boxP b2 0)]) (fun σ γ => [box b1 [.int .i64 p_0.First, p_0_Lv, .bool p_0.Done], ro p_0_Lv 20 (p_0.L.map S_api_Segment.enc), box b2 [.int .i64 0, .int .i64 0, .int .i64 0, .int .u8 0, .int .u8 0, .int .u8 0, .int .u8 0, .int .u8 0, .int .u8 0, .int .u8 0, .int .u8 0, .int .u8 0, .int .u8 0, .int .u8 0, .int .u8 0, .int .u8 0, .int .u8 0, .int .u8 0, .int .u8 0, .int .i64 0, .int .i64 0]]) [1, 0, 2] (qv4 rfl rfl rfl rfl) (by decide) rfl ?_
  rintro i_7 _ o8 h L11 hgo9 hstop10
  change Run _ _ _ (VF.of [(5, .int .i64 i_7), (1, .int .i64 num_1), (2, boxP b1 0), (4, boxP b2 0)]) [box b1 [.int .i64 p_0.First, p_0_Lv, .bool p_0.Done], ro p_0_Lv 20 (p_0.L.map S_api_Segment.enc), box b2 [.int .i64 0, .int .i64 0, .int .i64 0, .int .u8 0, .int .u8 0, .int .u8 0, .int .u8 0, .int .u8 0, .int .u8 0, .int .u8 0, .int .u8 0, .int .u8 0, .int .u8 0, .int .u8 0, .int .u8 0, .int .u8 0, .int .u8 0, .int .u8 0, .int .u8 0, .int .i64 0, .int .i64 0]]
  refine run_seq ?_
  refine run_seq ?_
  refine run_region' ?_
  refine oy rfl rfl (y_move rfl) ?_
  refine oy rfl rfl (y_fieldAddr_box (sz := 0) Tryz.runUnderlying24 rfl Tryz.sizeOf22 rfl) ?_
  refine oy rfl rfl (y_load_box 0 Tryz.isAgg22 rfl rfl rfl) ?_
  refine oy rfl rfl ((y_len 1 rfl Tryz.runUnderlying22 rfl rfl reads_ro).to (v_len S_api_Segment.enc _)) ?_
  refine oy rfl rfl (y_lss rfl rfl) ?_
  refine ops_nil ?_
  refine goes_code ?_
  refine run_cond (decide (i_7 < (p_0.L.length : Int))) rfl (fun hc12 => ?_) (fun hc12 => ?_)
  ·replace h := cond_t h hc12
   refine run_skip ?_
   refine goes_code ?_
   refine run_seq ?_
   refine run_block ?_
   refine run_seq ?_
   refine run_region' ?_
   refine oy rfl rfl (y_fieldAddr_box (sz := 0) Tryz.runUnderlying24 rfl Tryz.sizeOf22 rfl) ?_
   refine oy rfl rfl (y_load_box 0 Tryz.isAgg22 rfl rfl rfl) ?_
   refine oy rfl rfl (y_move rfl) ?_
   obtain ⟨x13, hzx13, hlx13, hxx13, h⟩ := idx_some h
   refine oy rfl rfl (y_indexAddrI (kd := .i64) (i := i_7) 1 Tryz.runUnderlying22 Tryz.sizeOf57 rfl rfl rfl reads_ro hzx13 (map_lt hlx13)) ?_
   refine oy rfl rfl (y_fieldAddr_elem (sz := 0) Tryz.runUnderlying57 rfl Tryz.sizeOf3 rfl) ?_
   refine oy rfl rfl (y_load_field (i := i_7.toNat) (j := 0) 1 Tryz.isAgg3 rfl rfl reads_ro (map_get hxx13) rfl) ?_
   refine oy rfl rfl (y_move rfl) ?_
   refine oy rfl rfl (y_eql rfl rfl) ?_
   refine ops_nil ?_
   refine goes_code ?_
   refine run_cond (decide (x13.Num = num_1)) rfl (fun hc14 => ?_) (fun hc14 => ?_)
   ·replace h := cond_t h hc14
    refine run_seq ?_
    refine run_weak [(5, .int .i64 i_7), (2, boxP b1 0), (4, boxP b2 0)] [0, 1, 2] [box b1 [.int .i64 p_0.First, p_0_Lv, .bool p_0.Done], ro p_0_Lv 20 (p_0.L.map S_api_Segment.enc), box b2 [.int .i64 0, .int .i64 0, .int .i64 0, .int .u8 0, .int .u8 0, .int .u8 0, .int .u8 0, .int .u8 0, .int .u8 0, .int .u8 0, .int .u8 0, .int .u8 0, .int .u8 0, .int .u8 0, .int .u8 0, .int .u8 0, .int .u8 0, .int .u8 0, .int .u8 0, .int .i64 0, .int .i64 0]] (qv3 rfl rfl rfl) (by decide) rfl ?_
    refine run_region' ?_
    refine oy rfl rfl (y_fieldAddr_box (sz := 0) Tryz.runUnderlying24 rfl Tryz.sizeOf22 rfl) ?_
    refine oy rfl rfl (y_load_box 0 Tryz.isAgg22 rfl rfl rfl) ?_
    refine oy rfl rfl (y_move rfl) ?_
    refine oy rfl rfl (y_indexAddrI (kd := .i64) (i := i_7) 1 Tryz.runUnderlying22 Tryz.sizeOf57 rfl rfl rfl reads_ro hzx13 (map_lt hlx13)) ?_
    refine oy rfl rfl (y_load_agg (i := i_7.toNat) (c := [.int .i64 x13.Num, .int .i64 x13.Begin, .int .i64 x13.Len, .int .u8 x13.Body.a0_, .int .u8 x13.Body.a1_, .int .u8 x13.Body.a2_, .int .u8 x13.Body.a3_, .int .u8 x13.Body.a4_, .int .u8 x13.Body.a5_, .int .u8 x13.Body.a6_, .int .u8 x13.Body.a7_, .int .u8 x13.Body.a8_, .int .u8 x13.Body.a9_, .int .u8 x13.Body.a10_, .int .u8 x13.Body.a11_, .int .u8 x13.Body.a12_, .int .u8 x13.Body.a13_, .int .u8 x13.Body.a14_, .int .u8 x13.Body.a15_, .int .i64 x13.Size]) 1 Tryz.isAgg57 Tryz.sizeOf57 rfl rfl reads_ro (map_get hxx13)) ?_
    refine oy rfl rfl (y_build_struct (cells := #[.int .i64 x13.Num, .int .i64 x13.Begin, .int .i64 x13.Len, .int .u8 x13.Body.a0_, .int .u8 x13.Body.a1_, .int .u8 x13.Body.a2_, .int .u8 x13.Body.a3_, .int .u8 x13.Body.a4_, .int .u8 x13.Body.a5_, .int .u8 x13.Body.a6_, .int .u8 x13.Body.a7_, .int .u8 x13.Body.a8_, .int .u8 x13.Body.a9_, .int .u8 x13.Body.a10_, .int .u8 x13.Body.a11_, .int .u8 x13.Body.a12_, .int .u8 x13.Body.a13_, .int .u8 x13.Body.a14_, .int .u8 x13.Body.a15_, .int .i64 x13.Size, .int .i64 0]) [(0, .agg #[.int .i64 x13.Num, .int .i64 x13.Begin, .int .i64 x13.Len, .int .u8 x13.Body.a0_, .int .u8 x13.Body.a1_, .int .u8 x13.Body.a2_, .int .u8 x13.Body.a3_, .int .u8 x13.Body.a4_, .int .u8 x13.Body.a5_, .int .u8 x13.Body.a6_, .int .u8 x13.Body.a7_, .int .u8 x13.Body.a8_, .int .u8 x13.Body.a9_, .int .u8 x13.Body.a10_, .int .u8 x13.Body.a11_, .int .u8 x13.Body.a12_, .int .u8 x13.Body.a13_, .int .u8 x13.Body.a14_, .int .u8 x13.Body.a15_, .int .i64 x13.Size])] [(0, [.int .i64 x13.Num, .int .i64 x13.Begin, .int .i64 x13.Len, .int .u8 x13.Body.a0_, .int .u8 x13.Body.a1_, .int .u8 x13.Body.a2_, .int .u8 x13.Body.a3_, .int .u8 x13.Body.a4_, .int .u8 x13.Body.a5_, .int .u8 x13.Body.a6_, .int .u8 x13.Body.a7_, .int .u8 x13.Body.a8_, .int .u8 x13.Body.a9_, .int .u8 x13.Body.a10_, .int .u8 x13.Body.a11_, .int .u8 x13.Body.a12_, .int .u8 x13.Body.a13_, .int .u8 x13.Body.a14_, .int .u8 x13.Body.a15_, .int .i64 x13.Size])] Tryz.zeroValue61 Tryz.runUnderlying61 (fs_cons Tryz.sizeOf57 (fs_cons Tryz.sizeOf27 fs_nil)) rfl (by kernel_rfl) (by kernel_rfl)) ?_
    refine ot rfl rfl (t_store 2 Tryz.sizeOf61 rfl rfl rfl rfl (by simp [Value.cells, boxP]) (by simp [Value.cells, Value.oneCell', boxP])) ?_
    rintro _ _ ⟨rfl, rfl⟩
    refine ops_turn (retell 2 (g := box b2 [.int .i64 x13.Num, .int .i64 x13.Begin, .int .i64 x13.Len, .int .u8 x13.Body.a0_, .int .u8 x13.Body.a1_, .int .u8 x13.Body.a2_, .int .u8 x13.Body.a3_, .int .u8 x13.Body.a4_, .int .u8 x13.Body.a5_, .int .u8 x13.Body.a6_, .int .u8 x13.Body.a7_, .int .u8 x13.Body.a8_, .int .u8 x13.Body.a9_, .int .u8 x13.Body.a10_, .int .u8 x13.Body.a11_, .int .u8 x13.Body.a12_, .int .u8 x13.Body.a13_, .int .u8 x13.Body.a14_, .int .u8 x13.Body.a15_, .int .i64 x13.Size, .int .i64 0]) rfl (by kernel_rfl)) ?_
    refine ops_nil ?_
    refine goes_code ?_
    refine run_ret ?_
    obtain rfl := some_eq h
    obtain rfl := hstop10 _ rfl
    skip
    obtain rfl := after_stop ho4
    refine fin_res [.cell 4 61] [.agg #[.int .i64 x13.Num, .int .i64 x13.Begin, .int .i64 x13.Len, .int .u8 x13.Body.a0_, .int .u8 x13.Body.a1_, .int .u8 x13.Body.a2_, .int .u8 x13.Body.a3_, .int .u8 x13.Body.a4_, .int .u8 x13.Body.a5_, .int .u8 x13.Body.a6_, .int .u8 x13.Body.a7_, .int .u8 x13.Body.a8_, .int .u8 x13.Body.a9_, .int .u8 x13.Body.a10_, .int .u8 x13.Body.a11_, .int .u8 x13.Body.a12_, .int .u8 x13.Body.a13_, .int .u8 x13.Body.a14_, .int .u8 x13.Body.a15_, .int .i64 x13.Size, .int .i64 0]] [] [] Tryz.results25 rfl (rescons (res_box 2 Tryz.isAgg61 Tryz.sizeOf61 rfl rfl rfl) resnil) (by decide) rfl ?_
    exact ⟨rfl, rfl⟩
   ·replace h := cond_f h hc14
    refine run_skip ?_
    refine goes_blk ?_
    refine goes_code ?_
    refine run_weak [(5, .int .i64 i_7), (1, .int .i64 num_1), (2, boxP b1 0), (4, boxP b2 0)] [0, 1, 2] [box b1 [.int .i64 p_0.First, p_0_Lv, .bool p_0.Done], ro p_0_Lv 20 (p_0.L.map S_api_Segment.enc), box b2 [.int .i64 0, .int .i64 0, .int .i64 0, .int .u8 0, .int .u8 0, .int .u8 0, .int .u8 0, .int .u8 0, .int .u8 0, .int .u8 0, .int .u8 0, .int .u8 0, .int .u8 0, .int .u8 0, .int .u8 0, .int .u8 0, .int .u8 0, .int .u8 0, .int .u8 0, .int .i64 0, .int .i64 0]] (qv4 rfl rfl rfl rfl) (by decide) rfl ?_
    refine run_region' ?_
    refine oy rfl rfl (y_move rfl) ?_
    refine oy rfl rfl (y_add rfl rfl) ?_
    refine oy rfl rfl (y_assign rfl) ?_
    refine ops_nil ?_
    obtain rfl := some_eq h
    exact goes_iter hgo9 (IntKind.i64.wrap (i_7 + 1)) () [0, 1, 2] rfl (qv4 rfl rfl rfl rfl) (by decide) rfl
  ·replace h := cond_f h hc12
   refine run_exit _ rfl ?_
   obtain rfl := some_eq h
   obtain rfl := hstop10 _ rfl
   exact goes_cut hL5 ((), ()) [2] (qv1 rfl) (by decide) rfl rfl
 rintro ⟨_, _⟩ hj
 obtain rfl : o3 = _ := hj
 replace h := after_go ho4
 clear ho4
 change Run _ _ _ (VF.of [(4, boxP b2 0)]) [box b2 [.int .i64 0, .int .i64 0, .int .i64 0, .int .u8 0, .int .u8 0, .int .u8 0, .int .u8 0, .int .u8 0, .int .u8 0, .int .u8 0, .int .u8 0, .int .u8 0, .int .u8 0, .int .u8 0, .int .u8 0, .int .u8 0, .int .u8 0, .int .u8 0, .int .u8 0, .int .i64 0, .int .i64 0]]
 refine run_seq ?_
 refine run_region' ?_
 refine oy rfl rfl (y_build_struct (cells := #[.int .i64 0, .int .i64 0, .int .i64 0, .int .u8 0, .int .u8 0, .int .u8 0, .int .u8 0, .int .u8 0, .int .u8 0, .int .u8 0, .int .u8 0, .int .u8 0, .int .u8 0, .int .u8 0, .int .u8 0, .int .u8 0, .int .u8 0, .int .u8 0, .int .u8 0, .int .i64 0, .int .i64 5]) [(1, .int .i64 5)] [(1, [.int .i64 5])] Tryz.zeroValue61 Tryz.runUnderlying61 (fs_cons Tryz.sizeOf57 (fs_cons Tryz.sizeOf27 fs_nil)) rfl (by kernel_rfl) (by kernel_rfl)) ?_
 refine ot rfl rfl (t_store 0 Tryz.sizeOf61 rfl rfl rfl rfl (by simp [Value.cells, boxP]) (by simp [Value.cells, Value.oneCell', boxP])) ?_
 rintro _ _ ⟨rfl, rfl⟩
 refine ops_turn (retell 0 (g := box b2 [.int .i64 0, .int .i64 0, .int .i64 0, .int .u8 0, .int .u8 0, .int .u8 0, .int .u8 0, .int .u8 0, .int .u8 0, .int .u8 0, .int .u8 0, .int .u8 0, .int .u8 0, .int .u8 0, .int .u8 0, .int .u8 0, .int .u8 0, .int .u8 0, .int .u8 0, .int .i64 0, .int .i64 5]) rfl (by kernel_rfl)) ?_
 refine ops_nil ?_
 refine goes_code ?_
 refine run_ret ?_
 obtain rfl := some_eq h
 refine fin_res [.cell 4 61] [.agg #[.int .i64 0, .int .i64 0, .int .i64 0, .int .u8 0, .int .u8 0, .int .u8 0, .int .u8 0, .int .u8 0, .int .u8 0, .int .u8 0, .int .u8 0, .int .u8 0, .int .u8 0, .int .u8 0, .int .u8 0, .int .u8 0, .int .u8 0, .int .u8 0, .int .u8 0, .int .i64 0, .int .i64 5]] [] [] Tryz.results25 rfl (rescons (res_box 0 Tryz.isAgg61 Tryz.sizeOf61 rfl rfl rfl) resnil) (by decide) rfl ?_
 exact ⟨rfl, rfl⟩

def ref43_Edge (p_0 : S_api_Playlist) : Option (Int) :=
 cond (decide ((p_0.L.length : Int) = 0))
  (some 0)
  (idx p_0.L (IntKind.i64.wrap ((p_0.L.length : Int) - 1)) fun x3 =>
  some (IntKind.i64.wrap (x3.Begin + x3.Len)))
theorem ref43_Edge_ok (p_0 : S_api_Playlist) (p_0_Lv : Value) {r : Int} (h : ref43_Edge p_0 = some r) :
  Meets Tryz.prog 30 [.agg #[.int .i64 p_0.First, p_0_Lv, .bool p_0.Done]] [ro p_0_Lv 20 (p_0.L.map S_api_Segment.enc)] (fun v G => v = .int .i64 r ∧ G = []) := by
 refine fn_of_run Tryz.func30 rfl Tryz.ntmps30 rfl (fun w0 o0 => ?_)
 refine run_seq ?_
 refine run_region' ?_
 refine ot rfl rfl (t_box rfl) ?_
 rintro _ _ ⟨b1, rfl, rfl⟩
 refine oy rfl rfl (y_assign rfl) ?_
 refine ops_nil ?_
 refine goes_code ?_
 refine run_seq ?_
 refine run_seq ?_
 refine run_region' ?_
 refine oy rfl rfl (y_fieldAddr_box (sz := 0) Tryz.runUnderlying24 rfl Tryz.sizeOf22 rfl) ?_
 refine oy rfl rfl (y_load_box 1 Tryz.isAgg22 rfl rfl rfl) ?_
 refine oy rfl rfl ((y_len 0 rfl Tryz.runUnderlying22 rfl rfl reads_ro).to (v_len S_api_Segment.enc _)) ?_
 refine oy rfl rfl (y_eql rfl rfl) ?_
 refine ops_nil ?_
 refine goes_code ?_
 refine run_cond (decide ((p_0.L.length : Int) = 0)) rfl (fun hc2 => ?_) (fun hc2 => ?_)
 ·replace h := cond_t h hc2
  refine run_seq ?_
  refine run_region' ?_
  refine oy rfl rfl (y_assign rfl) ?_
  refine ops_nil ?_
  refine goes_code ?_
  refine run_ret ?_
  obtain rfl := some_eq h
  refine fin_slots [2] [.int .i64 0] [] [] Tryz.results30 rfl (by decide) rfl ?_
  exact ⟨rfl, rfl⟩
 ·replace h := cond_f h hc2
  refine run_skip ?_
  refine goes_code ?_
  refine run_seq ?_
  refine run_region' ?_
  refine oy rfl rfl (y_fieldAddr_box (sz := 0) Tryz.runUnderlying24 rfl Tryz.sizeOf22 rfl) ?_
  refine oy rfl rfl (y_load_box 1 Tryz.isAgg22 rfl rfl rfl) ?_
  refine oy rfl rfl (y_fieldAddr_box (sz := 0) Tryz.runUnderlying24 rfl Tryz.sizeOf22 rfl) ?_
  refine oy rfl rfl (y_load_box 1 Tryz.isAgg22 rfl rfl rfl) ?_
  refine oy rfl rfl ((y_len 0 rfl Tryz.runUnderlying22 rfl rfl reads_ro).to (v_len S_api_Segment.enc _)) ?_
  refine oy rfl rfl (y_sub rfl rfl) ?_
  obtain ⟨x3, hzx3, hlx3, hxx3, h⟩ := idx_some h
  refine oy rfl rfl (y_indexAddrI (kd := .i64) (i := (IntKind.i64.wrap ((p_0.L.length : Int) - 1))) 0 Tryz.runUnderlying22 Tryz.sizeOf57 rfl rfl rfl reads_ro hzx3 (map_lt hlx3)) ?_
  refine oy rfl rfl (y_load_agg (i := ((IntKind.i64.wrap ((p_0.L.length : Int) - 1))).toNat) (c := [.int .i64 x3.Num, .int .i64 x3.Begin, .int .i64 x3.Len, .int .u8 x3.Body.a0_, .int .u8 x3.Body.a1_, .int .u8 x3.Body.a2_, .int .u8 x3.Body.a3_, .int .u8 x3.Body.a4_, .int .u8 x3.Body.a5_, .int .u8 x3.Body.a6_, .int .u8 x3.Body.a7_, .int .u8 x3.Body.a8_, .int .u8 x3.Body.a9_, .int .u8 x3.Body.a10_, .int .u8 x3.Body.a11_, .int .u8 x3.Body.a12_, .int .u8 x3.Body.a13_, .int .u8 x3.Body.a14_, .int .u8 x3.Body.a15_, .int .i64 x3.Size]) 0 Tryz.isAgg57 Tryz.sizeOf57 rfl rfl reads_ro (map_get hxx3)) ?_
  refine ot rfl rfl (t_alloc Tryz.zeroValue57) ?_
  rintro _ _ ⟨b4, rfl, rfl⟩
  refine ot rfl rfl (t_store 2 Tryz.sizeOf57 rfl rfl rfl rfl (by simp [Value.cells, boxP]) (by simp [Value.cells, Value.oneCell', boxP])) ?_
  rintro _ _ ⟨rfl, rfl⟩
  refine ops_turn (retell 2 (g := box b4 [.int .i64 x3.Num, .int .i64 x3.Begin, .int .i64 x3.Len, .int .u8 x3.Body.a0_, .int .u8 x3.Body.a1_, .int .u8 x3.Body.a2_, .int .u8 x3.Body.a3_, .int .u8 x3.Body.a4_, .int .u8 x3.Body.a5_, .int .u8 x3.Body.a6_, .int .u8 x3.Body.a7_, .int .u8 x3.Body.a8_, .int .u8 x3.Body.a9_, .int .u8 x3.Body.a10_, .int .u8 x3.Body.a11_, .int .u8 x3.Body.a12_, .int .u8 x3.Body.a13_, .int .u8 x3.Body.a14_, .int .u8 x3.Body.a15_, .int .i64 x3.Size]) rfl (by kernel_rfl)) ?_
  refine ops_nil ?_
  refine goes_code ?_
  refine run_seq ?_
  refine run_weak [(3, boxP b4 0)] [2] [box b4 [.int .i64 x3.Num, .int .i64 x3.Begin, .int .i64 x3.Len, .int .u8 x3.Body.a0_, .int .u8 x3.Body.a1_, .int .u8 x3.Body.a2_, .int .u8 x3.Body.a3_, .int .u8 x3.Body.a4_, .int .u8 x3.Body.a5_, .int .u8 x3.Body.a6_, .int .u8 x3.Body.a7_, .int .u8 x3.Body.a8_, .int .u8 x3.Body.a9_, .int .u8 x3.Body.a10_, .int .u8 x3.Body.a11_, .int .u8 x3.Body.a12_, .int .u8 x3.Body.a13_, .int .u8 x3.Body.a14_, .int .u8 x3.Body.a15_, .int .i64 x3.Size]] (qv1 rfl) (by decide) rfl ?_
  refine run_region' ?_
  refine oy rfl rfl (y_fieldAddr_box (sz := 0) Tryz.runUnderlying57 rfl Tryz.sizeOf3 rfl) ?_
  refine oy rfl rfl (y_load_box 0 Tryz.isAgg3 rfl rfl rfl) ?_
  refine oy rfl rfl (y_fieldAddr_box (sz := 0) Tryz.runUnderlying57 rfl Tryz.sizeOf3 rfl) ?_
  refine oy rfl rfl (y_load_box 0 Tryz.isAgg3 rfl rfl rfl) ?_
  refine oy rfl rfl (y_add rfl rfl) ?_
  refine oy rfl rfl (y_assign rfl) ?_
  refine ops_nil ?_
  refine goes_code ?_
  refine run_ret ?_
  obtain rfl := some_eq h
  refine fin_slots [2] [.int .i64 (IntKind.i64.wrap (x3.Begin + x3.Len))] [] [] Tryz.results30 rfl (by decide) rfl ?_
  exact ⟨rfl, rfl⟩

def ref43_fork_L1 (n : Nat) (early_0 : S_api_Playlist) (late_1 : S_api_Playlist) : (Int) → Option (Lp (Int) (Lp (Unit) (Bool))) :=
 fun i_7 =>
  cond (decide (i_7 < (early_0.L.length : Int)))
   (idx early_0.L i_7 fun x13 =>
   obind (ref43_Find n late_1 x13.Num) fun r14 =>
   cond (decide (r14.E = 0) && (!(decide (r14.S.Num = x13.Num) && (decide (r14.S.Begin = x13.Begin) && (decide (r14.S.Len = x13.Len) && (decide (S_api_Digest.toL r14.S.Body = S_api_Digest.toL x13.Body) && (decide (r14.S.Size = x13.Size))))))))
    (some (.stop (.stop true)))
    (some (.go (IntKind.i64.wrap (i_7 + 1)))))
   (some (.stop (.go ())))
def ref43_fork (n : Nat) (early_0 : S_api_Playlist) (late_1 : S_api_Playlist) : Option (Bool) :=
 bindJ (S := Unit)
  (iter (ref43_fork_L1 n early_0 late_1) n 0)
 (fun _ =>
  bindJ (S := Bool)
   (cond early_0.Done
    (obind (ref43_Next early_0) fun r35 =>
    obind (ref43_Next late_1) fun r37 =>
    some (.go (decide (r35 < r37))))
    (some (.go false)))
  (fun b29 =>
   cond b29
    (some true)
    (bindJ (S := Bool)
     (cond (decide (0 < (early_0.L.length : Int)) && decide (0 < (late_1.L.length : Int)))
      (obind (ref43_Next early_0) fun r49 =>
      some (.go (decide (r49 = late_1.First))))
      (some (.go false)))
    (fun b43 =>
     bindJ (S := Bool)
      (cond b43
       (idx late_1.L 0 fun x57 =>
       obind (ref43_Edge early_0) fun r58 =>
       some (.go (decide (r58 ≠ x57.Begin))))
       (some (.go false)))
     (fun b51 =>
      some b51)))))
theorem ref43_fork_ok (n : Nat) (early_0 : S_api_Playlist) (late_1 : S_api_Playlist) (early_0_Lv : Value) (late_1_Lv : Value) {r : Bool} (h : ref43_fork n early_0 late_1 = some r) :
  Meets Tryz.prog 43 [.agg #[.int .i64 early_0.First, early_0_Lv, .bool early_0.Done], .agg #[.int .i64 late_1.First, late_1_Lv, .bool late_1.Done]] [ro early_0_Lv 20 (early_0.L.map S_api_Segment.enc), ro late_1_Lv 20 (late_1.L.map S_api_Segment.enc)] (fun v G => v = .bool r ∧ G = []) := by
 refine fn_of_run Tryz.func43 rfl Tryz.ntmps43 rfl (fun w0 o0 => ?_)
 refine run_seq ?_
 refine run_region' ?_
 refine ot rfl rfl (t_box rfl) ?_
 rintro _ _ ⟨b1, rfl, rfl⟩
 refine ot rfl rfl (t_box rfl) ?_
 rintro _ _ ⟨b2, rfl, rfl⟩
 refine oy rfl rfl (y_assign rfl) ?_
 refine ops_nil ?_
 refine goes_code ?_
 obtain ⟨o3, h, ho4⟩ := bindJ_some h
 refine run_cut ((Unit) × (Unit)) (fun σ => [(2, boxP b1 0), (3, boxP b2 0)]) (fun σ => [box b1 [.int .i64 early_0.First, early_0_Lv, .bool early_0.Done], ro early_0_Lv 20 (early_0.L.map S_api_Segment.enc), box b2 [.int .i64 late_1.First, late_1_Lv, .bool late_1.Done], ro late_1_Lv 20 (late_1.L.map S_api_Segment.enc)]) (fun σ => o3 = .go σ.1) (fun L6 hL5 => ?_) ?_
 ·
  refine run_seq ?_
  refine run_region' ?_
  refine oy rfl rfl (y_assign rfl) ?_
  refine ops_nil ?_
  refine goes_code ?_
  refine run_block ?_
  refine run_iter (step := ref43_fork_L1 n early_0 late_1) (n := n) (s0 := 0) h (G := Unit) () (fun σ γ => [(5, .int .i64 σ), (2, boxP b1 0), (3, boxP b2 0)]) (fun σ γ => [box b1 [.int .i64 early_0.First, early_0_Lv, .bool early_0.Done], ro early_0_Lv 20 (early_0.L.map S_api_Segment.enc), box b2 [.int .i64 late_1.First, late_1_Lv, .bool late_1.Done], ro late_1_Lv 20 (late_1.L.map S_api_Segment.enc)]) [2, 0, 3, 1] (qv3 rfl rfl rfl) (by decide) rfl ?_
  rintro i_7 _ o8 h L11 hgo9 hstop10
  change Run _ _ _ (VF.of [(5, .int .i64 i_7), (2, boxP b1 0), (3, boxP b2 0)]) [box b1 [.int .i64 early_0.First, early_0_Lv, .bool early_0.Done], ro early_0_Lv 20 (early_0.L.map S_api_Segment.enc), box b2 [.int .i64 late_1.First, late_1_Lv, .bool late_1.Done], ro late_1_Lv 20 (late_1.L.map S_api_Segment.enc)]
  refine run_seq ?_
  refine run_seq ?_
  refine run_region' ?_
  refine oy rfl rfl (y_move rfl) ?_
  refine oy rfl rfl (y_fieldAddr_box (sz := 0) Tryz.runUnderlying24 rfl Tryz.sizeOf22 rfl) ?_
  refine oy rfl rfl (y_load_box 0 Tryz.isAgg22 rfl rfl rfl) ?_
  refine oy rfl rfl ((y_len 1 rfl Tryz.runUnderlying22 rfl rfl reads_ro).to (v_len S_api_Segment.enc _)) ?_
  refine oy rfl rfl (y_lss rfl rfl) ?_
  refine ops_nil ?_
  refine goes_code ?_
  refine run_cond (decide (i_7 < (early_0.L.length : Int))) rfl (fun hc12 => ?_) (fun hc12 => ?_)
  ·replace h := cond_t h hc12
   refine run_skip ?_
   refine goes_code ?_
   refine run_seq ?_
   refine run_block ?_
   refine run_seq ?_
   obtain ⟨x13, hzx13, hlx13, hxx13, h⟩ := idx_some h
   obtain ⟨r14, hr15, h⟩ := obind_some h
   refine run_drawany [box b1 [.int .i64 early_0.First, early_0_Lv, .bool early_0.Done], ro early_0_Lv 20 (early_0.L.map S_api_Segment.enc), box b2 [.int .i64 late_1.First, late_1_Lv, .bool late_1.Done], ro late_1_Lv 20 (late_1.L.map S_api_Segment.enc)] (by kernel_rfl) ?_
   refine any_y 0 rfl (by kernel_rfl) (by kernel_rfl) (by kernel_rfl) (ss (ss (ss (ss (sn))))) (wn rfl) rfl (y_load_boxagg (c := [.int .i64 late_1.First, late_1_Lv, .bool late_1.Done]) 2 Tryz.isAgg24 Tryz.sizeOf24 rfl rfl rfl) ?_
   refine any_y 1 rfl (by kernel_rfl) (by kernel_rfl) (by kernel_rfl) (ss (ss (ss (ss (sn))))) (wn rfl) rfl (y_fieldAddr_box (sz := 0) Tryz.runUnderlying24 rfl Tryz.sizeOf22 rfl) ?_
   refine any_y 2 rfl (by kernel_rfl) (by kernel_rfl) (by kernel_rfl) (ss (ss (ss (ss (sn))))) (wn rfl) rfl (y_load_box 0 Tryz.isAgg22 rfl rfl rfl) ?_
   refine any_y 3 rfl (by kernel_rfl) (by kernel_rfl) (by kernel_rfl) (ss (ss (ss (ss (sn))))) (wn rfl) rfl (y_move rfl) ?_
   refine any_y 4 rfl (by kernel_rfl) (by kernel_rfl) (by kernel_rfl) (ss (ss (ss (ss (sn))))) (wn rfl) rfl (y_indexAddrI (kd := .i64) (i := i_7) 1 Tryz.runUnderlying22 Tryz.sizeOf57 rfl rfl rfl reads_ro hzx13 (map_lt hlx13)) ?_
   refine any_y 5 rfl (by kernel_rfl) (by kernel_rfl) (by kernel_rfl) (ss (ss (ss (ss (sn))))) (wn rfl) rfl (y_fieldAddr_elem (sz := 0) Tryz.runUnderlying57 rfl Tryz.sizeOf3 rfl) ?_
   refine any_y 6 rfl (by kernel_rfl) (by kernel_rfl) (by kernel_rfl) (ss (ss (ss (ss (sn))))) (wn rfl) rfl (y_load_field (i := i_7.toNat) (j := 0) 1 Tryz.isAgg3 rfl rfl reads_ro (map_get hxx13) rfl) ?_
   refine any_cut2 #[true, true, true, true, true, true, true, true, true, true] 0 (Nat) (fun σ => [(5, .int .i64 i_7), (2, boxP b1 0), (3, boxP b2 0), (6, boxP σ 0)]) (fun σ => [box b1 [.int .i64 early_0.First, early_0_Lv, .bool early_0.Done], ro early_0_Lv 20 (early_0.L.map S_api_Segment.enc), box b2 [.int .i64 late_1.First, late_1_Lv, .bool late_1.Done], ro late_1_Lv 20 (late_1.L.map S_api_Segment.enc), box σ [.int .i64 r14.S.Num, .int .i64 r14.S.Begin, .int .i64 r14.S.Len, .int .u8 r14.S.Body.a0_, .int .u8 r14.S.Body.a1_, .int .u8 r14.S.Body.a2_, .int .u8 r14.S.Body.a3_, .int .u8 r14.S.Body.a4_, .int .u8 r14.S.Body.a5_, .int .u8 r14.S.Body.a6_, .int .u8 r14.S.Body.a7_, .int .u8 r14.S.Body.a8_, .int .u8 r14.S.Body.a9_, .int .u8 r14.S.Body.a10_, .int .u8 r14.S.Body.a11_, .int .u8 r14.S.Body.a12_, .int .u8 r14.S.Body.a13_, .int .u8 r14.S.Body.a14_, .int .u8 r14.S.Body.a15_, .int .i64 r14.S.Size, .int .i64 r14.E]]) ?_ (fun hK19 => ?_)
   ·rintro b18
    change AnyL _ _ _ _ _ (VF.of [(5, .int .i64 i_7), (2, boxP b1 0), (3, boxP b2 0), (6, boxP b18 0)]) [box b1 [.int .i64 early_0.First, early_0_Lv, .bool early_0.Done], ro early_0_Lv 20 (early_0.L.map S_api_Segment.enc), box b2 [.int .i64 late_1.First, late_1_Lv, .bool late_1.Done], ro late_1_Lv 20 (late_1.L.map S_api_Segment.enc), box b18 [.int .i64 r14.S.Num, .int .i64 r14.S.Begin, .int .i64 r14.S.Len, .int .u8 r14.S.Body.a0_, .int .u8 r14.S.Body.a1_, .int .u8 r14.S.Body.a2_, .int .u8 r14.S.Body.a3_, .int .u8 r14.S.Body.a4_, .int .u8 r14.S.Body.a5_, .int .u8 r14.S.Body.a6_, .int .u8 r14.S.Body.a7_, .int .u8 r14.S.Body.a8_, .int .u8 r14.S.Body.a9_, .int .u8 r14.S.Body.a10_, .int .u8 r14.S.Body.a11_, .int .u8 r14.S.Body.a12_, .int .u8 r14.S.Body.a13_, .int .u8 r14.S.Body.a14_, .int .u8 r14.S.Body.a15_, .int .i64 r14.S.Size, .int .i64 r14.E]] _
    refine any_nil (by kernel_rfl) ?_
    refine goes_code ?_
    refine run_seq ?_
    refine run_draw (by kernel_rfl) (by kernel_rfl) ?_
    refine sy rfl rfl (y_fieldAddr_box (sz := 0) Tryz.runUnderlying61 rfl Tryz.sizeOf27 rfl) ?_
    refine sy rfl rfl (y_load_box 4 Tryz.isAgg27 rfl rfl rfl) ?_
    refine sy rfl rfl (y_eql rfl rfl) ?_
    refine sy rfl rfl (y_move rfl) ?_
    refine still_cut 9 (Bool) (fun σ => [(5, .int .i64 i_7), (2, boxP b1 0), (3, boxP b2 0), (34, .bool σ)]) (fun σ => [box b1 [.int .i64 early_0.First, early_0_Lv, .bool early_0.Done], ro early_0_Lv 20 (early_0.L.map S_api_Segment.enc), box b2 [.int .i64 late_1.First, late_1_Lv, .bool late_1.Done], ro late_1_Lv 20 (late_1.L.map S_api_Segment.enc), box b18 [.int .i64 r14.S.Num, .int .i64 r14.S.Begin, .int .i64 r14.S.Len, .int .u8 r14.S.Body.a0_, .int .u8 r14.S.Body.a1_, .int .u8 r14.S.Body.a2_, .int .u8 r14.S.Body.a3_, .int .u8 r14.S.Body.a4_, .int .u8 r14.S.Body.a5_, .int .u8 r14.S.Body.a6_, .int .u8 r14.S.Body.a7_, .int .u8 r14.S.Body.a8_, .int .u8 r14.S.Body.a9_, .int .u8 r14.S.Body.a10_, .int .u8 r14.S.Body.a11_, .int .u8 r14.S.Body.a12_, .int .u8 r14.S.Body.a13_, .int .u8 r14.S.Body.a14_, .int .u8 r14.S.Body.a15_, .int .i64 r14.S.Size, .int .i64 r14.E]]) (fun σ => σ = (decide (r14.E = 0) && (!(decide (r14.S.Num = x13.Num) && (decide (r14.S.Begin = x13.Begin) && (decide (r14.S.Len = x13.Len) && (decide (S_api_Digest.toL r14.S.Body = S_api_Digest.toL x13.Body) && (decide (r14.S.Size = x13.Size))))))))) (fun L20 hL21 => ?_) ?_
    ·refine still_split 25 (decide (r14.E = 0)) rfl (fun hg22 => ?_) (fun hg22 => ?_)
     ·skip
      refine still_y (wg 3 true 25 rfl rfl rfl rfl) rfl (y_fieldAddr_box (sz := 19) Tryz.runUnderlying61 rfl Tryz.sizeOf57 rfl) ?_
      refine still_y (wg 3 true 25 rfl rfl rfl rfl) rfl (y_load_boxagg (c := [.int .i64 r14.S.Num, .int .i64 r14.S.Begin, .int .i64 r14.S.Len, .int .u8 r14.S.Body.a0_, .int .u8 r14.S.Body.a1_, .int .u8 r14.S.Body.a2_, .int .u8 r14.S.Body.a3_, .int .u8 r14.S.Body.a4_, .int .u8 r14.S.Body.a5_, .int .u8 r14.S.Body.a6_, .int .u8 r14.S.Body.a7_, .int .u8 r14.S.Body.a8_, .int .u8 r14.S.Body.a9_, .int .u8 r14.S.Body.a10_, .int .u8 r14.S.Body.a11_, .int .u8 r14.S.Body.a12_, .int .u8 r14.S.Body.a13_, .int .u8 r14.S.Body.a14_, .int .u8 r14.S.Body.a15_, .int .i64 r14.S.Size]) 4 Tryz.isAgg57 Tryz.sizeOf57 rfl rfl rfl) ?_
      refine still_y (wg 3 true 25 rfl rfl rfl rfl) rfl (y_fieldAddr_box (sz := 0) Tryz.runUnderlying24 rfl Tryz.sizeOf22 rfl) ?_
      refine still_y (wg 3 true 25 rfl rfl rfl rfl) rfl (y_load_box 0 Tryz.isAgg22 rfl rfl rfl) ?_
      refine still_y (wg 3 true 25 rfl rfl rfl rfl) rfl (y_move rfl) ?_
      refine still_y (wg 3 true 25 rfl rfl rfl rfl) rfl (y_indexAddrI (kd := .i64) (i := i_7) 1 Tryz.runUnderlying22 Tryz.sizeOf57 rfl rfl rfl reads_ro hzx13 (map_lt hlx13)) ?_
      refine still_y (wg 3 true 25 rfl rfl rfl rfl) rfl (y_load_agg (i := i_7.toNat) (c := [.int .i64 x13.Num, .int .i64 x13.Begin, .int .i64 x13.Len, .int .u8 x13.Body.a0_, .int .u8 x13.Body.a1_, .int .u8 x13.Body.a2_, .int .u8 x13.Body.a3_, .int .u8 x13.Body.a4_, .int .u8 x13.Body.a5_, .int .u8 x13.Body.a6_, .int .u8 x13.Body.a7_, .int .u8 x13.Body.a8_, .int .u8 x13.Body.a9_, .int .u8 x13.Body.a10_, .int .u8 x13.Body.a11_, .int .u8 x13.Body.a12_, .int .u8 x13.Body.a13_, .int .u8 x13.Body.a14_, .int .u8 x13.Body.a15_, .int .i64 x13.Size]) 1 Tryz.isAgg57 Tryz.sizeOf57 rfl rfl reads_ro (map_get hxx13)) ?_
      refine still_y (wg 3 true 25 rfl rfl rfl rfl) rfl (y_neS (by kernel_rfl) (by kernel_rfl) Tryz.runUnderlying57 rfl rfl (.cons (eqf_int (by decide) Tryz.runUnderlying3 Tryz.isAgg3 rfl rfl) (.cons (eqf_int (by decide) Tryz.runUnderlying3 Tryz.isAgg3 rfl rfl) (.cons (eqf_int (by decide) Tryz.runUnderlying3 Tryz.isAgg3 rfl rfl) (.cons (eqf_arr (n := 9997) (kd := .u8) (l1 := S_api_Digest.toL r14.S.Body) (l2 := S_api_Digest.toL x13.Body) (by decide) Tryz.runUnderlying55 Tryz.isAgg55 Tryz.sizeOf55 Tryz.sizeOf5 Tryz.runUnderlying5 Tryz.isAgg5 rfl rfl (by kernel_rfl) (by kernel_rfl)) (.cons (eqf_int (by decide) Tryz.runUnderlying3 Tryz.isAgg3 rfl rfl) EqFs.nil)))))) ?_
      refine sy rfl rfl (y_pick (b := true) rfl rfl) ?_
      refine still_nil ?_
      exact goes_cut hL21 (!(decide (r14.S.Num = x13.Num) && (decide (r14.S.Begin = x13.Begin) && (decide (r14.S.Len = x13.Len) && (decide (S_api_Digest.toL r14.S.Body = S_api_Digest.toL x13.Body) && (decide (r14.S.Size = x13.Size))))))) [0, 1, 2, 3, 4] (qv4 rfl rfl rfl rfl) (by decide) rfl (by rw [hg22]; simp)
     ·skip
      refine still_no 3 true 25 rfl rfl rfl rfl rfl ?_
      refine still_no 3 true 25 rfl rfl rfl rfl rfl ?_
      refine still_no 3 true 25 rfl rfl rfl rfl rfl ?_
      refine still_no 3 true 25 rfl rfl rfl rfl rfl ?_
      refine still_no 3 true 25 rfl rfl rfl rfl rfl ?_
      refine still_no 3 true 25 rfl rfl rfl rfl rfl ?_
      refine still_no 3 true 25 rfl rfl rfl rfl rfl ?_
      refine still_no 3 true 25 rfl rfl rfl rfl rfl ?_
      refine sy rfl rfl (y_pick (b := false) rfl rfl) ?_
      refine still_nil ?_
      exact goes_cut hL21 false [0, 1, 2, 3, 4] (qv4 rfl rfl rfl rfl) (by decide) rfl (by rw [hg22]; simp)
    rintro _ rfl
    refine still_nil ?_
    refine goes_code ?_
    refine run_cond (decide (r14.E = 0) && (!(decide (r14.S.Num = x13.Num) && (decide (r14.S.Begin = x13.Begin) && (decide (r14.S.Len = x13.Len) && (decide (S_api_Digest.toL r14.S.Body = S_api_Digest.toL x13.Body) && (decide (r14.S.Size = x13.Size)))))))) rfl (fun hc23 => ?_) (fun hc23 => ?_)
    ·replace h := cond_t h hc23
     refine run_seq ?_
     refine run_region' ?_
     refine oy rfl rfl (y_assign rfl) ?_
     refine ops_nil ?_
     refine goes_code ?_
     refine run_ret ?_
     obtain rfl := some_eq h
     obtain rfl := hstop10 _ rfl
     skip
     obtain rfl := after_stop ho4
     refine fin_slots [4] [.bool true] [] [] Tryz.results43 rfl (by decide) rfl ?_
     exact ⟨rfl, rfl⟩
    ·replace h := cond_f h hc23
     refine run_skip ?_
     refine goes_blk ?_
     refine goes_code ?_
     refine run_region' ?_
     refine oy rfl rfl (y_move rfl) ?_
     refine oy rfl rfl (y_add rfl rfl) ?_
     refine oy rfl rfl (y_assign rfl) ?_
     refine ops_nil ?_
     obtain rfl := some_eq h
     exact goes_iter hgo9 (IntKind.i64.wrap (i_7 + 1)) () [0, 1, 2, 3] rfl (qv3 rfl rfl rfl) (by decide) rfl
   refine any_cut2 #[true, true, true, true, true, true, true, true, true, false] 1 (Nat) (fun σ => [(5, .int .i64 i_7), (2, boxP b1 0), (3, boxP b2 0), (21, .agg #[.int .i64 r14.S.Num, .int .i64 r14.S.Begin, .int .i64 r14.S.Len, .int .u8 r14.S.Body.a0_, .int .u8 r14.S.Body.a1_, .int .u8 r14.S.Body.a2_, .int .u8 r14.S.Body.a3_, .int .u8 r14.S.Body.a4_, .int .u8 r14.S.Body.a5_, .int .u8 r14.S.Body.a6_, .int .u8 r14.S.Body.a7_, .int .u8 r14.S.Body.a8_, .int .u8 r14.S.Body.a9_, .int .u8 r14.S.Body.a10_, .int .u8 r14.S.Body.a11_, .int .u8 r14.S.Body.a12_, .int .u8 r14.S.Body.a13_, .int .u8 r14.S.Body.a14_, .int .u8 r14.S.Body.a15_, .int .i64 r14.S.Size, .int .i64 r14.E]), (6, boxP σ 0)]) (fun σ => [box b1 [.int .i64 early_0.First, early_0_Lv, .bool early_0.Done], ro early_0_Lv 20 (early_0.L.map S_api_Segment.enc), box b2 [.int .i64 late_1.First, late_1_Lv, .bool late_1.Done], ro late_1_Lv 20 (late_1.L.map S_api_Segment.enc), box σ [.int .i64 0, .int .i64 0, .int .i64 0, .int .u8 0, .int .u8 0, .int .u8 0, .int .u8 0, .int .u8 0, .int .u8 0, .int .u8 0, .int .u8 0, .int .u8 0, .int .u8 0, .int .u8 0, .int .u8 0, .int .u8 0, .int .u8 0, .int .u8 0, .int .u8 0, .int .i64 0, .int .i64 0]]) ?_ (fun hK24 => ?_)
   ·rintro b18
    change AnyL _ _ _ _ _ (VF.of [(5, .int .i64 i_7), (2, boxP b1 0), (3, boxP b2 0), (21, .agg #[.int .i64 r14.S.Num, .int .i64 r14.S.Begin, .int .i64 r14.S.Len, .int .u8 r14.S.Body.a0_, .int .u8 r14.S.Body.a1_, .int .u8 r14.S.Body.a2_, .int .u8 r14.S.Body.a3_, .int .u8 r14.S.Body.a4_, .int .u8 r14.S.Body.a5_, .int .u8 r14.S.Body.a6_, .int .u8 r14.S.Body.a7_, .int .u8 r14.S.Body.a8_, .int .u8 r14.S.Body.a9_, .int .u8 r14.S.Body.a10_, .int .u8 r14.S.Body.a11_, .int .u8 r14.S.Body.a12_, .int .u8 r14.S.Body.a13_, .int .u8 r14.S.Body.a14_, .int .u8 r14.S.Body.a15_, .int .i64 r14.S.Size, .int .i64 r14.E]), (6, boxP b18 0)]) [box b1 [.int .i64 early_0.First, early_0_Lv, .bool early_0.Done], ro early_0_Lv 20 (early_0.L.map S_api_Segment.enc), box b2 [.int .i64 late_1.First, late_1_Lv, .bool late_1.Done], ro late_1_Lv 20 (late_1.L.map S_api_Segment.enc), box b18 [.int .i64 0, .int .i64 0, .int .i64 0, .int .u8 0, .int .u8 0, .int .u8 0, .int .u8 0, .int .u8 0, .int .u8 0, .int .u8 0, .int .u8 0, .int .u8 0, .int .u8 0, .int .u8 0, .int .u8 0, .int .u8 0, .int .u8 0, .int .u8 0, .int .u8 0, .int .i64 0, .int .i64 0]] _
    refine any_all [9] (by kernel_rfl) rfl ?_
    refine anyo_cons ?_ ?_
    ·
     refine any_t rfl (wn rfl) rfl (t_store 4 Tryz.sizeOf61 rfl rfl rfl rfl (by simp [Value.cells, boxP]) (by simp [Value.cells, Value.oneCell', boxP])) ?_
     rintro _ _ ⟨rfl, rfl⟩
     refine ⟨(ss (ss (ss (ss (sn))))), ?_⟩
     refine any_turn (retell 4 (g := box b18 [.int .i64 r14.S.Num, .int .i64 r14.S.Begin, .int .i64 r14.S.Len, .int .u8 r14.S.Body.a0_, .int .u8 r14.S.Body.a1_, .int .u8 r14.S.Body.a2_, .int .u8 r14.S.Body.a3_, .int .u8 r14.S.Body.a4_, .int .u8 r14.S.Body.a5_, .int .u8 r14.S.Body.a6_, .int .u8 r14.S.Body.a7_, .int .u8 r14.S.Body.a8_, .int .u8 r14.S.Body.a9_, .int .u8 r14.S.Body.a10_, .int .u8 r14.S.Body.a11_, .int .u8 r14.S.Body.a12_, .int .u8 r14.S.Body.a13_, .int .u8 r14.S.Body.a14_, .int .u8 r14.S.Body.a15_, .int .i64 r14.S.Size, .int .i64 r14.E]) rfl (by kernel_rfl)) ?_
     exact any_weak2 (hK19 b18) [0, 1, 2, 3, 4] (by kernel_rfl) (qv4 rfl rfl rfl rfl) (by decide) rfl
    exact anyo_nil
   refine any_cut2 #[true, true, true, true, true, true, true, true, false, false] 2 (Unit) (fun σ => [(5, .int .i64 i_7), (2, boxP b1 0), (3, boxP b2 0), (21, .agg #[.int .i64 r14.S.Num, .int .i64 r14.S.Begin, .int .i64 r14.S.Len, .int .u8 r14.S.Body.a0_, .int .u8 r14.S.Body.a1_, .int .u8 r14.S.Body.a2_, .int .u8 r14.S.Body.a3_, .int .u8 r14.S.Body.a4_, .int .u8 r14.S.Body.a5_, .int .u8 r14.S.Body.a6_, .int .u8 r14.S.Body.a7_, .int .u8 r14.S.Body.a8_, .int .u8 r14.S.Body.a9_, .int .u8 r14.S.Body.a10_, .int .u8 r14.S.Body.a11_, .int .u8 r14.S.Body.a12_, .int .u8 r14.S.Body.a13_, .int .u8 r14.S.Body.a14_, .int .u8 r14.S.Body.a15_, .int .i64 r14.S.Size, .int .i64 r14.E])]) (fun σ => [box b1 [.int .i64 early_0.First, early_0_Lv, .bool early_0.Done], ro early_0_Lv 20 (early_0.L.map S_api_Segment.enc), box b2 [.int .i64 late_1.First, late_1_Lv, .bool late_1.Done], ro late_1_Lv 20 (late_1.L.map S_api_Segment.enc)]) ?_ (fun hK25 => ?_)
   ·rintro _
    change AnyL _ _ _ _ _ (VF.of [(5, .int .i64 i_7), (2, boxP b1 0), (3, boxP b2 0), (21, .agg #[.int .i64 r14.S.Num, .int .i64 r14.S.Begin, .int .i64 r14.S.Len, .int .u8 r14.S.Body.a0_, .int .u8 r14.S.Body.a1_, .int .u8 r14.S.Body.a2_, .int .u8 r14.S.Body.a3_, .int .u8 r14.S.Body.a4_, .int .u8 r14.S.Body.a5_, .int .u8 r14.S.Body.a6_, .int .u8 r14.S.Body.a7_, .int .u8 r14.S.Body.a8_, .int .u8 r14.S.Body.a9_, .int .u8 r14.S.Body.a10_, .int .u8 r14.S.Body.a11_, .int .u8 r14.S.Body.a12_, .int .u8 r14.S.Body.a13_, .int .u8 r14.S.Body.a14_, .int .u8 r14.S.Body.a15_, .int .i64 r14.S.Size, .int .i64 r14.E])]) [box b1 [.int .i64 early_0.First, early_0_Lv, .bool early_0.Done], ro early_0_Lv 20 (early_0.L.map S_api_Segment.enc), box b2 [.int .i64 late_1.First, late_1_Lv, .bool late_1.Done], ro late_1_Lv 20 (late_1.L.map S_api_Segment.enc)] _
    refine any_all [8] (by kernel_rfl) rfl ?_
    refine anyo_cons ?_ ?_
    ·
     refine any_t rfl (wn rfl) rfl (t_alloc Tryz.zeroValue61) ?_
     rintro _ _ ⟨b26, rfl, rfl⟩
     refine ⟨(ss (ss (ss (ss (sn))))), ?_⟩
     exact any_weak2 (hK24 b26) [0, 1, 2, 3, 4] (by kernel_rfl) (qv5 rfl rfl rfl rfl rfl) (by decide) rfl
    exact anyo_nil
   refine any_cut2 #[true, true, true, true, true, true, true, false, true, false] 2 (Nat) (fun σ => [(5, .int .i64 i_7), (2, boxP b1 0), (3, boxP b2 0), (14, .agg #[.int .i64 late_1.First, late_1_Lv, .bool late_1.Done]), (20, .int .i64 x13.Num), (6, boxP σ 0)]) (fun σ => [box b1 [.int .i64 early_0.First, early_0_Lv, .bool early_0.Done], ro early_0_Lv 20 (early_0.L.map S_api_Segment.enc), box b2 [.int .i64 late_1.First, late_1_Lv, .bool late_1.Done], ro late_1_Lv 20 (late_1.L.map S_api_Segment.enc), box σ [.int .i64 0, .int .i64 0, .int .i64 0, .int .u8 0, .int .u8 0, .int .u8 0, .int .u8 0, .int .u8 0, .int .u8 0, .int .u8 0, .int .u8 0, .int .u8 0, .int .u8 0, .int .u8 0, .int .u8 0, .int .u8 0, .int .u8 0, .int .u8 0, .int .u8 0, .int .i64 0, .int .i64 0]]) ?_ (fun hK27 => ?_)
   ·rintro b17
    change AnyL _ _ _ _ _ (VF.of [(5, .int .i64 i_7), (2, boxP b1 0), (3, boxP b2 0), (14, .agg #[.int .i64 late_1.First, late_1_Lv, .bool late_1.Done]), (20, .int .i64 x13.Num), (6, boxP b17 0)]) [box b1 [.int .i64 early_0.First, early_0_Lv, .bool early_0.Done], ro early_0_Lv 20 (early_0.L.map S_api_Segment.enc), box b2 [.int .i64 late_1.First, late_1_Lv, .bool late_1.Done], ro late_1_Lv 20 (late_1.L.map S_api_Segment.enc), box b17 [.int .i64 0, .int .i64 0, .int .i64 0, .int .u8 0, .int .u8 0, .int .u8 0, .int .u8 0, .int .u8 0, .int .u8 0, .int .u8 0, .int .u8 0, .int .u8 0, .int .u8 0, .int .u8 0, .int .u8 0, .int .u8 0, .int .u8 0, .int .u8 0, .int .u8 0, .int .i64 0, .int .i64 0]] _
    refine any_all [7] (by kernel_rfl) rfl ?_
    refine anyo_cons ?_ ?_
    ·
     refine any_t rfl (wn rfl) rfl (t_callx (vs := [.agg #[.int .i64 late_1.First, late_1_Lv, .bool late_1.Done], .int .i64 x13.Num]) (cs := []) [(3, 0)] rfl Tryz.call25 rfl (ref43_Find_ok n late_1 x13.Num late_1_Lv hr15) (showsX_view 3 rfl views_ro showsX_nil) rfl (.inl rfl)) ?_
     rintro _ _ ⟨_, ⟨rfl, rfl⟩, rfl⟩
     refine ⟨(ss (ss (ss (ss (sn))))), ?_⟩
     exact any_weak2 (hK24 b17) [0, 1, 2, 3, 4] (by kernel_rfl) (qv5 rfl rfl rfl rfl rfl) (by decide) rfl
    exact anyo_nil
   refine any_all [7, 8] (by kernel_rfl) rfl ?_
   refine anyo_cons ?_ ?_
   ·
    refine any_t rfl (wn rfl) rfl (t_callx (vs := [.agg #[.int .i64 late_1.First, late_1_Lv, .bool late_1.Done], .int .i64 x13.Num]) (cs := []) [(3, 0)] rfl Tryz.call25 rfl (ref43_Find_ok n late_1 x13.Num late_1_Lv hr15) (showsX_view 3 rfl views_ro showsX_nil) rfl (.inl rfl)) ?_
    rintro _ _ ⟨_, ⟨rfl, rfl⟩, rfl⟩
    refine ⟨(ss (ss (ss (ss (sn))))), ?_⟩
    exact any_weak2 (hK25 ()) [0, 1, 2, 3] (by kernel_rfl) (qv4 rfl rfl rfl rfl) (by decide) rfl
   refine anyo_cons ?_ ?_
   ·
    refine any_t rfl (wn rfl) rfl (t_alloc Tryz.zeroValue61) ?_
    rintro _ _ ⟨b28, rfl, rfl⟩
    refine ⟨(ss (ss (ss (ss (sn))))), ?_⟩
    exact any_weak2 (hK27 b28) [0, 1, 2, 3, 4] (by kernel_rfl) (qv6 rfl rfl rfl rfl rfl rfl) (by decide) rfl
   exact anyo_nil
  ·replace h := cond_f h hc12
   refine run_exit _ rfl ?_
   obtain rfl := some_eq h
   obtain rfl := hstop10 _ rfl
   exact goes_cut hL5 ((), ()) [0, 1, 2, 3] (qv2 rfl rfl) (by decide) rfl rfl
 rintro ⟨_, _⟩ hj
 obtain rfl : o3 = _ := hj
 replace h := after_go ho4
 clear ho4
 change Run _ _ _ (VF.of [(2, boxP b1 0), (3, boxP b2 0)]) [box b1 [.int .i64 early_0.First, early_0_Lv, .bool early_0.Done], ro early_0_Lv 20 (early_0.L.map S_api_Segment.enc), box b2 [.int .i64 late_1.First, late_1_Lv, .bool late_1.Done], ro late_1_Lv 20 (late_1.L.map S_api_Segment.enc)]
 refine run_seq ?_
 refine run_seq ?_
 refine run_drawany [box b1 [.int .i64 early_0.First, early_0_Lv, .bool early_0.Done], ro early_0_Lv 20 (early_0.L.map S_api_Segment.enc), box b2 [.int .i64 late_1.First, late_1_Lv, .bool late_1.Done], ro late_1_Lv 20 (late_1.L.map S_api_Segment.enc)] (by kernel_rfl) ?_
 refine any_y 0 rfl (by kernel_rfl) (by kernel_rfl) (by kernel_rfl) (ss (ss (ss (ss (sn))))) (wn rfl) rfl (y_fieldAddr_box (sz := 0) Tryz.runUnderlying24 rfl Tryz.sizeOf4 rfl) ?_
 refine any_y 1 rfl (by kernel_rfl) (by kernel_rfl) (by kernel_rfl) (ss (ss (ss (ss (sn))))) (wn rfl) rfl (y_load_box 0 Tryz.isAgg4 rfl rfl rfl) ?_
 refine any_y 2 rfl (by kernel_rfl) (by kernel_rfl) (by kernel_rfl) (ss (ss (ss (ss (sn))))) (wn rfl) rfl (y_move rfl) ?_
 obtain ⟨o30, h, ho31⟩ := bindJ_some h
 refine any_cut #[true, true, true, true, true, true, true, true, true] 0 Bool (fun σ => [(2, boxP b1 0), (3, boxP b2 0), (43, .bool σ)]) (fun σ => [box b1 [.int .i64 early_0.First, early_0_Lv, .bool early_0.Done], ro early_0_Lv 20 (early_0.L.map S_api_Segment.enc), box b2 [.int .i64 late_1.First, late_1_Lv, .bool late_1.Done], ro late_1_Lv 20 (late_1.L.map S_api_Segment.enc)]) (fun σ => o30 = .go σ) (fun hL33 => ?_) ?_
 ·refine any_split 37 early_0.Done rfl (fun hg34 => ?_) (fun hg34 => ?_)
  ·replace h := cond_t h hg34
   refine any_y 3 rfl (by kernel_rfl) (by kernel_rfl) (by kernel_rfl) (ss (ss (ss (ss (sn))))) (wg 2 true 37 rfl rfl rfl rfl) rfl (y_load_boxagg (c := [.int .i64 early_0.First, early_0_Lv, .bool early_0.Done]) 0 Tryz.isAgg24 Tryz.sizeOf24 rfl rfl rfl) ?_
   refine any_y 5 rfl (by kernel_rfl) (by kernel_rfl) (by kernel_rfl) (ss (ss (ss (ss (sn))))) (wg 2 true 37 rfl rfl rfl rfl) rfl (y_load_boxagg (c := [.int .i64 late_1.First, late_1_Lv, .bool late_1.Done]) 2 Tryz.isAgg24 Tryz.sizeOf24 rfl rfl rfl) ?_
   refine any_all [4] (by kernel_rfl) rfl (anyo_cons ?_ anyo_nil)
   obtain ⟨r35, hr36, h⟩ := obind_some h
   refine any_t rfl (wg 2 true 37 rfl rfl rfl rfl) rfl (t_callx (vs := [.agg #[.int .i64 early_0.First, early_0_Lv, .bool early_0.Done]]) (cs := []) [(1, 0)] rfl Tryz.call28 rfl (ref43_Next_ok early_0 early_0_Lv hr36) (showsX_view 1 rfl views_ro showsX_nil) rfl (.inl rfl)) ?_
   rintro _ _ ⟨_, ⟨rfl, rfl⟩, rfl⟩
   refine ⟨(ss (ss (ss (ss (sn))))), ?_⟩
   refine any_all [6] (by kernel_rfl) rfl (anyo_cons ?_ anyo_nil)
   obtain ⟨r37, hr38, h⟩ := obind_some h
   refine any_t rfl (wg 2 true 37 rfl rfl rfl rfl) rfl (t_callx (vs := [.agg #[.int .i64 late_1.First, late_1_Lv, .bool late_1.Done]]) (cs := []) [(3, 0)] rfl Tryz.call28 rfl (ref43_Next_ok late_1 late_1_Lv hr38) (showsX_view 3 rfl views_ro showsX_nil) rfl (.inl rfl)) ?_
   rintro _ _ ⟨_, ⟨rfl, rfl⟩, rfl⟩
   refine ⟨(ss (ss (ss (ss (sn))))), ?_⟩
   refine any_y 7 rfl (by kernel_rfl) (by kernel_rfl) (by kernel_rfl) (ss (ss (ss (ss (sn))))) (wg 2 true 37 rfl rfl rfl rfl) rfl (y_lss rfl rfl) ?_
   refine any_y 8 rfl (by kernel_rfl) (by kernel_rfl) (by kernel_rfl) (ss (ss (ss (ss (sn))))) (wn rfl) rfl (y_pick (b := true) rfl rfl) ?_
   obtain rfl := some_eq h
   exact any_weak [(2, boxP b1 0), (3, boxP b2 0), (43, .bool (decide (r35 < r37)))] [0, 1, 2, 3] [box b1 [.int .i64 early_0.First, early_0_Lv, .bool early_0.Done], ro early_0_Lv 20 (early_0.L.map S_api_Segment.enc), box b2 [.int .i64 late_1.First, late_1_Lv, .bool late_1.Done], ro late_1_Lv 20 (late_1.L.map S_api_Segment.enc)] (by kernel_rfl) (qv3 rfl rfl rfl) (by decide) rfl (hL33 (decide (r35 < r37)) rfl)
  ·replace h := cond_f h hg34
   refine any_no 3 rfl (by kernel_rfl) (by kernel_rfl) (by kernel_rfl) (ss (ss (ss (ss (sn))))) 2 true 37 rfl rfl rfl rfl rfl ?_
   refine any_no 5 rfl (by kernel_rfl) (by kernel_rfl) (by kernel_rfl) (ss (ss (ss (ss (sn))))) 2 true 37 rfl rfl rfl rfl rfl ?_
   refine any_no 4 rfl (by kernel_rfl) (by kernel_rfl) (by kernel_rfl) (ss (ss (ss (ss (sn))))) 2 true 37 rfl rfl rfl rfl rfl ?_
   refine any_no 6 rfl (by kernel_rfl) (by kernel_rfl) (by kernel_rfl) (ss (ss (ss (ss (sn))))) 2 true 37 rfl rfl rfl rfl rfl ?_
   refine any_no 7 rfl (by kernel_rfl) (by kernel_rfl) (by kernel_rfl) (ss (ss (ss (ss (sn))))) 2 true 37 rfl rfl rfl rfl rfl ?_
   refine any_y 8 rfl (by kernel_rfl) (by kernel_rfl) (by kernel_rfl) (ss (ss (ss (ss (sn))))) (wn rfl) rfl (y_pick (b := false) rfl rfl) ?_
   obtain rfl := some_eq h
   exact any_weak [(2, boxP b1 0), (3, boxP b2 0), (43, .bool false)] [0, 1, 2, 3] [box b1 [.int .i64 early_0.First, early_0_Lv, .bool early_0.Done], ro early_0_Lv 20 (early_0.L.map S_api_Segment.enc), box b2 [.int .i64 late_1.First, late_1_Lv, .bool late_1.Done], ro late_1_Lv 20 (late_1.L.map S_api_Segment.enc)] (by kernel_rfl) (qv3 rfl rfl rfl) (by decide) rfl (hL33 false rfl)
 rintro b29 hj
 obtain rfl : o30 = _ := hj
 replace h := after_go ho31
 clear ho31
 refine any_nil (by kernel_rfl) ?_
 refine goes_code ?_
 refine run_cond b29 rfl (fun hc39 => ?_) (fun hc39 => ?_)
 ·replace h := cond_t h hc39
  refine run_seq ?_
  refine run_region' ?_
  refine oy rfl rfl (y_assign rfl) ?_
  refine ops_nil ?_
  refine goes_code ?_
  refine run_ret ?_
  obtain rfl := some_eq h
  refine fin_slots [4] [.bool true] [] [] Tryz.results43 rfl (by decide) rfl ?_
  exact ⟨rfl, rfl⟩
 ·replace h := cond_f h hc39
  refine run_skip ?_
  refine goes_code ?_
  refine run_seq ?_
  refine run_drawany [box b1 [.int .i64 early_0.First, early_0_Lv, .bool early_0.Done], ro early_0_Lv 20 (early_0.L.map S_api_Segment.enc), box b2 [.int .i64 late_1.First, late_1_Lv, .bool late_1.Done], ro late_1_Lv 20 (late_1.L.map S_api_Segment.enc)] (by kernel_rfl) ?_
  refine any_y 0 rfl (by kernel_rfl) (by kernel_rfl) (by kernel_rfl) (ss (ss (ss (ss (sn))))) (wn rfl) rfl (y_fieldAddr_box (sz := 0) Tryz.runUnderlying24 rfl Tryz.sizeOf22 rfl) ?_
  refine any_y 1 rfl (by kernel_rfl) (by kernel_rfl) (by kernel_rfl) (ss (ss (ss (ss (sn))))) (wn rfl) rfl (y_load_box 0 Tryz.isAgg22 rfl rfl rfl) ?_
  refine any_y 2 rfl (by kernel_rfl) (by kernel_rfl) (by kernel_rfl) (ss (ss (ss (ss (sn))))) (wn rfl) rfl ((y_len 1 rfl Tryz.runUnderlying22 rfl rfl reads_ro).to (v_len S_api_Segment.enc _)) ?_
  refine any_y 3 rfl (by kernel_rfl) (by kernel_rfl) (by kernel_rfl) (ss (ss (ss (ss (sn))))) (wn rfl) rfl (y_gtr rfl rfl) ?_
  refine any_y 4 rfl (by kernel_rfl) (by kernel_rfl) (by kernel_rfl) (ss (ss (ss (ss (sn))))) (wn rfl) rfl (y_move rfl) ?_
  refine any_cut #[true, true, true, true, true, true, true, true, true, true, false, false, false, false, false, false, false, false, false, false, false, false, false, false, false, false, false, false] 18 Bool (fun σ => [(2, boxP b1 0), (3, boxP b2 0), (53, .bool σ)]) (fun σ => [box b1 [.int .i64 early_0.First, early_0_Lv, .bool early_0.Done], ro early_0_Lv 20 (early_0.L.map S_api_Segment.enc), box b2 [.int .i64 late_1.First, late_1_Lv, .bool late_1.Done], ro late_1_Lv 20 (late_1.L.map S_api_Segment.enc)]) (fun σ => σ = (decide (0 < (early_0.L.length : Int)) && decide (0 < (late_1.L.length : Int)))) (fun hL41 => ?_) ?_
  ·refine any_split 48 (decide (0 < (early_0.L.length : Int))) rfl (fun hg42 => ?_) (fun hg42 => ?_)
   ·skip
    refine any_y 5 rfl (by kernel_rfl) (by kernel_rfl) (by kernel_rfl) (ss (ss (ss (ss (sn))))) (wg 4 true 48 rfl rfl rfl rfl) rfl (y_fieldAddr_box (sz := 0) Tryz.runUnderlying24 rfl Tryz.sizeOf22 rfl) ?_
    refine any_y 6 rfl (by kernel_rfl) (by kernel_rfl) (by kernel_rfl) (ss (ss (ss (ss (sn))))) (wg 4 true 48 rfl rfl rfl rfl) rfl (y_load_box 2 Tryz.isAgg22 rfl rfl rfl) ?_
    refine any_y 7 rfl (by kernel_rfl) (by kernel_rfl) (by kernel_rfl) (ss (ss (ss (ss (sn))))) (wg 4 true 48 rfl rfl rfl rfl) rfl ((y_len 3 rfl Tryz.runUnderlying22 rfl rfl reads_ro).to (v_len S_api_Segment.enc _)) ?_
    refine any_y 8 rfl (by kernel_rfl) (by kernel_rfl) (by kernel_rfl) (ss (ss (ss (ss (sn))))) (wg 4 true 48 rfl rfl rfl rfl) rfl (y_gtr rfl rfl) ?_
    refine any_y 9 rfl (by kernel_rfl) (by kernel_rfl) (by kernel_rfl) (ss (ss (ss (ss (sn))))) (wn rfl) rfl (y_pick (b := true) rfl rfl) ?_
    exact any_weak [(2, boxP b1 0), (3, boxP b2 0), (53, .bool (decide (0 < (late_1.L.length : Int))))] [0, 1, 2, 3] [box b1 [.int .i64 early_0.First, early_0_Lv, .bool early_0.Done], ro early_0_Lv 20 (early_0.L.map S_api_Segment.enc), box b2 [.int .i64 late_1.First, late_1_Lv, .bool late_1.Done], ro late_1_Lv 20 (late_1.L.map S_api_Segment.enc)] (by kernel_rfl) (qv3 rfl rfl rfl) (by decide) rfl (hL41 (decide (0 < (late_1.L.length : Int))) (by rw [hg42]; simp))
   ·skip
    refine any_no 5 rfl (by kernel_rfl) (by kernel_rfl) (by kernel_rfl) (ss (ss (ss (ss (sn))))) 4 true 48 rfl rfl rfl rfl rfl ?_
    refine any_no 6 rfl (by kernel_rfl) (by kernel_rfl) (by kernel_rfl) (ss (ss (ss (ss (sn))))) 4 true 48 rfl rfl rfl rfl rfl ?_
    refine any_no 7 rfl (by kernel_rfl) (by kernel_rfl) (by kernel_rfl) (ss (ss (ss (ss (sn))))) 4 true 48 rfl rfl rfl rfl rfl ?_
    refine any_no 8 rfl (by kernel_rfl) (by kernel_rfl) (by kernel_rfl) (ss (ss (ss (ss (sn))))) 4 true 48 rfl rfl rfl rfl rfl ?_
    refine any_y 9 rfl (by kernel_rfl) (by kernel_rfl) (by kernel_rfl) (ss (ss (ss (ss (sn))))) (wn rfl) rfl (y_pick (b := false) rfl rfl) ?_
    exact any_weak [(2, boxP b1 0), (3, boxP b2 0), (53, .bool false)] [0, 1, 2, 3] [box b1 [.int .i64 early_0.First, early_0_Lv, .bool early_0.Done], ro early_0_Lv 20 (early_0.L.map S_api_Segment.enc), box b2 [.int .i64 late_1.First, late_1_Lv, .bool late_1.Done], ro late_1_Lv 20 (late_1.L.map S_api_Segment.enc)] (by kernel_rfl) (qv3 rfl rfl rfl) (by decide) rfl (hL41 false (by rw [hg42]; simp))
  rintro _ rfl
  refine any_y 10 rfl (by kernel_rfl) (by kernel_rfl) (by kernel_rfl) (ss (ss (ss (ss (sn))))) (wn rfl) rfl (y_move rfl) ?_
  obtain ⟨o44, h, ho45⟩ := bindJ_some h
  refine any_cut #[true, true, true, true, true, true, true, true, true, true, true, true, true, true, true, true, true, false, false, false, false, false, false, false, false, false, false, false] 11 Bool (fun σ => [(2, boxP b1 0), (3, boxP b2 0), (60, .bool σ)]) (fun σ => [box b1 [.int .i64 early_0.First, early_0_Lv, .bool early_0.Done], ro early_0_Lv 20 (early_0.L.map S_api_Segment.enc), box b2 [.int .i64 late_1.First, late_1_Lv, .bool late_1.Done], ro late_1_Lv 20 (late_1.L.map S_api_Segment.enc)]) (fun σ => o44 = .go σ) (fun hL47 => ?_) ?_
  ·refine any_split 54 (decide (0 < (early_0.L.length : Int)) && decide (0 < (late_1.L.length : Int))) rfl (fun hg48 => ?_) (fun hg48 => ?_)
   ·replace h := cond_t h hg48
    refine any_y 11 rfl (by kernel_rfl) (by kernel_rfl) (by kernel_rfl) (ss (ss (ss (ss (sn))))) (wg 10 true 54 rfl rfl rfl rfl) rfl (y_load_boxagg (c := [.int .i64 early_0.First, early_0_Lv, .bool early_0.Done]) 0 Tryz.isAgg24 Tryz.sizeOf24 rfl rfl rfl) ?_
    refine any_y 13 rfl (by kernel_rfl) (by kernel_rfl) (by kernel_rfl) (ss (ss (ss (ss (sn))))) (wg 10 true 54 rfl rfl rfl rfl) rfl (y_fieldAddr_box (sz := 0) Tryz.runUnderlying24 rfl Tryz.sizeOf3 rfl) ?_
    refine any_y 14 rfl (by kernel_rfl) (by kernel_rfl) (by kernel_rfl) (ss (ss (ss (ss (sn))))) (wg 10 true 54 rfl rfl rfl rfl) rfl (y_load_box 2 Tryz.isAgg3 rfl rfl rfl) ?_
    refine any_all [12] (by kernel_rfl) rfl (anyo_cons ?_ anyo_nil)
    obtain ⟨r49, hr50, h⟩ := obind_some h
    refine any_t rfl (wg 10 true 54 rfl rfl rfl rfl) rfl (t_callx (vs := [.agg #[.int .i64 early_0.First, early_0_Lv, .bool early_0.Done]]) (cs := []) [(1, 0)] rfl Tryz.call28 rfl (ref43_Next_ok early_0 early_0_Lv hr50) (showsX_view 1 rfl views_ro showsX_nil) rfl (.inl rfl)) ?_
    rintro _ _ ⟨_, ⟨rfl, rfl⟩, rfl⟩
    refine ⟨(ss (ss (ss (ss (sn))))), ?_⟩
    refine any_y 15 rfl (by kernel_rfl) (by kernel_rfl) (by kernel_rfl) (ss (ss (ss (ss (sn))))) (wg 10 true 54 rfl rfl rfl rfl) rfl (y_eql rfl rfl) ?_
    refine any_y 16 rfl (by kernel_rfl) (by kernel_rfl) (by kernel_rfl) (ss (ss (ss (ss (sn))))) (wn rfl) rfl (y_pick (b := true) rfl rfl) ?_
    obtain rfl := some_eq h
    exact any_weak [(2, boxP b1 0), (3, boxP b2 0), (60, .bool (decide (r49 = late_1.First)))] [0, 1, 2, 3] [box b1 [.int .i64 early_0.First, early_0_Lv, .bool early_0.Done], ro early_0_Lv 20 (early_0.L.map S_api_Segment.enc), box b2 [.int .i64 late_1.First, late_1_Lv, .bool late_1.Done], ro late_1_Lv 20 (late_1.L.map S_api_Segment.enc)] (by kernel_rfl) (qv3 rfl rfl rfl) (by decide) rfl (hL47 (decide (r49 = late_1.First)) rfl)
   ·replace h := cond_f h hg48
    refine any_no 11 rfl (by kernel_rfl) (by kernel_rfl) (by kernel_rfl) (ss (ss (ss (ss (sn))))) 10 true 54 rfl rfl rfl rfl rfl ?_
    refine any_no 13 rfl (by kernel_rfl) (by kernel_rfl) (by kernel_rfl) (ss (ss (ss (ss (sn))))) 10 true 54 rfl rfl rfl rfl rfl ?_
    refine any_no 14 rfl (by kernel_rfl) (by kernel_rfl) (by kernel_rfl) (ss (ss (ss (ss (sn))))) 10 true 54 rfl rfl rfl rfl rfl ?_
    refine any_no 12 rfl (by kernel_rfl) (by kernel_rfl) (by kernel_rfl) (ss (ss (ss (ss (sn))))) 10 true 54 rfl rfl rfl rfl rfl ?_
    refine any_no 15 rfl (by kernel_rfl) (by kernel_rfl) (by kernel_rfl) (ss (ss (ss (ss (sn))))) 10 true 54 rfl rfl rfl rfl rfl ?_
    refine any_y 16 rfl (by kernel_rfl) (by kernel_rfl) (by kernel_rfl) (ss (ss (ss (ss (sn))))) (wn rfl) rfl (y_pick (b := false) rfl rfl) ?_
    obtain rfl := some_eq h
    exact any_weak [(2, boxP b1 0), (3, boxP b2 0), (60, .bool false)] [0, 1, 2, 3] [box b1 [.int .i64 early_0.First, early_0_Lv, .bool early_0.Done], ro early_0_Lv 20 (early_0.L.map S_api_Segment.enc), box b2 [.int .i64 late_1.First, late_1_Lv, .bool late_1.Done], ro late_1_Lv 20 (late_1.L.map S_api_Segment.enc)] (by kernel_rfl) (qv3 rfl rfl rfl) (by decide) rfl (hL47 false rfl)
  rintro b43 hj
  obtain rfl : o44 = _ := hj
  replace h := after_go ho45
  clear ho45
  refine any_y 17 rfl (by kernel_rfl) (by kernel_rfl) (by kernel_rfl) (ss (ss (ss (ss (sn))))) (wn rfl) rfl (y_move rfl) ?_
  obtain ⟨o52, h, ho53⟩ := bindJ_some h
  refine any_cut #[true, true, true, true, true, true, true, true, true, true, true, true, true, true, true, true, true, true, true, true, true, true, true, true, true, true, true, false] 1 Bool (fun σ => [(70, .bool σ)]) (fun σ => [box b1 [.int .i64 early_0.First, early_0_Lv, .bool early_0.Done], ro early_0_Lv 20 (early_0.L.map S_api_Segment.enc), box b2 [.int .i64 late_1.First, late_1_Lv, .bool late_1.Done], ro late_1_Lv 20 (late_1.L.map S_api_Segment.enc)]) (fun σ => o52 = .go σ) (fun hL55 => ?_) ?_
  ·refine any_split 61 b43 rfl (fun hg56 => ?_) (fun hg56 => ?_)
   ·replace h := cond_t h hg56
    refine any_y 18 rfl (by kernel_rfl) (by kernel_rfl) (by kernel_rfl) (ss (ss (ss (ss (sn))))) (wg 17 true 61 rfl rfl rfl rfl) rfl (y_load_boxagg (c := [.int .i64 early_0.First, early_0_Lv, .bool early_0.Done]) 0 Tryz.isAgg24 Tryz.sizeOf24 rfl rfl rfl) ?_
    refine any_y 20 rfl (by kernel_rfl) (by kernel_rfl) (by kernel_rfl) (ss (ss (ss (ss (sn))))) (wg 17 true 61 rfl rfl rfl rfl) rfl (y_fieldAddr_box (sz := 0) Tryz.runUnderlying24 rfl Tryz.sizeOf22 rfl) ?_
    refine any_y 21 rfl (by kernel_rfl) (by kernel_rfl) (by kernel_rfl) (ss (ss (ss (ss (sn))))) (wg 17 true 61 rfl rfl rfl rfl) rfl (y_load_box 2 Tryz.isAgg22 rfl rfl rfl) ?_
    obtain ⟨x57, hzx57, hlx57, hxx57, h⟩ := idx_some h
    refine any_y 22 rfl (by kernel_rfl) (by kernel_rfl) (by kernel_rfl) (ss (ss (ss (ss (sn))))) (wg 17 true 61 rfl rfl rfl rfl) rfl (y_indexAddrI (kd := .i64) (i := 0) 3 Tryz.runUnderlying22 Tryz.sizeOf57 rfl rfl rfl reads_ro hzx57 (map_lt hlx57)) ?_
    refine any_y 23 rfl (by kernel_rfl) (by kernel_rfl) (by kernel_rfl) (ss (ss (ss (ss (sn))))) (wg 17 true 61 rfl rfl rfl rfl) rfl (y_fieldAddr_elem (sz := 0) Tryz.runUnderlying57 rfl Tryz.sizeOf3 rfl) ?_
    refine any_y 24 rfl (by kernel_rfl) (by kernel_rfl) (by kernel_rfl) (ss (ss (ss (ss (sn))))) (wg 17 true 61 rfl rfl rfl rfl) rfl (y_load_field (i := (0 : Int).toNat) (j := 1) 3 Tryz.isAgg3 rfl rfl reads_ro (map_get hxx57) rfl) ?_
    refine any_all [19] (by kernel_rfl) rfl (anyo_cons ?_ anyo_nil)
    obtain ⟨r58, hr59, h⟩ := obind_some h
    refine any_t rfl (wg 17 true 61 rfl rfl rfl rfl) rfl (t_callx (vs := [.agg #[.int .i64 early_0.First, early_0_Lv, .bool early_0.Done]]) (cs := []) [(1, 0)] rfl Tryz.call30 rfl (ref43_Edge_ok early_0 early_0_Lv hr59) (showsX_view 1 rfl views_ro showsX_nil) rfl (.inl rfl)) ?_
    rintro _ _ ⟨_, ⟨rfl, rfl⟩, rfl⟩
    refine ⟨(ss (ss (ss (ss (sn))))), ?_⟩
    refine any_y 25 rfl (by kernel_rfl) (by kernel_rfl) (by kernel_rfl) (ss (ss (ss (ss (sn))))) (wg 17 true 61 rfl rfl rfl rfl) rfl (y_neq rfl rfl) ?_
    refine any_y 26 rfl (by kernel_rfl) (by kernel_rfl) (by kernel_rfl) (ss (ss (ss (ss (sn))))) (wn rfl) rfl (y_pick (b := true) rfl rfl) ?_
    obtain rfl := some_eq h
    exact any_weak [(70, .bool (decide (r58 ≠ x57.Begin)))] [0, 1, 2, 3] [box b1 [.int .i64 early_0.First, early_0_Lv, .bool early_0.Done], ro early_0_Lv 20 (early_0.L.map S_api_Segment.enc), box b2 [.int .i64 late_1.First, late_1_Lv, .bool late_1.Done], ro late_1_Lv 20 (late_1.L.map S_api_Segment.enc)] (by kernel_rfl) (qv1 rfl) (by decide) rfl (hL55 (decide (r58 ≠ x57.Begin)) rfl)
   ·replace h := cond_f h hg56
    refine any_no 18 rfl (by kernel_rfl) (by kernel_rfl) (by kernel_rfl) (ss (ss (ss (ss (sn))))) 17 true 61 rfl rfl rfl rfl rfl ?_
    refine any_no 20 rfl (by kernel_rfl) (by kernel_rfl) (by kernel_rfl) (ss (ss (ss (ss (sn))))) 17 true 61 rfl rfl rfl rfl rfl ?_
    refine any_no 21 rfl (by kernel_rfl) (by kernel_rfl) (by kernel_rfl) (ss (ss (ss (ss (sn))))) 17 true 61 rfl rfl rfl rfl rfl ?_
    refine any_no 22 rfl (by kernel_rfl) (by kernel_rfl) (by kernel_rfl) (ss (ss (ss (ss (sn))))) 17 true 61 rfl rfl rfl rfl rfl ?_
    refine any_no 23 rfl (by kernel_rfl) (by kernel_rfl) (by kernel_rfl) (ss (ss (ss (ss (sn))))) 17 true 61 rfl rfl rfl rfl rfl ?_
    refine any_no 24 rfl (by kernel_rfl) (by kernel_rfl) (by kernel_rfl) (ss (ss (ss (ss (sn))))) 17 true 61 rfl rfl rfl rfl rfl ?_
    refine any_no 19 rfl (by kernel_rfl) (by kernel_rfl) (by kernel_rfl) (ss (ss (ss (ss (sn))))) 17 true 61 rfl rfl rfl rfl rfl ?_
    refine any_no 25 rfl (by kernel_rfl) (by kernel_rfl) (by kernel_rfl) (ss (ss (ss (ss (sn))))) 17 true 61 rfl rfl rfl rfl rfl ?_
    refine any_y 26 rfl (by kernel_rfl) (by kernel_rfl) (by kernel_rfl) (ss (ss (ss (ss (sn))))) (wn rfl) rfl (y_pick (b := false) rfl rfl) ?_
    obtain rfl := some_eq h
    exact any_weak [(70, .bool false)] [0, 1, 2, 3] [box b1 [.int .i64 early_0.First, early_0_Lv, .bool early_0.Done], ro early_0_Lv 20 (early_0.L.map S_api_Segment.enc), box b2 [.int .i64 late_1.First, late_1_Lv, .bool late_1.Done], ro late_1_Lv 20 (late_1.L.map S_api_Segment.enc)] (by kernel_rfl) (qv1 rfl) (by decide) rfl (hL55 false rfl)
  rintro b51 hj
  obtain rfl : o52 = _ := hj
  replace h := after_go ho53
  clear ho53
  refine any_y 27 rfl (by kernel_rfl) (by kernel_rfl) (by kernel_rfl) (ss (ss (ss (ss (sn))))) (wn rfl) rfl (y_assign rfl) ?_
  refine any_nil (by kernel_rfl) ?_
  refine goes_code ?_
  refine run_ret ?_
  obtain rfl := some_eq h
  refine fin_slots [4] [.bool b51] [] [] Tryz.results43 rfl (by decide) rfl ?_
  exact ⟨rfl, rfl⟩

def ref43_cut (p_0 : S_api_Playlist) (window_1 : Int) : Option (S_api_Playlist) :=
 bindJ (S := Int × (List S_api_Segment))
  (cond (decide (window_1 < (p_0.L.length : Int)))
   (need (0 ≤ (IntKind.i64.wrap ((p_0.L.length : Int) - window_1)) ∧ (IntKind.i64.wrap ((p_0.L.length : Int) - window_1)) ≤ (p_0.L.length : Int) ∧ (p_0.L.length : Int) ≤ (p_0.L.length : Int)) (
   idx (p_0.L.drop (((IntKind.i64.wrap ((p_0.L.length : Int) - window_1))).toNat)) 0 fun x13 =>
   some (.go (x13.Num, (p_0.L.drop (((IntKind.i64.wrap ((p_0.L.length : Int) - window_1))).toNat))))))
   (some (.go (p_0.First, p_0.L))))
 (fun (x_3, x_4) =>
  some (S_api_Playlist.mk x_3 x_4 p_0.Done))
theorem ref43_cut_ok (p_0 : S_api_Playlist) (window_1 : Int) (p_0_Lv : Value) {r : S_api_Playlist} (h : ref43_cut p_0 window_1 = some r) :
  Meets Tryz.prog 44 [.agg #[.int .i64 p_0.First, p_0_Lv, .bool p_0.Done], .int .i64 window_1] [ro p_0_Lv 20 (p_0.L.map S_api_Segment.enc)] (fun v G => ∃ v0, v = .agg #[.int .i64 r.First, v0, .bool r.Done] ∧ G = [ro v0 20 (r.L.map S_api_Segment.enc)]) := by
 refine fn_of_run Tryz.func44 rfl Tryz.ntmps44 rfl (fun w0 o0 => ?_)
 refine run_seq ?_
 refine run_region' ?_
 refine ot rfl rfl (t_box rfl) ?_
 rintro _ _ ⟨b1, rfl, rfl⟩
 refine ot rfl rfl (t_alloc Tryz.zeroValue24) ?_
 rintro _ _ ⟨b2, rfl, rfl⟩
 refine ops_nil ?_
 refine goes_code ?_
 obtain ⟨o6, h, ho7⟩ := bindJ_some h
 refine run_cut ((Int × (List S_api_Segment)) × (Value)) (fun σ => [(2, boxP b1 0), (4, boxP b2 0)]) (fun σ => [box b1 [.int .i64 σ.1.1, σ.2, .bool p_0.Done], ro σ.2 20 (σ.1.2.map S_api_Segment.enc), box b2 [.int .i64 0, .slice none 0 0, .bool false]]) (fun σ => o6 = .go σ.1) (fun L9 hL8 => ?_) ?_
 ·
  refine run_seq ?_
  refine run_region' ?_
  refine oy rfl rfl (y_fieldAddr_box (sz := 0) Tryz.runUnderlying24 rfl Tryz.sizeOf22 rfl) ?_
  refine oy rfl rfl (y_load_box 1 Tryz.isAgg22 rfl rfl rfl) ?_
  refine oy rfl rfl ((y_len 0 rfl Tryz.runUnderlying22 rfl rfl reads_ro).to (v_len S_api_Segment.enc _)) ?_
  refine oy rfl rfl (y_move rfl) ?_
  refine oy rfl rfl (y_gtr rfl rfl) ?_
  refine ops_nil ?_
  refine goes_code ?_
  refine run_cond (decide (window_1 < (p_0.L.length : Int))) rfl (fun hc10 => ?_) (fun hc10 => ?_)
  ·replace h := cond_t h hc10
   refine run_seq ?_
   refine run_region' ?_
   refine oy rfl rfl (y_fieldAddr_box (sz := 0) Tryz.runUnderlying24 rfl Tryz.sizeOf22 rfl) ?_
   refine oy rfl rfl (y_load_box 1 Tryz.isAgg22 rfl rfl rfl) ?_
   refine oy rfl rfl (y_fieldAddr_box (sz := 0) Tryz.runUnderlying24 rfl Tryz.sizeOf22 rfl) ?_
   refine oy rfl rfl (y_load_box 1 Tryz.isAgg22 rfl rfl rfl) ?_
   refine oy rfl rfl ((y_len 0 rfl Tryz.runUnderlying22 rfl rfl reads_ro).to (v_len S_api_Segment.enc _)) ?_
   refine oy rfl rfl (y_move rfl) ?_
   refine oy rfl rfl (y_sub rfl rfl) ?_
   obtain ⟨hb11, h⟩ := need_some h
   refine oy rfl rfl (y_slice (l := (IntKind.i64.wrap ((p_0.L.length : Int) - window_1))) (r := (p_0.L.length : Int)) 0 Tryz.runUnderlying22 Tryz.sizeOf57 rfl rfl reads_ro (bi1 (kd := .i64) rfl) bi0m hb11.1 hb11.2.1 (map_len_le hb11.2.2)) ?_
   refine ops_turn (turn_sub (l := ((IntKind.i64.wrap ((p_0.L.length : Int) - window_1))).toNat) (r := ((p_0.L.length : Int)).toNat) 0 rfl (by omega) (map_toNat_le hb11.2.2)) ?_
   refine ops_turn (retell 3 (g := ro (subS p_0_Lv 20 (((IntKind.i64.wrap ((p_0.L.length : Int) - window_1))).toNat) (((p_0.L.length : Int)).toNat)) 20 ((p_0.L.drop (((IntKind.i64.wrap ((p_0.L.length : Int) - window_1))).toNat)).map S_api_Segment.enc)) rfl (congrArg (ro _ _) (sub_lo _ _ _))) ?_
   refine oy rfl rfl (y_fieldAddr_box (sz := 0) Tryz.runUnderlying24 rfl Tryz.sizeOf22 rfl) ?_
   refine ops_weak [(2, boxP b1 0), (4, boxP b2 0), (17, (subS p_0_Lv 20 (((IntKind.i64.wrap ((p_0.L.length : Int) - window_1))).toNat) (((p_0.L.length : Int)).toNat))), (18, boxP b1 1)] [0, 1, 2, 3] [ro p_0_Lv 20 (p_0.L.map S_api_Segment.enc), box b1 [.int .i64 p_0.First, p_0_Lv, .bool p_0.Done], box b2 [.int .i64 0, .slice none 0 0, .bool false], ro (subS p_0_Lv 20 (((IntKind.i64.wrap ((p_0.L.length : Int) - window_1))).toNat) (((p_0.L.length : Int)).toNat)) 20 ((p_0.L.drop (((IntKind.i64.wrap ((p_0.L.length : Int) - window_1))).toNat)).map S_api_Segment.enc)] (qv4 rfl rfl rfl rfl) (by decide) rfl ?_
   refine ops_slc 3 rfl reads_ro (fun hs12 hs12o => ?_)
   refine ot rfl rfl (t_store 1 Tryz.sizeOf22 rfl rfl rfl (by rw [hs12]; rfl) (by simp [Value.cells, boxP]) (by rw [hs12]; exact allL_cons hs12o (allL_nil))) ?_
   rintro _ _ ⟨rfl, rfl⟩
   refine ops_turn (retell 1 (g := box b1 [.int .i64 p_0.First, (subS p_0_Lv 20 (((IntKind.i64.wrap ((p_0.L.length : Int) - window_1))).toNat) (((p_0.L.length : Int)).toNat)), .bool p_0.Done]) rfl (by rw [hs12]; rfl)) ?_
   refine ops_nil ?_
   refine goes_code ?_
   refine run_region' ?_
   refine oy rfl rfl (y_fieldAddr_box (sz := 0) Tryz.runUnderlying24 rfl Tryz.sizeOf22 rfl) ?_
   refine oy rfl rfl (y_load_box 1 Tryz.isAgg22 rfl rfl rfl) ?_
   obtain ⟨x13, hzx13, hlx13, hxx13, h⟩ := idx_some h
   refine oy rfl rfl (y_indexAddrI (kd := .i64) (i := 0) 3 Tryz.runUnderlying22 Tryz.sizeOf57 rfl rfl rfl reads_ro hzx13 (map_lt hlx13)) ?_
   refine oy rfl rfl (y_fieldAddr_elem (sz := 0) Tryz.runUnderlying57 rfl Tryz.sizeOf3 rfl) ?_
   refine oy rfl rfl (y_load_field (i := (0 : Int).toNat) (j := 0) 3 Tryz.isAgg3 rfl rfl reads_ro (map_get hxx13) rfl) ?_
   refine oy rfl rfl (y_fieldAddr_box (sz := 0) Tryz.runUnderlying24 rfl Tryz.sizeOf3 rfl) ?_
   refine ot rfl rfl (t_store 1 Tryz.sizeOf3 rfl rfl rfl rfl (by simp [Value.cells, boxP]) (by simp [Value.cells, Value.oneCell', boxP])) ?_
   rintro _ _ ⟨rfl, rfl⟩
   refine ops_turn (retell 1 (g := box b1 [.int .i64 x13.Num, (subS p_0_Lv 20 (((IntKind.i64.wrap ((p_0.L.length : Int) - window_1))).toNat) (((p_0.L.length : Int)).toNat)), .bool p_0.Done]) rfl rfl) ?_
   refine ops_nil ?_
   obtain rfl := some_eq h
   exact goes_cut hL8 ((x13.Num, (p_0.L.drop (((IntKind.i64.wrap ((p_0.L.length : Int) - window_1))).toNat))), (subS p_0_Lv 20 (((IntKind.i64.wrap ((p_0.L.length : Int) - window_1))).toNat) (((p_0.L.length : Int)).toNat))) [1, 3, 2] (qv2 rfl rfl) (by decide) rfl rfl
  ·replace h := cond_f h hc10
   refine run_skip ?_
   obtain rfl := some_eq h
   exact goes_cut hL8 ((p_0.First, p_0.L), p_0_Lv) [1, 0, 2] (qv2 rfl rfl) (by decide) rfl rfl
 rintro ⟨⟨x_3, x_4⟩, v5⟩ hj
 obtain rfl : o6 = _ := hj
 replace h := after_go ho7
 clear ho7
 change Run _ _ _ (VF.of [(2, boxP b1 0), (4, boxP b2 0)]) [box b1 [.int .i64 x_3, v5, .bool p_0.Done], ro v5 20 (x_4.map S_api_Segment.enc), box b2 [.int .i64 0, .slice none 0 0, .bool false]]
 refine run_seq ?_
 refine run_region' ?_
 refine oy rfl rfl (y_load_boxagg (c := [.int .i64 x_3, v5, .bool p_0.Done]) 0 Tryz.isAgg24 Tryz.sizeOf24 rfl rfl rfl) ?_
 refine ops_slc 1 rfl reads_ro (fun hs14 hs14o => ?_)
 refine ot rfl rfl (t_store 2 Tryz.sizeOf24 rfl rfl rfl rfl (by simp [Value.cells, boxP]) (allL_cons rfl (allL_cons hs14o (allL_cons rfl (allL_nil))))) ?_
 rintro _ _ ⟨rfl, rfl⟩
 refine ops_turn (retell 2 (g := box b2 [.int .i64 x_3, v5, .bool p_0.Done]) rfl rfl) ?_
 refine ops_nil ?_
 refine goes_code ?_
 refine run_ret ?_
 obtain rfl := some_eq h
 refine fin_res [.cell 4 24] [.agg #[.int .i64 x_3, v5, .bool p_0.Done]] [1] [ro v5 20 (x_4.map S_api_Segment.enc)] Tryz.results44 rfl (rescons (res_box 2 Tryz.isAgg24 Tryz.sizeOf24 rfl rfl rfl) resnil) (by decide) rfl ?_
 exact ⟨_, rfl, rfl⟩

def ref43_Merge_L1 (x_11 : Int) (x_15 : (List S_api_Segment)) : (Int × (List S_api_Segment)) → Option (Lp (Int × (List S_api_Segment)) (Lp ((List S_api_Segment)) (S_ref43_Made))) :=
 fun (i_55, x_56) =>
  cond (decide (i_55 < (x_15.length : Int)))
   (bindJ (S := (List S_api_Segment))
    (idx x_15 i_55 fun x69 =>
    cond (decide (x69.Num < x_11))
     (need (x_56.length + ([x69] : List S_api_Segment).length ≤ 4294967296) (
     some (.go (x_56 ++ ([x69] : List S_api_Segment)))))
     (some (.go x_56)))
   (fun x_63 =>
    some (.go ((IntKind.i64.wrap (i_55 + 1)), x_63))))
   (some (.stop (.go x_56)))
def ref43_Merge (n : Nat) (a_0 : S_api_Playlist) (b_1 : S_api_Playlist) (window_2 : Int) : Option (S_ref43_Made) :=
 obind (ref43_wide window_2) fun r4 =>
 cond (!r4)
  (some (S_ref43_Made.mk (S_api_Playlist.mk 0 ([] : List S_api_Segment) false) 1))
  (bindJ (S := Int × (List S_api_Segment) × Bool × Int × (List S_api_Segment) × Bool)
   (obind (ref43_Next b_1) fun r23 =>
   obind (ref43_Next a_0) fun r25 =>
   cond (decide (r25 < r23))
    (some (.go (b_1.First, b_1.L, b_1.Done, a_0.First, a_0.L, a_0.Done)))
    (some (.go (a_0.First, a_0.L, a_0.Done, b_1.First, b_1.L, b_1.Done))))
  (fun (x_11, x_12, x_13, x_14, x_15, x_16) =>
   obind (ref43_fork n (S_api_Playlist.mk x_14 x_15 x_16) (S_api_Playlist.mk x_11 x_12 x_13)) fun r30 =>
   cond r30
    (some (S_ref43_Made.mk (S_api_Playlist.mk 0 ([] : List S_api_Segment) false) 430))
    (bindJ (S := (List S_api_Segment))
     (bindJ (S := Bool)
      (cond (decide (0 < (x_15.length : Int)) && decide (0 < (x_12.length : Int)))
       (obind (ref43_Next (S_api_Playlist.mk x_14 x_15 x_16)) fun r52 =>
       some (.go (decide (x_11 ≤ r52))))
       (some (.go false)))
     (fun b46 =>
      cond b46
       (iter (ref43_Merge_L1 x_11 x_15) n (0, ([] : List S_api_Segment)))
       (some (.go ([] : List S_api_Segment)))))
    (fun x_37 =>
     need (x_37.length + x_12.length ≤ 4294967296) (
     bindJ (S := Int)
      (cond (decide (0 < ((x_37 ++ x_12).length : Int)))
       (idx (x_37 ++ x_12) 0 fun x97 =>
       some (.go x97.Num))
       (some (.go x_11)))
     (fun x_91 =>
      obind (ref43_cut (S_api_Playlist.mk x_91 (x_37 ++ x_12) (a_0.Done || b_1.Done)) window_2) fun r98 =>
      some (S_ref43_Made.mk r98 0)))))))
theorem ref43_Merge_ok (n : Nat) (a_0 : S_api_Playlist) (b_1 : S_api_Playlist) (window_2 : Int) (a_0_Lv : Value) (b_1_Lv : Value) {r : S_ref43_Made} (h : ref43_Merge n a_0 b_1 window_2 = some r) :
  Meets Tryz.prog 10 [.agg #[.int .i64 a_0.First, a_0_Lv, .bool a_0.Done], .agg #[.int .i64 b_1.First, b_1_Lv, .bool b_1.Done], .int .i64 window_2] [ro a_0_Lv 20 (a_0.L.map S_api_Segment.enc), ro b_1_Lv 20 (b_1.L.map S_api_Segment.enc)] (fun v G => ∃ v0, v = .agg #[.int .i64 r.P.First, v0, .bool r.P.Done, .int .i64 r.E] ∧ G = [ro v0 20 (r.P.L.map S_api_Segment.enc)]) := by
 refine fn_of_run Tryz.func10 rfl Tryz.ntmps10 rfl (fun w0 o0 => ?_)
 refine run_seq ?_
 refine run_region' ?_
 refine ot rfl rfl (t_box rfl) ?_
 rintro _ _ ⟨b1, rfl, rfl⟩
 refine ot rfl rfl (t_box rfl) ?_
 rintro _ _ ⟨b2, rfl, rfl⟩
 refine ot rfl rfl (t_alloc Tryz.zeroValue31) ?_
 rintro _ _ ⟨b3, rfl, rfl⟩
 refine ops_nil ?_
 refine goes_code ?_
 refine run_seq ?_
 refine run_seq ?_
 refine run_region' ?_
 refine oy rfl rfl (y_move rfl) ?_
 obtain ⟨r4, hr5, h⟩ := obind_some h
 refine ot rfl rfl (t_callx (vs := [.int .i64 window_2]) (cs := []) [] rfl Tryz.call42 rfl (ref43_wide_ok window_2  hr5) showsX_nil rfl (.inl rfl)) ?_
 rintro _ _ ⟨_, ⟨rfl, rfl⟩, rfl⟩
 refine oy rfl rfl (y_not rfl) ?_
 refine ops_nil ?_
 refine goes_code ?_
 refine run_cond (!r4) rfl (fun hc6 => ?_) (fun hc6 => ?_)
 ·replace h := cond_t h hc6
  refine run_seq ?_
  refine run_region' ?_
  refine oy rfl rfl (y_build_struct (cells := #[.int .i64 0, .slice none 0 0, .bool false, .int .i64 1]) [(1, .int .i64 1)] [(1, [.int .i64 1])] Tryz.zeroValue31 Tryz.runUnderlying31 (fs_cons Tryz.sizeOf24 (fs_cons Tryz.sizeOf27 fs_nil)) rfl rfl rfl) ?_
  refine ot rfl rfl (t_store 4 Tryz.sizeOf31 rfl rfl rfl rfl (by simp [Value.cells, boxP]) (by simp [Value.cells, Value.oneCell', boxP])) ?_
  rintro _ _ ⟨rfl, rfl⟩
  refine ops_turn (retell 4 (g := box b3 [.int .i64 0, .slice none 0 0, .bool false, .int .i64 1]) rfl rfl) ?_
  refine ops_nil ?_
  refine goes_code ?_
  refine run_ret ?_
  refine fin_turn (nilro 20) ?_
  refine fin_turn (retell 5 (g := ro (.slice none 0 0) 20 (([] : List S_api_Segment).map S_api_Segment.enc)) rfl rfl) ?_
  obtain rfl := some_eq h
  refine fin_res [.cell 6 31] [.agg #[.int .i64 0, (.slice none 0 0), .bool false, .int .i64 1]] [5] [ro (.slice none 0 0) 20 (([] : List S_api_Segment).map S_api_Segment.enc)] Tryz.results10 rfl (rescons (res_box 4 Tryz.isAgg31 Tryz.sizeOf31 rfl rfl rfl) resnil) (by decide) rfl ?_
  exact ⟨_, rfl, rfl⟩
 ·replace h := cond_f h hc6
  refine run_skip ?_
  refine goes_code ?_
  refine run_seq ?_
  refine run_region' ?_
  refine oy rfl rfl (y_load_boxagg (c := [.int .i64 a_0.First, a_0_Lv, .bool a_0.Done]) 2 Tryz.isAgg24 Tryz.sizeOf24 rfl rfl rfl) ?_
  refine ot rfl rfl (t_alloc Tryz.zeroValue24) ?_
  rintro _ _ ⟨b7, rfl, rfl⟩
  refine ops_slc 0 rfl reads_ro (fun hs8 hs8o => ?_)
  refine ot rfl rfl (t_store 5 Tryz.sizeOf24 rfl rfl rfl rfl (by simp [Value.cells, boxP]) (allL_cons rfl (allL_cons hs8o (allL_cons rfl (allL_nil))))) ?_
  rintro _ _ ⟨rfl, rfl⟩
  refine ops_turn (retell 5 (g := box b7 [.int .i64 a_0.First, a_0_Lv, .bool a_0.Done]) rfl rfl) ?_
  refine ops_nil ?_
  refine goes_code ?_
  refine run_seq ?_
  refine run_weak [(2, .int .i64 window_2), (3, boxP b1 0), (4, boxP b2 0), (6, boxP b3 0), (7, boxP b7 0)] [0, 1, 2, 3, 4, 5] [ro a_0_Lv 20 (a_0.L.map S_api_Segment.enc), ro b_1_Lv 20 (b_1.L.map S_api_Segment.enc), box b1 [.int .i64 a_0.First, a_0_Lv, .bool a_0.Done], box b2 [.int .i64 b_1.First, b_1_Lv, .bool b_1.Done], box b3 [.int .i64 0, .slice none 0 0, .bool false, .int .i64 0], box b7 [.int .i64 a_0.First, a_0_Lv, .bool a_0.Done]] (qv5 rfl rfl rfl rfl rfl) (by decide) rfl ?_
  refine run_region' ?_
  refine oy rfl rfl (y_load_boxagg (c := [.int .i64 b_1.First, b_1_Lv, .bool b_1.Done]) 3 Tryz.isAgg24 Tryz.sizeOf24 rfl rfl rfl) ?_
  refine ot rfl rfl (t_alloc Tryz.zeroValue24) ?_
  rintro _ _ ⟨b9, rfl, rfl⟩
  refine ops_slc 1 rfl reads_ro (fun hs10 hs10o => ?_)
  refine ot rfl rfl (t_store 6 Tryz.sizeOf24 rfl rfl rfl rfl (by simp [Value.cells, boxP]) (allL_cons rfl (allL_cons hs10o (allL_cons rfl (allL_nil))))) ?_
  rintro _ _ ⟨rfl, rfl⟩
  refine ops_turn (retell 6 (g := box b9 [.int .i64 b_1.First, b_1_Lv, .bool b_1.Done]) rfl rfl) ?_
  refine ops_nil ?_
  refine goes_code ?_
  obtain ⟨o19, h, ho20⟩ := bindJ_some h
  refine run_cut ((Int × (List S_api_Segment) × Bool × Int × (List S_api_Segment) × Bool) × (Value × Value)) (fun σ => [(2, .int .i64 window_2), (3, boxP b1 0), (4, boxP b2 0), (6, boxP b3 0), (7, boxP b7 0), (8, boxP b9 0)]) (fun σ => [box b1 [.int .i64 a_0.First, a_0_Lv, .bool a_0.Done], ro a_0_Lv 20 (a_0.L.map S_api_Segment.enc), box b2 [.int .i64 b_1.First, b_1_Lv, .bool b_1.Done], ro b_1_Lv 20 (b_1.L.map S_api_Segment.enc), box b3 [.int .i64 0, .slice none 0 0, .bool false, .int .i64 0], box b7 [.int .i64 σ.1.1, σ.2.1, .bool σ.1.2.2.1], ro σ.2.1 20 (σ.1.2.1.map S_api_Segment.enc), box b9 [.int .i64 σ.1.2.2.2.1, σ.2.2, .bool σ.1.2.2.2.2.2], ro σ.2.2 20 (σ.1.2.2.2.2.1.map S_api_Segment.enc)]) (fun σ => o19 = .go σ.1) (fun L22 hL21 => ?_) ?_
  ·
   refine run_seq ?_
   refine run_drawany [ro a_0_Lv 20 (a_0.L.map S_api_Segment.enc), ro b_1_Lv 20 (b_1.L.map S_api_Segment.enc), box b1 [.int .i64 a_0.First, a_0_Lv, .bool a_0.Done], box b2 [.int .i64 b_1.First, b_1_Lv, .bool b_1.Done], box b3 [.int .i64 0, .slice none 0 0, .bool false, .int .i64 0], box b7 [.int .i64 a_0.First, a_0_Lv, .bool a_0.Done], box b9 [.int .i64 b_1.First, b_1_Lv, .bool b_1.Done]] (by kernel_rfl) ?_
   refine any_y 0 rfl (by kernel_rfl) (by kernel_rfl) (by kernel_rfl) (ss (ss (ss (ss (ss (ss (ss (sn)))))))) (wn rfl) rfl (y_load_boxagg (c := [.int .i64 b_1.First, b_1_Lv, .bool b_1.Done]) 3 Tryz.isAgg24 Tryz.sizeOf24 rfl rfl rfl) ?_
   refine any_y 2 rfl (by kernel_rfl) (by kernel_rfl) (by kernel_rfl) (ss (ss (ss (ss (ss (ss (ss (sn)))))))) (wn rfl) rfl (y_load_boxagg (c := [.int .i64 a_0.First, a_0_Lv, .bool a_0.Done]) 2 Tryz.isAgg24 Tryz.sizeOf24 rfl rfl rfl) ?_
   refine any_all [1] (by kernel_rfl) rfl (anyo_cons ?_ anyo_nil)
   obtain ⟨r23, hr24, h⟩ := obind_some h
   refine any_t rfl (wn rfl) rfl (t_callx (vs := [.agg #[.int .i64 b_1.First, b_1_Lv, .bool b_1.Done]]) (cs := []) [(1, 0)] rfl Tryz.call28 rfl (ref43_Next_ok b_1 b_1_Lv hr24) (showsX_view 1 rfl views_ro showsX_nil) rfl (.inl rfl)) ?_
   rintro _ _ ⟨_, ⟨rfl, rfl⟩, rfl⟩
   refine ⟨(ss (ss (ss (ss (ss (ss (ss (sn)))))))), ?_⟩
   refine any_all [3] (by kernel_rfl) rfl (anyo_cons ?_ anyo_nil)
   obtain ⟨r25, hr26, h⟩ := obind_some h
   refine any_t rfl (wn rfl) rfl (t_callx (vs := [.agg #[.int .i64 a_0.First, a_0_Lv, .bool a_0.Done]]) (cs := []) [(0, 0)] rfl Tryz.call28 rfl (ref43_Next_ok a_0 a_0_Lv hr26) (showsX_view 0 rfl views_ro showsX_nil) rfl (.inl rfl)) ?_
   rintro _ _ ⟨_, ⟨rfl, rfl⟩, rfl⟩
   refine ⟨(ss (ss (ss (ss (ss (ss (ss (sn)))))))), ?_⟩
   refine any_y 4 rfl (by kernel_rfl) (by kernel_rfl) (by kernel_rfl) (ss (ss (ss (ss (ss (ss (ss (sn)))))))) (wn rfl) rfl (y_gtr rfl rfl) ?_
   refine any_nil (by kernel_rfl) ?_
   refine goes_code ?_
   refine run_cond (decide (r25 < r23)) rfl (fun hc27 => ?_) (fun hc27 => ?_)
   ·replace h := cond_t h hc27
    refine run_seq ?_
    refine run_weak [(2, .int .i64 window_2), (3, boxP b1 0), (4, boxP b2 0), (6, boxP b3 0), (7, boxP b7 0), (8, boxP b9 0)] [0, 1, 2, 3, 4, 5, 6] [ro a_0_Lv 20 (a_0.L.map S_api_Segment.enc), ro b_1_Lv 20 (b_1.L.map S_api_Segment.enc), box b1 [.int .i64 a_0.First, a_0_Lv, .bool a_0.Done], box b2 [.int .i64 b_1.First, b_1_Lv, .bool b_1.Done], box b3 [.int .i64 0, .slice none 0 0, .bool false, .int .i64 0], box b7 [.int .i64 a_0.First, a_0_Lv, .bool a_0.Done], box b9 [.int .i64 b_1.First, b_1_Lv, .bool b_1.Done]] (qv6 rfl rfl rfl rfl rfl rfl) (by decide) rfl ?_
    refine run_region' ?_
    refine oy rfl rfl (y_load_boxagg (c := [.int .i64 b_1.First, b_1_Lv, .bool b_1.Done]) 3 Tryz.isAgg24 Tryz.sizeOf24 rfl rfl rfl) ?_
    refine ops_slc 1 rfl reads_ro (fun hs28 hs28o => ?_)
    refine ot rfl rfl (t_store 5 Tryz.sizeOf24 rfl rfl rfl rfl (by simp [Value.cells, boxP]) (allL_cons rfl (allL_cons hs28o (allL_cons rfl (allL_nil))))) ?_
    rintro _ _ ⟨rfl, rfl⟩
    refine ops_turn (retell 5 (g := box b7 [.int .i64 b_1.First, b_1_Lv, .bool b_1.Done]) rfl rfl) ?_
    refine ops_nil ?_
    refine goes_code ?_
    refine run_region' ?_
    refine oy rfl rfl (y_load_boxagg (c := [.int .i64 a_0.First, a_0_Lv, .bool a_0.Done]) 2 Tryz.isAgg24 Tryz.sizeOf24 rfl rfl rfl) ?_
    refine ops_slc 0 rfl reads_ro (fun hs29 hs29o => ?_)
    refine ot rfl rfl (t_store 6 Tryz.sizeOf24 rfl rfl rfl rfl (by simp [Value.cells, boxP]) (allL_cons rfl (allL_cons hs29o (allL_cons rfl (allL_nil))))) ?_
    rintro _ _ ⟨rfl, rfl⟩
    refine ops_turn (retell 6 (g := box b9 [.int .i64 a_0.First, a_0_Lv, .bool a_0.Done]) rfl rfl) ?_
    refine ops_nil ?_
    refine goes_turn (turn_dup 1 free_ro rfl) ?_
    refine goes_turn (turn_dup 0 free_ro rfl) ?_
    obtain rfl := some_eq h
    exact goes_cut hL21 ((b_1.First, b_1.L, b_1.Done, a_0.First, a_0.L, a_0.Done), (b_1_Lv, a_0_Lv)) [2, 0, 3, 1, 4, 5, 7, 6, 8] (qv6 rfl rfl rfl rfl rfl rfl) (by decide) rfl rfl
   ·replace h := cond_f h hc27
    refine run_skip ?_
    refine goes_turn (turn_dup 0 free_ro rfl) ?_
    refine goes_turn (turn_dup 1 free_ro rfl) ?_
    obtain rfl := some_eq h
    exact goes_cut hL21 ((a_0.First, a_0.L, a_0.Done, b_1.First, b_1.L, b_1.Done), (a_0_Lv, b_1_Lv)) [2, 0, 3, 1, 4, 5, 7, 6, 8] (qv6 rfl rfl rfl rfl rfl rfl) (by decide) rfl rfl
  rintro ⟨⟨x_11, x_12, x_13, x_14, x_15, x_16⟩, ⟨v17, v18⟩⟩ hj
  obtain rfl : o19 = _ := hj
  replace h := after_go ho20
  clear ho20
  change Run _ _ _ (VF.of [(2, .int .i64 window_2), (3, boxP b1 0), (4, boxP b2 0), (6, boxP b3 0), (7, boxP b7 0), (8, boxP b9 0)]) [box b1 [.int .i64 a_0.First, a_0_Lv, .bool a_0.Done], ro a_0_Lv 20 (a_0.L.map S_api_Segment.enc), box b2 [.int .i64 b_1.First, b_1_Lv, .bool b_1.Done], ro b_1_Lv 20 (b_1.L.map S_api_Segment.enc), box b3 [.int .i64 0, .slice none 0 0, .bool false, .int .i64 0], box b7 [.int .i64 x_11, v17, .bool x_13], ro v17 20 (x_12.map S_api_Segment.enc), box b9 [.int .i64 x_14, v18, .bool x_16], ro v18 20 (x_15.map S_api_Segment.enc)]
  refine run_seq ?_
  refine run_seq ?_
  refine run_region' ?_
  refine oy rfl rfl (y_load_boxagg (c := [.int .i64 x_14, v18, .bool x_16]) 7 Tryz.isAgg24 Tryz.sizeOf24 rfl rfl rfl) ?_
  refine oy rfl rfl (y_load_boxagg (c := [.int .i64 x_11, v17, .bool x_13]) 5 Tryz.isAgg24 Tryz.sizeOf24 rfl rfl rfl) ?_
  obtain ⟨r30, hr31, h⟩ := obind_some h
  refine ot rfl rfl (t_callx (vs := [.agg #[.int .i64 x_14, v18, .bool x_16], .agg #[.int .i64 x_11, v17, .bool x_13]]) (cs := []) [(8, 0), (6, 0)] rfl Tryz.call43 rfl (ref43_fork_ok n (S_api_Playlist.mk x_14 x_15 x_16) (S_api_Playlist.mk x_11 x_12 x_13) v18 v17 hr31) (showsX_view 8 rfl views_ro (showsX_view 6 rfl views_ro showsX_nil)) rfl (.inl rfl)) ?_
  rintro _ _ ⟨_, ⟨rfl, rfl⟩, rfl⟩
  refine ops_nil ?_
  refine goes_code ?_
  refine run_cond r30 rfl (fun hc32 => ?_) (fun hc32 => ?_)
  ·replace h := cond_t h hc32
   refine run_seq ?_
   refine run_region' ?_
   refine oy rfl rfl (y_build_struct (cells := #[.int .i64 0, .slice none 0 0, .bool false, .int .i64 430]) [(1, .int .i64 430)] [(1, [.int .i64 430])] Tryz.zeroValue31 Tryz.runUnderlying31 (fs_cons Tryz.sizeOf24 (fs_cons Tryz.sizeOf27 fs_nil)) rfl rfl rfl) ?_
   refine ot rfl rfl (t_store 4 Tryz.sizeOf31 rfl rfl rfl rfl (by simp [Value.cells, boxP]) (by simp [Value.cells, Value.oneCell', boxP])) ?_
   rintro _ _ ⟨rfl, rfl⟩
   refine ops_turn (retell 4 (g := box b3 [.int .i64 0, .slice none 0 0, .bool false, .int .i64 430]) rfl rfl) ?_
   refine ops_nil ?_
   refine goes_code ?_
   refine run_ret ?_
   refine fin_turn (nilro 20) ?_
   refine fin_turn (retell 9 (g := ro (.slice none 0 0) 20 (([] : List S_api_Segment).map S_api_Segment.enc)) rfl rfl) ?_
   obtain rfl := some_eq h
   refine fin_res [.cell 6 31] [.agg #[.int .i64 0, (.slice none 0 0), .bool false, .int .i64 430]] [9] [ro (.slice none 0 0) 20 (([] : List S_api_Segment).map S_api_Segment.enc)] Tryz.results10 rfl (rescons (res_box 4 Tryz.isAgg31 Tryz.sizeOf31 rfl rfl rfl) resnil) (by decide) rfl ?_
   exact ⟨_, rfl, rfl⟩
  ·replace h := cond_f h hc32
   refine run_skip ?_
   refine goes_code ?_
   refine run_seq ?_
   refine run_region' ?_
   refine oy rfl rfl (y_fieldAddr_box (sz := 0) Tryz.runUnderlying24 rfl Tryz.sizeOf3 rfl) ?_
   refine oy rfl rfl (y_load_box 5 Tryz.isAgg3 rfl rfl rfl) ?_
   refine oy rfl rfl (y_fieldAddr_box (sz := 0) Tryz.runUnderlying24 rfl Tryz.sizeOf4 rfl) ?_
   refine oy rfl rfl (y_load_box 0 Tryz.isAgg4 rfl rfl rfl) ?_
   refine oy rfl rfl (y_move rfl) ?_
   refine ops_cut 3 (Bool) (fun σ => [(2, .int .i64 window_2), (6, boxP b3 0), (7, boxP b7 0), (8, boxP b9 0), (29, .int .i64 x_11), (35, .bool σ)]) (fun σ => [box b3 [.int .i64 0, .slice none 0 0, .bool false, .int .i64 0], box b7 [.int .i64 x_11, v17, .bool x_13], ro v17 20 (x_12.map S_api_Segment.enc), box b9 [.int .i64 x_14, v18, .bool x_16], ro v18 20 (x_15.map S_api_Segment.enc)]) (fun σ => σ = (a_0.Done || b_1.Done)) (fun L33 hL34 => ?_) ?_
   ·refine ops_split 32 a_0.Done rfl (fun hg35 => ?_) (fun hg35 => ?_)
    ·skip
     refine ops_no 4 false 32 rfl rfl rfl rfl rfl ?_
     refine ops_no 4 false 32 rfl rfl rfl rfl rfl ?_
     refine oy rfl rfl (y_pick (b := true) rfl rfl) ?_
     refine ops_nil ?_
     exact goes_cut hL34 true [4, 5, 6, 7, 8] (qv6 rfl rfl rfl rfl rfl rfl) (by decide) rfl (by rw [hg35]; simp)
    ·skip
     refine ops_y (wg 4 false 32 rfl rfl rfl rfl) rfl (y_fieldAddr_box (sz := 0) Tryz.runUnderlying24 rfl Tryz.sizeOf4 rfl) ?_
     refine ops_y (wg 4 false 32 rfl rfl rfl rfl) rfl (y_load_box 2 Tryz.isAgg4 rfl rfl rfl) ?_
     refine oy rfl rfl (y_pick (b := false) rfl rfl) ?_
     refine ops_nil ?_
     exact goes_cut hL34 b_1.Done [4, 5, 6, 7, 8] (qv6 rfl rfl rfl rfl rfl rfl) (by decide) rfl (by rw [hg35]; simp)
   rintro _ rfl
   refine oy rfl rfl (y_build_struct (cells := #[.int .i64 x_11, .slice none 0 0, .bool (a_0.Done || b_1.Done)]) [(0, .int .i64 x_11), (2, .bool (a_0.Done || b_1.Done))] [(0, [.int .i64 x_11]), (2, [.bool (a_0.Done || b_1.Done)])] Tryz.zeroValue24 Tryz.runUnderlying24 (fs_cons Tryz.sizeOf3 (fs_cons Tryz.sizeOf22 (fs_cons Tryz.sizeOf4 fs_nil))) rfl rfl rfl) ?_
   refine ot rfl rfl (t_alloc Tryz.zeroValue24) ?_
   rintro _ _ ⟨b36, rfl, rfl⟩
   refine ot rfl rfl (t_store 5 Tryz.sizeOf24 rfl rfl rfl rfl (by simp [Value.cells, boxP]) (by simp [Value.cells, Value.oneCell', boxP])) ?_
   rintro _ _ ⟨rfl, rfl⟩
   refine ops_turn (retell 5 (g := box b36 [.int .i64 x_11, .slice none 0 0, .bool (a_0.Done || b_1.Done)]) rfl rfl) ?_
   refine ops_nil ?_
   refine goes_code ?_
   obtain ⟨o39, h, ho40⟩ := bindJ_some h
   refine run_cut (((List S_api_Segment)) × (Value)) (fun σ => [(2, .int .i64 window_2), (6, boxP b3 0), (7, boxP b7 0), (9, boxP b36 0)]) (fun σ => [box b3 [.int .i64 0, .slice none 0 0, .bool false, .int .i64 0], box b7 [.int .i64 x_11, v17, .bool x_13], ro v17 20 (x_12.map S_api_Segment.enc), box b36 [.int .i64 x_11, σ.2, .bool (a_0.Done || b_1.Done)], row σ.2 20 (σ.1.map S_api_Segment.enc)]) (fun σ => o39 = .go σ.1) (fun L42 hL41 => ?_) ?_
   ·
    refine run_seq ?_
    refine run_drawany [box b3 [.int .i64 0, .slice none 0 0, .bool false, .int .i64 0], box b7 [.int .i64 x_11, v17, .bool x_13], ro v17 20 (x_12.map S_api_Segment.enc), box b9 [.int .i64 x_14, v18, .bool x_16], ro v18 20 (x_15.map S_api_Segment.enc), box b36 [.int .i64 x_11, .slice none 0 0, .bool (a_0.Done || b_1.Done)]] (by kernel_rfl) ?_
    refine any_y 0 rfl (by kernel_rfl) (by kernel_rfl) (by kernel_rfl) (ss (ss (ss (ss (ss (ss (sn))))))) (wn rfl) rfl (y_fieldAddr_box (sz := 0) Tryz.runUnderlying24 rfl Tryz.sizeOf22 rfl) ?_
    refine any_y 1 rfl (by kernel_rfl) (by kernel_rfl) (by kernel_rfl) (ss (ss (ss (ss (ss (ss (sn))))))) (wn rfl) rfl (y_load_box 3 Tryz.isAgg22 rfl rfl rfl) ?_
    refine any_y 2 rfl (by kernel_rfl) (by kernel_rfl) (by kernel_rfl) (ss (ss (ss (ss (ss (ss (sn))))))) (wn rfl) rfl ((y_len 4 rfl Tryz.runUnderlying22 rfl rfl reads_ro).to (v_len S_api_Segment.enc _)) ?_
    refine any_y 3 rfl (by kernel_rfl) (by kernel_rfl) (by kernel_rfl) (ss (ss (ss (ss (ss (ss (sn))))))) (wn rfl) rfl (y_gtr rfl rfl) ?_
    refine any_y 4 rfl (by kernel_rfl) (by kernel_rfl) (by kernel_rfl) (ss (ss (ss (ss (ss (ss (sn))))))) (wn rfl) rfl (y_move rfl) ?_
    refine any_cut #[true, true, true, true, true, true, true, true, true, true, false, false, false, false, false, false, false] 7 Bool (fun σ => [(2, .int .i64 window_2), (6, boxP b3 0), (7, boxP b7 0), (8, boxP b9 0), (9, boxP b36 0), (46, .bool σ)]) (fun σ => [box b3 [.int .i64 0, .slice none 0 0, .bool false, .int .i64 0], box b7 [.int .i64 x_11, v17, .bool x_13], ro v17 20 (x_12.map S_api_Segment.enc), box b9 [.int .i64 x_14, v18, .bool x_16], ro v18 20 (x_15.map S_api_Segment.enc), box b36 [.int .i64 x_11, .slice none 0 0, .bool (a_0.Done || b_1.Done)]]) (fun σ => σ = (decide (0 < (x_15.length : Int)) && decide (0 < (x_12.length : Int)))) (fun hL44 => ?_) ?_
    ·refine any_split 41 (decide (0 < (x_15.length : Int))) rfl (fun hg45 => ?_) (fun hg45 => ?_)
     ·skip
      refine any_y 5 rfl (by kernel_rfl) (by kernel_rfl) (by kernel_rfl) (ss (ss (ss (ss (ss (ss (sn))))))) (wg 4 true 41 rfl rfl rfl rfl) rfl (y_fieldAddr_box (sz := 0) Tryz.runUnderlying24 rfl Tryz.sizeOf22 rfl) ?_
      refine any_y 6 rfl (by kernel_rfl) (by kernel_rfl) (by kernel_rfl) (ss (ss (ss (ss (ss (ss (sn))))))) (wg 4 true 41 rfl rfl rfl rfl) rfl (y_load_box 1 Tryz.isAgg22 rfl rfl rfl) ?_
      refine any_y 7 rfl (by kernel_rfl) (by kernel_rfl) (by kernel_rfl) (ss (ss (ss (ss (ss (ss (sn))))))) (wg 4 true 41 rfl rfl rfl rfl) rfl ((y_len 2 rfl Tryz.runUnderlying22 rfl rfl reads_ro).to (v_len S_api_Segment.enc _)) ?_
      refine any_y 8 rfl (by kernel_rfl) (by kernel_rfl) (by kernel_rfl) (ss (ss (ss (ss (ss (ss (sn))))))) (wg 4 true 41 rfl rfl rfl rfl) rfl (y_gtr rfl rfl) ?_
      refine any_y 9 rfl (by kernel_rfl) (by kernel_rfl) (by kernel_rfl) (ss (ss (ss (ss (ss (ss (sn))))))) (wn rfl) rfl (y_pick (b := true) rfl rfl) ?_
      exact any_weak [(2, .int .i64 window_2), (6, boxP b3 0), (7, boxP b7 0), (8, boxP b9 0), (9, boxP b36 0), (46, .bool (decide (0 < (x_12.length : Int))))] [0, 1, 2, 3, 4, 5] [box b3 [.int .i64 0, .slice none 0 0, .bool false, .int .i64 0], box b7 [.int .i64 x_11, v17, .bool x_13], ro v17 20 (x_12.map S_api_Segment.enc), box b9 [.int .i64 x_14, v18, .bool x_16], ro v18 20 (x_15.map S_api_Segment.enc), box b36 [.int .i64 x_11, .slice none 0 0, .bool (a_0.Done || b_1.Done)]] (by kernel_rfl) (qv6 rfl rfl rfl rfl rfl rfl) (by decide) rfl (hL44 (decide (0 < (x_12.length : Int))) (by rw [hg45]; simp))
     ·skip
      refine any_no 5 rfl (by kernel_rfl) (by kernel_rfl) (by kernel_rfl) (ss (ss (ss (ss (ss (ss (sn))))))) 4 true 41 rfl rfl rfl rfl rfl ?_
      refine any_no 6 rfl (by kernel_rfl) (by kernel_rfl) (by kernel_rfl) (ss (ss (ss (ss (ss (ss (sn))))))) 4 true 41 rfl rfl rfl rfl rfl ?_
      refine any_no 7 rfl (by kernel_rfl) (by kernel_rfl) (by kernel_rfl) (ss (ss (ss (ss (ss (ss (sn))))))) 4 true 41 rfl rfl rfl rfl rfl ?_
      refine any_no 8 rfl (by kernel_rfl) (by kernel_rfl) (by kernel_rfl) (ss (ss (ss (ss (ss (ss (sn))))))) 4 true 41 rfl rfl rfl rfl rfl ?_
      refine any_y 9 rfl (by kernel_rfl) (by kernel_rfl) (by kernel_rfl) (ss (ss (ss (ss (ss (ss (sn))))))) (wn rfl) rfl (y_pick (b := false) rfl rfl) ?_
      exact any_weak [(2, .int .i64 window_2), (6, boxP b3 0), (7, boxP b7 0), (8, boxP b9 0), (9, boxP b36 0), (46, .bool false)] [0, 1, 2, 3, 4, 5] [box b3 [.int .i64 0, .slice none 0 0, .bool false, .int .i64 0], box b7 [.int .i64 x_11, v17, .bool x_13], ro v17 20 (x_12.map S_api_Segment.enc), box b9 [.int .i64 x_14, v18, .bool x_16], ro v18 20 (x_15.map S_api_Segment.enc), box b36 [.int .i64 x_11, .slice none 0 0, .bool (a_0.Done || b_1.Done)]] (by kernel_rfl) (qv6 rfl rfl rfl rfl rfl rfl) (by decide) rfl (hL44 false (by rw [hg45]; simp))
    rintro _ rfl
    refine any_y 10 rfl (by kernel_rfl) (by kernel_rfl) (by kernel_rfl) (ss (ss (ss (ss (ss (ss (sn))))))) (wn rfl) rfl (y_move rfl) ?_
    obtain ⟨o47, h, ho48⟩ := bindJ_some h
    refine any_cut #[true, true, true, true, true, true, true, true, true, true, true, true, true, true, true, true, true] 0 Bool (fun σ => [(2, .int .i64 window_2), (6, boxP b3 0), (7, boxP b7 0), (8, boxP b9 0), (9, boxP b36 0), (53, .bool σ)]) (fun σ => [box b3 [.int .i64 0, .slice none 0 0, .bool false, .int .i64 0], box b7 [.int .i64 x_11, v17, .bool x_13], ro v17 20 (x_12.map S_api_Segment.enc), box b9 [.int .i64 x_14, v18, .bool x_16], ro v18 20 (x_15.map S_api_Segment.enc), box b36 [.int .i64 x_11, .slice none 0 0, .bool (a_0.Done || b_1.Done)]]) (fun σ => o47 = .go σ) (fun hL50 => ?_) ?_
    ·refine any_split 47 (decide (0 < (x_15.length : Int)) && decide (0 < (x_12.length : Int))) rfl (fun hg51 => ?_) (fun hg51 => ?_)
     ·replace h := cond_t h hg51
      refine any_y 11 rfl (by kernel_rfl) (by kernel_rfl) (by kernel_rfl) (ss (ss (ss (ss (ss (ss (sn))))))) (wg 10 true 47 rfl rfl rfl rfl) rfl (y_load_boxagg (c := [.int .i64 x_14, v18, .bool x_16]) 3 Tryz.isAgg24 Tryz.sizeOf24 rfl rfl rfl) ?_
      refine any_y 13 rfl (by kernel_rfl) (by kernel_rfl) (by kernel_rfl) (ss (ss (ss (ss (ss (ss (sn))))))) (wg 10 true 47 rfl rfl rfl rfl) rfl (y_fieldAddr_box (sz := 0) Tryz.runUnderlying24 rfl Tryz.sizeOf3 rfl) ?_
      refine any_y 14 rfl (by kernel_rfl) (by kernel_rfl) (by kernel_rfl) (ss (ss (ss (ss (ss (ss (sn))))))) (wg 10 true 47 rfl rfl rfl rfl) rfl (y_load_box 1 Tryz.isAgg3 rfl rfl rfl) ?_
      refine any_all [12] (by kernel_rfl) rfl (anyo_cons ?_ anyo_nil)
      obtain ⟨r52, hr53, h⟩ := obind_some h
      refine any_t rfl (wg 10 true 47 rfl rfl rfl rfl) rfl (t_callx (vs := [.agg #[.int .i64 x_14, v18, .bool x_16]]) (cs := []) [(4, 0)] rfl Tryz.call28 rfl (ref43_Next_ok (S_api_Playlist.mk x_14 x_15 x_16) v18 hr53) (showsX_view 4 rfl views_ro showsX_nil) rfl (.inl rfl)) ?_
      rintro _ _ ⟨_, ⟨rfl, rfl⟩, rfl⟩
      refine ⟨(ss (ss (ss (ss (ss (ss (sn))))))), ?_⟩
      refine any_y 15 rfl (by kernel_rfl) (by kernel_rfl) (by kernel_rfl) (ss (ss (ss (ss (ss (ss (sn))))))) (wg 10 true 47 rfl rfl rfl rfl) rfl (y_geq rfl rfl) ?_
      refine any_y 16 rfl (by kernel_rfl) (by kernel_rfl) (by kernel_rfl) (ss (ss (ss (ss (ss (ss (sn))))))) (wn rfl) rfl (y_pick (b := true) rfl rfl) ?_
      obtain rfl := some_eq h
      exact any_weak [(2, .int .i64 window_2), (6, boxP b3 0), (7, boxP b7 0), (8, boxP b9 0), (9, boxP b36 0), (53, .bool (decide (x_11 ≤ r52)))] [0, 1, 2, 3, 4, 5] [box b3 [.int .i64 0, .slice none 0 0, .bool false, .int .i64 0], box b7 [.int .i64 x_11, v17, .bool x_13], ro v17 20 (x_12.map S_api_Segment.enc), box b9 [.int .i64 x_14, v18, .bool x_16], ro v18 20 (x_15.map S_api_Segment.enc), box b36 [.int .i64 x_11, .slice none 0 0, .bool (a_0.Done || b_1.Done)]] (by kernel_rfl) (qv6 rfl rfl rfl rfl rfl rfl) (by decide) rfl (hL50 (decide (x_11 ≤ r52)) rfl)
     ·replace h := cond_f h hg51
      refine any_no 11 rfl (by kernel_rfl) (by kernel_rfl) (by kernel_rfl) (ss (ss (ss (ss (ss (ss (sn))))))) 10 true 47 rfl rfl rfl rfl rfl ?_
      refine any_no 13 rfl (by kernel_rfl) (by kernel_rfl) (by kernel_rfl) (ss (ss (ss (ss (ss (ss (sn))))))) 10 true 47 rfl rfl rfl rfl rfl ?_
      refine any_no 14 rfl (by kernel_rfl) (by kernel_rfl) (by kernel_rfl) (ss (ss (ss (ss (ss (ss (sn))))))) 10 true 47 rfl rfl rfl rfl rfl ?_
      refine any_no 12 rfl (by kernel_rfl) (by kernel_rfl) (by kernel_rfl) (ss (ss (ss (ss (ss (ss (sn))))))) 10 true 47 rfl rfl rfl rfl rfl ?_
      refine any_no 15 rfl (by kernel_rfl) (by kernel_rfl) (by kernel_rfl) (ss (ss (ss (ss (ss (ss (sn))))))) 10 true 47 rfl rfl rfl rfl rfl ?_
      refine any_y 16 rfl (by kernel_rfl) (by kernel_rfl) (by kernel_rfl) (ss (ss (ss (ss (ss (ss (sn))))))) (wn rfl) rfl (y_pick (b := false) rfl rfl) ?_
      obtain rfl := some_eq h
      exact any_weak [(2, .int .i64 window_2), (6, boxP b3 0), (7, boxP b7 0), (8, boxP b9 0), (9, boxP b36 0), (53, .bool false)] [0, 1, 2, 3, 4, 5] [box b3 [.int .i64 0, .slice none 0 0, .bool false, .int .i64 0], box b7 [.int .i64 x_11, v17, .bool x_13], ro v17 20 (x_12.map S_api_Segment.enc), box b9 [.int .i64 x_14, v18, .bool x_16], ro v18 20 (x_15.map S_api_Segment.enc), box b36 [.int .i64 x_11, .slice none 0 0, .bool (a_0.Done || b_1.Done)]] (by kernel_rfl) (qv6 rfl rfl rfl rfl rfl rfl) (by decide) rfl (hL50 false rfl)
    rintro b46 hj
    obtain rfl : o47 = _ := hj
    replace h := after_go ho48
    clear ho48
    refine any_nil (by kernel_rfl) ?_
    refine goes_code ?_
    refine run_cond b46 rfl (fun hc54 => ?_) (fun hc54 => ?_)
    ·replace h := cond_t h hc54
     refine run_seq ?_
     refine run_region' ?_
     refine oy rfl rfl (y_assign rfl) ?_
     refine ops_nil ?_
     refine goes_code ?_
     refine run_block ?_
     refine run_turn (nilrow 20) ?_
     refine run_turn (retell 6 (g := row (.slice none 0 0) 20 (([] : List S_api_Segment).map S_api_Segment.enc)) rfl rfl) ?_
     refine run_iter (step := ref43_Merge_L1 x_11 x_15) (n := n) (s0 := (0, ([] : List S_api_Segment))) h (G := Value) (.slice none 0 0) (fun σ γ => [(10, .int .i64 σ.1), (2, .int .i64 window_2), (6, boxP b3 0), (7, boxP b7 0), (8, boxP b9 0), (9, boxP b36 0)]) (fun σ γ => [box b3 [.int .i64 0, .slice none 0 0, .bool false, .int .i64 0], box b7 [.int .i64 x_11, v17, .bool x_13], ro v17 20 (x_12.map S_api_Segment.enc), box b9 [.int .i64 x_14, v18, .bool x_16], ro v18 20 (x_15.map S_api_Segment.enc), box b36 [.int .i64 x_11, γ, .bool (a_0.Done || b_1.Done)], row γ 20 (σ.2.map S_api_Segment.enc)]) [0, 1, 2, 3, 4, 5, 6] (qv6 rfl rfl rfl rfl rfl rfl) (by decide) rfl ?_
     rintro ⟨i_55, x_56⟩ v57 o58 h L61 hgo59 hstop60
     change Run _ _ _ (VF.of [(10, .int .i64 i_55), (2, .int .i64 window_2), (6, boxP b3 0), (7, boxP b7 0), (8, boxP b9 0), (9, boxP b36 0)]) [box b3 [.int .i64 0, .slice none 0 0, .bool false, .int .i64 0], box b7 [.int .i64 x_11, v17, .bool x_13], ro v17 20 (x_12.map S_api_Segment.enc), box b9 [.int .i64 x_14, v18, .bool x_16], ro v18 20 (x_15.map S_api_Segment.enc), box b36 [.int .i64 x_11, v57, .bool (a_0.Done || b_1.Done)], row v57 20 (x_56.map S_api_Segment.enc)]
     refine run_seq ?_
     refine run_seq ?_
     refine run_region' ?_
     refine oy rfl rfl (y_move rfl) ?_
     refine oy rfl rfl (y_fieldAddr_box (sz := 0) Tryz.runUnderlying24 rfl Tryz.sizeOf22 rfl) ?_
     refine oy rfl rfl (y_load_box 3 Tryz.isAgg22 rfl rfl rfl) ?_
     refine oy rfl rfl ((y_len 4 rfl Tryz.runUnderlying22 rfl rfl reads_ro).to (v_len S_api_Segment.enc _)) ?_
     refine oy rfl rfl (y_lss rfl rfl) ?_
     refine ops_nil ?_
     refine goes_code ?_
     refine run_cond (decide (i_55 < (x_15.length : Int))) rfl (fun hc62 => ?_) (fun hc62 => ?_)
     ·replace h := cond_t h hc62
      refine run_skip ?_
      refine goes_code ?_
      obtain ⟨o65, h, ho66⟩ := bindJ_some h
      refine run_cut (((List S_api_Segment)) × (Value)) (fun σ => [(2, .int .i64 window_2), (6, boxP b3 0), (7, boxP b7 0), (8, boxP b9 0), (9, boxP b36 0), (10, .int .i64 i_55)]) (fun σ => [box b3 [.int .i64 0, .slice none 0 0, .bool false, .int .i64 0], box b7 [.int .i64 x_11, v17, .bool x_13], ro v17 20 (x_12.map S_api_Segment.enc), box b9 [.int .i64 x_14, v18, .bool x_16], ro v18 20 (x_15.map S_api_Segment.enc), box b36 [.int .i64 x_11, σ.2, .bool (a_0.Done || b_1.Done)], row σ.2 20 (σ.1.map S_api_Segment.enc)]) (fun σ => o65 = .go σ.1) (fun L68 hL67 => ?_) ?_
      ·
       refine run_block ?_
       refine run_seq ?_
       refine run_draw (by kernel_rfl) (by kernel_rfl) ?_
       refine sy rfl rfl (y_fieldAddr_box (sz := 0) Tryz.runUnderlying24 rfl Tryz.sizeOf22 rfl) ?_
       refine sy rfl rfl (y_load_box 3 Tryz.isAgg22 rfl rfl rfl) ?_
       refine sy rfl rfl (y_move rfl) ?_
       obtain ⟨x69, hzx69, hlx69, hxx69, h⟩ := idx_some h
       refine sy rfl rfl (y_indexAddrI (kd := .i64) (i := i_55) 4 Tryz.runUnderlying22 Tryz.sizeOf57 rfl rfl rfl reads_ro hzx69 (map_lt hlx69)) ?_
       refine sy rfl rfl (y_fieldAddr_elem (sz := 0) Tryz.runUnderlying57 rfl Tryz.sizeOf3 rfl) ?_
       refine sy rfl rfl (y_load_field (i := i_55.toNat) (j := 0) 4 Tryz.isAgg3 rfl rfl reads_ro (map_get hxx69) rfl) ?_
       refine sy rfl rfl (y_fieldAddr_box (sz := 0) Tryz.runUnderlying24 rfl Tryz.sizeOf3 rfl) ?_
       refine sy rfl rfl (y_load_box 1 Tryz.isAgg3 rfl rfl rfl) ?_
       refine sy rfl rfl (y_lss rfl rfl) ?_
       refine still_nil ?_
       refine goes_code ?_
       refine run_cond (decide (x69.Num < x_11)) rfl (fun hc70 => ?_) (fun hc70 => ?_)
       ·replace h := cond_t h hc70
        refine run_weak [(10, .int .i64 i_55), (2, .int .i64 window_2), (6, boxP b3 0), (7, boxP b7 0), (8, boxP b9 0), (9, boxP b36 0)] [0, 1, 2, 3, 4, 5, 6] [box b3 [.int .i64 0, .slice none 0 0, .bool false, .int .i64 0], box b7 [.int .i64 x_11, v17, .bool x_13], ro v17 20 (x_12.map S_api_Segment.enc), box b9 [.int .i64 x_14, v18, .bool x_16], ro v18 20 (x_15.map S_api_Segment.enc), box b36 [.int .i64 x_11, v57, .bool (a_0.Done || b_1.Done)], row v57 20 (x_56.map S_api_Segment.enc)] (qv6 rfl rfl rfl rfl rfl rfl) (by decide) rfl ?_
        obtain ⟨hr73, h⟩ := need_some h
        refine run_drawany [box b3 [.int .i64 0, .slice none 0 0, .bool false, .int .i64 0], box b7 [.int .i64 x_11, v17, .bool x_13], ro v17 20 (x_12.map S_api_Segment.enc), box b9 [.int .i64 x_14, v18, .bool x_16], ro v18 20 (x_15.map S_api_Segment.enc), HA.emp, HA.emp] (by kernel_rfl) ?_
        refine any_y 0 rfl (by kernel_rfl) (by kernel_rfl) (by kernel_rfl) (ss (ss (ss (ss (ss (se (se (sn)))))))) (wn rfl) rfl (y_fieldAddr_box (sz := 0) Tryz.runUnderlying24 rfl Tryz.sizeOf22 rfl) ?_
        refine any_y 2 rfl (by kernel_rfl) (by kernel_rfl) (by kernel_rfl) (ss (ss (ss (ss (ss (se (se (sn)))))))) (wn rfl) rfl (y_fieldAddr_box (sz := 0) Tryz.runUnderlying24 rfl Tryz.sizeOf22 rfl) ?_
        refine any_y 3 rfl (by kernel_rfl) (by kernel_rfl) (by kernel_rfl) (ss (ss (ss (ss (ss (se (se (sn)))))))) (wn rfl) rfl (y_load_box 3 Tryz.isAgg22 rfl rfl rfl) ?_
        refine any_y 4 rfl (by kernel_rfl) (by kernel_rfl) (by kernel_rfl) (ss (ss (ss (ss (ss (se (se (sn)))))))) (wn rfl) rfl (y_move rfl) ?_
        refine any_y 5 rfl (by kernel_rfl) (by kernel_rfl) (by kernel_rfl) (ss (ss (ss (ss (ss (se (se (sn)))))))) (wn rfl) rfl (y_indexAddrI (kd := .i64) (i := i_55) 4 Tryz.runUnderlying22 Tryz.sizeOf57 rfl rfl rfl reads_ro hzx69 (map_lt hlx69)) ?_
        refine any_y 6 rfl (by kernel_rfl) (by kernel_rfl) (by kernel_rfl) (ss (ss (ss (ss (ss (se (se (sn)))))))) (wn rfl) rfl (y_load_agg (i := i_55.toNat) (c := [.int .i64 x69.Num, .int .i64 x69.Begin, .int .i64 x69.Len, .int .u8 x69.Body.a0_, .int .u8 x69.Body.a1_, .int .u8 x69.Body.a2_, .int .u8 x69.Body.a3_, .int .u8 x69.Body.a4_, .int .u8 x69.Body.a5_, .int .u8 x69.Body.a6_, .int .u8 x69.Body.a7_, .int .u8 x69.Body.a8_, .int .u8 x69.Body.a9_, .int .u8 x69.Body.a10_, .int .u8 x69.Body.a11_, .int .u8 x69.Body.a12_, .int .u8 x69.Body.a13_, .int .u8 x69.Body.a14_, .int .u8 x69.Body.a15_, .int .i64 x69.Size]) 4 Tryz.isAgg57 Tryz.sizeOf57 rfl rfl reads_ro (map_get hxx69)) ?_
        refine any_cut2 #[true, true, true, true, true, true, true, true, true, true, true] 0 (Value × Value) (fun σ => [(10, .int .i64 i_55), (2, .int .i64 window_2), (6, boxP b3 0), (7, boxP b7 0), (8, boxP b9 0), (9, boxP b36 0)]) (fun σ => [box b3 [.int .i64 0, .slice none 0 0, .bool false, .int .i64 0], box b7 [.int .i64 x_11, v17, .bool x_13], ro v17 20 (x_12.map S_api_Segment.enc), box b9 [.int .i64 x_14, v18, .bool x_16], ro v18 20 (x_15.map S_api_Segment.enc), box b36 [.int .i64 x_11, σ.1, .bool (a_0.Done || b_1.Done)], row σ.1 20 ((x_56 ++ ([x69] : List S_api_Segment)).map S_api_Segment.enc), row σ.2 20 (([x69] : List S_api_Segment).map S_api_Segment.enc)]) ?_ (fun hK79 => ?_)
        ·rintro ⟨v77, v76⟩
         change AnyL _ _ _ _ _ (VF.of [(10, .int .i64 i_55), (2, .int .i64 window_2), (6, boxP b3 0), (7, boxP b7 0), (8, boxP b9 0), (9, boxP b36 0)]) [box b3 [.int .i64 0, .slice none 0 0, .bool false, .int .i64 0], box b7 [.int .i64 x_11, v17, .bool x_13], ro v17 20 (x_12.map S_api_Segment.enc), box b9 [.int .i64 x_14, v18, .bool x_16], ro v18 20 (x_15.map S_api_Segment.enc), box b36 [.int .i64 x_11, v77, .bool (a_0.Done || b_1.Done)], row v77 20 ((x_56 ++ ([x69] : List S_api_Segment)).map S_api_Segment.enc), row v76 20 (([x69] : List S_api_Segment).map S_api_Segment.enc)] _
         refine any_nil (by kernel_rfl) ?_
         refine goes_blk ?_
         obtain rfl := some_eq h
         exact goes_cut hL67 ((x_56 ++ ([x69] : List S_api_Segment)), v77) [0, 1, 2, 3, 4, 5, 6] (qv6 rfl rfl rfl rfl rfl rfl) (by decide) rfl rfl
        refine any_cut2 #[true, true, true, true, true, true, true, true, true, true, false] 1 (Value × Value) (fun σ => [(10, .int .i64 i_55), (2, .int .i64 window_2), (6, boxP b3 0), (7, boxP b7 0), (8, boxP b9 0), (9, boxP b36 0), (78, σ.1), (79, boxP b36 1)]) (fun σ => [box b3 [.int .i64 0, .slice none 0 0, .bool false, .int .i64 0], box b7 [.int .i64 x_11, v17, .bool x_13], ro v17 20 (x_12.map S_api_Segment.enc), box b9 [.int .i64 x_14, v18, .bool x_16], ro v18 20 (x_15.map S_api_Segment.enc), box b36 [.int .i64 x_11, v57, .bool (a_0.Done || b_1.Done)], row σ.1 20 ((x_56 ++ ([x69] : List S_api_Segment)).map S_api_Segment.enc), row σ.2 20 (([x69] : List S_api_Segment).map S_api_Segment.enc)]) ?_ (fun hK80 => ?_)
        ·rintro ⟨v77, v76⟩
         change AnyL _ _ _ _ _ (VF.of [(10, .int .i64 i_55), (2, .int .i64 window_2), (6, boxP b3 0), (7, boxP b7 0), (8, boxP b9 0), (9, boxP b36 0), (78, v77), (79, boxP b36 1)]) [box b3 [.int .i64 0, .slice none 0 0, .bool false, .int .i64 0], box b7 [.int .i64 x_11, v17, .bool x_13], ro v17 20 (x_12.map S_api_Segment.enc), box b9 [.int .i64 x_14, v18, .bool x_16], ro v18 20 (x_15.map S_api_Segment.enc), box b36 [.int .i64 x_11, v57, .bool (a_0.Done || b_1.Done)], row v77 20 ((x_56 ++ ([x69] : List S_api_Segment)).map S_api_Segment.enc), row v76 20 (([x69] : List S_api_Segment).map S_api_Segment.enc)] _
         refine any_all [10] (by kernel_rfl) rfl ?_
         refine anyo_cons ?_ ?_
         ·
          refine anyo_slc 6 rfl reads_row (fun hs81 hs81o => ?_)
          refine any_t rfl (wn rfl) rfl (t_store 5 Tryz.sizeOf22 rfl rfl rfl (by rw [hs81]; rfl) (by simp [Value.cells, boxP]) (by rw [hs81]; exact allL_cons hs81o (allL_nil))) ?_
          rintro _ _ ⟨rfl, rfl⟩
          refine ⟨(ss (ss (ss (ss (ss (se (se (sn)))))))), ?_⟩
          refine any_turn (retell 5 (g := box b36 [.int .i64 x_11, v77, .bool (a_0.Done || b_1.Done)]) rfl (by rw [hs81]; rfl)) ?_
          exact any_weak2 (hK79 (v77, v76)) [0, 1, 2, 3, 4, 5, 6, 7] (by kernel_rfl) (qv6 rfl rfl rfl rfl rfl rfl) (by decide) rfl
         exact anyo_nil
        refine any_cut2 #[true, true, true, true, true, true, true, true, false, false, false] 3 (Value) (fun σ => [(10, .int .i64 i_55), (2, .int .i64 window_2), (6, boxP b3 0), (7, boxP b7 0), (8, boxP b9 0), (9, boxP b36 0), (71, v57), (77, σ)]) (fun σ => [box b3 [.int .i64 0, .slice none 0 0, .bool false, .int .i64 0], box b7 [.int .i64 x_11, v17, .bool x_13], ro v17 20 (x_12.map S_api_Segment.enc), box b9 [.int .i64 x_14, v18, .bool x_16], ro v18 20 (x_15.map S_api_Segment.enc), box b36 [.int .i64 x_11, v57, .bool (a_0.Done || b_1.Done)], row v57 20 (x_56.map S_api_Segment.enc), row σ 20 (([x69] : List S_api_Segment).map S_api_Segment.enc)]) ?_ (fun hK82 => ?_)
        ·rintro v76
         change AnyL _ _ _ _ _ (VF.of [(10, .int .i64 i_55), (2, .int .i64 window_2), (6, boxP b3 0), (7, boxP b7 0), (8, boxP b9 0), (9, boxP b36 0), (71, v57), (77, v76)]) [box b3 [.int .i64 0, .slice none 0 0, .bool false, .int .i64 0], box b7 [.int .i64 x_11, v17, .bool x_13], ro v17 20 (x_12.map S_api_Segment.enc), box b9 [.int .i64 x_14, v18, .bool x_16], ro v18 20 (x_15.map S_api_Segment.enc), box b36 [.int .i64 x_11, v57, .bool (a_0.Done || b_1.Done)], row v57 20 (x_56.map S_api_Segment.enc), row v76 20 (([x69] : List S_api_Segment).map S_api_Segment.enc)] _
         refine any_all [8] (by kernel_rfl) rfl ?_
         refine anyo_cons ?_ ?_
         ·
          refine any_t rfl (wn rfl) rfl (t_append (es := 20) 6 rfl Tryz.runUnderlying22 rfl Tryz.runUnderlying22 (.inr ⟨_, rfl⟩) Tryz.typeInfo57 rfl (by decide) Tryz.zeroValue57 rfl rfl rfl rfl (src_reads 7 rfl reads_row (map_ok S_api_Segment.enc_ok _)) (map_room hr73 (by decide)) (map_fit hr73)) ?_
          rintro v83 _ rfl
          refine ⟨(ss (ss (ss (ss (ss (se (se (sn)))))))), ?_⟩
          refine any_turn (retell 6 (g := row v83 20 ((x_56 ++ ([x69] : List S_api_Segment)).map S_api_Segment.enc)) rfl (congrArg (row _ _) List.map_append.symm)) ?_
          refine any_y 9 rfl (by kernel_rfl) (by kernel_rfl) (by kernel_rfl) (ss (ss (ss (ss (ss (se (se (sn)))))))) (wn rfl) rfl (y_fieldAddr_box (sz := 0) Tryz.runUnderlying24 rfl Tryz.sizeOf22 rfl) ?_
          exact any_weak2 (hK80 (v83, v76)) [0, 1, 2, 3, 4, 5, 6, 7] (by kernel_rfl) (qv8 rfl rfl rfl rfl rfl rfl rfl rfl) (by decide) rfl
         exact anyo_nil
        refine any_cut2 #[true, true, true, true, true, true, true, false, false, false, false] 4 (Unit) (fun σ => [(10, .int .i64 i_55), (2, .int .i64 window_2), (6, boxP b3 0), (7, boxP b7 0), (8, boxP b9 0), (9, boxP b36 0), (76, .agg #[.int .i64 x69.Num, .int .i64 x69.Begin, .int .i64 x69.Len, .int .u8 x69.Body.a0_, .int .u8 x69.Body.a1_, .int .u8 x69.Body.a2_, .int .u8 x69.Body.a3_, .int .u8 x69.Body.a4_, .int .u8 x69.Body.a5_, .int .u8 x69.Body.a6_, .int .u8 x69.Body.a7_, .int .u8 x69.Body.a8_, .int .u8 x69.Body.a9_, .int .u8 x69.Body.a10_, .int .u8 x69.Body.a11_, .int .u8 x69.Body.a12_, .int .u8 x69.Body.a13_, .int .u8 x69.Body.a14_, .int .u8 x69.Body.a15_, .int .i64 x69.Size]), (71, v57)]) (fun σ => [box b3 [.int .i64 0, .slice none 0 0, .bool false, .int .i64 0], box b7 [.int .i64 x_11, v17, .bool x_13], ro v17 20 (x_12.map S_api_Segment.enc), box b9 [.int .i64 x_14, v18, .bool x_16], ro v18 20 (x_15.map S_api_Segment.enc), box b36 [.int .i64 x_11, v57, .bool (a_0.Done || b_1.Done)], row v57 20 (x_56.map S_api_Segment.enc)]) ?_ (fun hK84 => ?_)
        ·rintro _
         change AnyL _ _ _ _ _ (VF.of [(10, .int .i64 i_55), (2, .int .i64 window_2), (6, boxP b3 0), (7, boxP b7 0), (8, boxP b9 0), (9, boxP b36 0), (76, .agg #[.int .i64 x69.Num, .int .i64 x69.Begin, .int .i64 x69.Len, .int .u8 x69.Body.a0_, .int .u8 x69.Body.a1_, .int .u8 x69.Body.a2_, .int .u8 x69.Body.a3_, .int .u8 x69.Body.a4_, .int .u8 x69.Body.a5_, .int .u8 x69.Body.a6_, .int .u8 x69.Body.a7_, .int .u8 x69.Body.a8_, .int .u8 x69.Body.a9_, .int .u8 x69.Body.a10_, .int .u8 x69.Body.a11_, .int .u8 x69.Body.a12_, .int .u8 x69.Body.a13_, .int .u8 x69.Body.a14_, .int .u8 x69.Body.a15_, .int .i64 x69.Size]), (71, v57)]) [box b3 [.int .i64 0, .slice none 0 0, .bool false, .int .i64 0], box b7 [.int .i64 x_11, v17, .bool x_13], ro v17 20 (x_12.map S_api_Segment.enc), box b9 [.int .i64 x_14, v18, .bool x_16], ro v18 20 (x_15.map S_api_Segment.enc), box b36 [.int .i64 x_11, v57, .bool (a_0.Done || b_1.Done)], row v57 20 (x_56.map S_api_Segment.enc)] _
         refine any_all [7] (by kernel_rfl) rfl ?_
         refine anyo_cons ?_ ?_
         ·
          refine any_t rfl (wn rfl) rfl (t_lit [.agg #[.int .i64 x69.Num, .int .i64 x69.Begin, .int .i64 x69.Len, .int .u8 x69.Body.a0_, .int .u8 x69.Body.a1_, .int .u8 x69.Body.a2_, .int .u8 x69.Body.a3_, .int .u8 x69.Body.a4_, .int .u8 x69.Body.a5_, .int .u8 x69.Body.a6_, .int .u8 x69.Body.a7_, .int .u8 x69.Body.a8_, .int .u8 x69.Body.a9_, .int .u8 x69.Body.a10_, .int .u8 x69.Body.a11_, .int .u8 x69.Body.a12_, .int .u8 x69.Body.a13_, .int .u8 x69.Body.a14_, .int .u8 x69.Body.a15_, .int .i64 x69.Size]] Tryz.runUnderlying22 Tryz.sizeOf57 Tryz.zeroValue57 rfl (by decide) (by decide) rfl (by simp [Value.cells, boxP])) ?_
          rintro v85 _ ⟨rfl, _⟩
          refine ⟨(ss (ss (ss (ss (ss (se (se (sn)))))))), ?_⟩
          refine any_turn (retell 7 (g := row v85 20 (([x69] : List S_api_Segment).map S_api_Segment.enc)) rfl rfl) ?_
          exact any_weak2 (hK82 v85) [0, 1, 2, 3, 4, 5, 6, 7] (by kernel_rfl) (qv8 rfl rfl rfl rfl rfl rfl rfl rfl) (by decide) rfl
         exact anyo_nil
        refine any_cut2 #[true, false, true, true, true, true, true, true, false, false, false] 4 (Value) (fun σ => [(10, .int .i64 i_55), (2, .int .i64 window_2), (6, boxP b3 0), (7, boxP b7 0), (8, boxP b9 0), (9, boxP b36 0), (70, boxP b36 1), (77, σ)]) (fun σ => [box b3 [.int .i64 0, .slice none 0 0, .bool false, .int .i64 0], box b7 [.int .i64 x_11, v17, .bool x_13], ro v17 20 (x_12.map S_api_Segment.enc), box b9 [.int .i64 x_14, v18, .bool x_16], ro v18 20 (x_15.map S_api_Segment.enc), box b36 [.int .i64 x_11, v57, .bool (a_0.Done || b_1.Done)], row v57 20 (x_56.map S_api_Segment.enc), row σ 20 (([x69] : List S_api_Segment).map S_api_Segment.enc)]) ?_ (fun hK86 => ?_)
        ·rintro v75
         change AnyL _ _ _ _ _ (VF.of [(10, .int .i64 i_55), (2, .int .i64 window_2), (6, boxP b3 0), (7, boxP b7 0), (8, boxP b9 0), (9, boxP b36 0), (70, boxP b36 1), (77, v75)]) [box b3 [.int .i64 0, .slice none 0 0, .bool false, .int .i64 0], box b7 [.int .i64 x_11, v17, .bool x_13], ro v17 20 (x_12.map S_api_Segment.enc), box b9 [.int .i64 x_14, v18, .bool x_16], ro v18 20 (x_15.map S_api_Segment.enc), box b36 [.int .i64 x_11, v57, .bool (a_0.Done || b_1.Done)], row v57 20 (x_56.map S_api_Segment.enc), row v75 20 (([x69] : List S_api_Segment).map S_api_Segment.enc)] _
         refine any_all [1] (by kernel_rfl) rfl ?_
         refine anyo_cons ?_ ?_
         ·
          refine any_ty rfl (wn rfl) rfl (y_load_box 5 Tryz.isAgg22 rfl rfl rfl) ⟨(ss (ss (ss (ss (ss (se (se (sn)))))))), ?_⟩
          exact any_weak2 (hK82 v75) [0, 1, 2, 3, 4, 5, 6, 7] (by kernel_rfl) (qv8 rfl rfl rfl rfl rfl rfl rfl rfl) (by decide) rfl
         exact anyo_nil
        refine any_all [1, 7] (by kernel_rfl) rfl ?_
        refine anyo_cons ?_ ?_
        ·
         refine any_ty rfl (wn rfl) rfl (y_load_box 5 Tryz.isAgg22 rfl rfl rfl) ⟨(ss (ss (ss (ss (ss (se (se (sn)))))))), ?_⟩
         exact any_weak2 (hK84 ()) [0, 1, 2, 3, 4, 5, 6] (by kernel_rfl) (qv8 rfl rfl rfl rfl rfl rfl rfl rfl) (by decide) rfl
        refine anyo_cons ?_ ?_
        ·
         refine any_t rfl (wn rfl) rfl (t_lit [.agg #[.int .i64 x69.Num, .int .i64 x69.Begin, .int .i64 x69.Len, .int .u8 x69.Body.a0_, .int .u8 x69.Body.a1_, .int .u8 x69.Body.a2_, .int .u8 x69.Body.a3_, .int .u8 x69.Body.a4_, .int .u8 x69.Body.a5_, .int .u8 x69.Body.a6_, .int .u8 x69.Body.a7_, .int .u8 x69.Body.a8_, .int .u8 x69.Body.a9_, .int .u8 x69.Body.a10_, .int .u8 x69.Body.a11_, .int .u8 x69.Body.a12_, .int .u8 x69.Body.a13_, .int .u8 x69.Body.a14_, .int .u8 x69.Body.a15_, .int .i64 x69.Size]] Tryz.runUnderlying22 Tryz.sizeOf57 Tryz.zeroValue57 rfl (by decide) (by decide) rfl (by simp [Value.cells, boxP])) ?_
         rintro v87 _ ⟨rfl, _⟩
         refine ⟨(ss (ss (ss (ss (ss (se (se (sn)))))))), ?_⟩
         refine any_turn (retell 7 (g := row v87 20 (([x69] : List S_api_Segment).map S_api_Segment.enc)) rfl rfl) ?_
         exact any_weak2 (hK86 v87) [0, 1, 2, 3, 4, 5, 6, 7] (by kernel_rfl) (qv8 rfl rfl rfl rfl rfl rfl rfl rfl) (by decide) rfl
        exact anyo_nil
       ·replace h := cond_f h hc70
        refine run_skip ?_
        refine goes_blk ?_
        obtain rfl := some_eq h
        exact goes_cut hL67 (x_56, v57) [0, 1, 2, 3, 4, 5, 6] (qv6 rfl rfl rfl rfl rfl rfl) (by decide) rfl rfl
      rintro ⟨x_63, v64⟩ hj
      obtain rfl : o65 = _ := hj
      replace h := after_go ho66
      clear ho66
      change Run _ _ _ (VF.of [(2, .int .i64 window_2), (6, boxP b3 0), (7, boxP b7 0), (8, boxP b9 0), (9, boxP b36 0), (10, .int .i64 i_55)]) [box b3 [.int .i64 0, .slice none 0 0, .bool false, .int .i64 0], box b7 [.int .i64 x_11, v17, .bool x_13], ro v17 20 (x_12.map S_api_Segment.enc), box b9 [.int .i64 x_14, v18, .bool x_16], ro v18 20 (x_15.map S_api_Segment.enc), box b36 [.int .i64 x_11, v64, .bool (a_0.Done || b_1.Done)], row v64 20 (x_63.map S_api_Segment.enc)]
      refine run_region' ?_
      refine oy rfl rfl (y_move rfl) ?_
      refine oy rfl rfl (y_add rfl rfl) ?_
      refine oy rfl rfl (y_assign rfl) ?_
      refine ops_nil ?_
      obtain rfl := some_eq h
      exact goes_iter hgo59 ((IntKind.i64.wrap (i_55 + 1)), x_63) v64 [0, 1, 2, 3, 4, 5, 6] rfl (qv6 rfl rfl rfl rfl rfl rfl) (by decide) rfl
     ·replace h := cond_f h hc62
      refine run_exit _ rfl ?_
      obtain rfl := some_eq h
      obtain rfl := hstop60 _ rfl
      exact goes_cut hL41 (x_56, v57) [0, 1, 2, 5, 6] (qv4 rfl rfl rfl rfl) (by decide) rfl rfl
    ·replace h := cond_f h hc54
     refine run_skip ?_
     refine goes_turn (nilrow 20) ?_
     refine goes_turn (retell 6 (g := row (.slice none 0 0) 20 (([] : List S_api_Segment).map S_api_Segment.enc)) rfl rfl) ?_
     obtain rfl := some_eq h
     exact goes_cut hL41 (([] : List S_api_Segment), (.slice none 0 0)) [0, 1, 2, 5, 6] (qv4 rfl rfl rfl rfl) (by decide) rfl rfl
   rintro ⟨x_37, v38⟩ hj
   obtain rfl : o39 = _ := hj
   replace h := after_go ho40
   clear ho40
   change Run _ _ _ (VF.of [(2, .int .i64 window_2), (6, boxP b3 0), (7, boxP b7 0), (9, boxP b36 0)]) [box b3 [.int .i64 0, .slice none 0 0, .bool false, .int .i64 0], box b7 [.int .i64 x_11, v17, .bool x_13], ro v17 20 (x_12.map S_api_Segment.enc), box b36 [.int .i64 x_11, v38, .bool (a_0.Done || b_1.Done)], row v38 20 (x_37.map S_api_Segment.enc)]
   refine run_seq ?_
   refine run_region' ?_
   refine oy rfl rfl (y_fieldAddr_box (sz := 0) Tryz.runUnderlying24 rfl Tryz.sizeOf22 rfl) ?_
   refine oy rfl rfl (y_load_box 3 Tryz.isAgg22 rfl rfl rfl) ?_
   refine oy rfl rfl (y_fieldAddr_box (sz := 0) Tryz.runUnderlying24 rfl Tryz.sizeOf22 rfl) ?_
   refine oy rfl rfl (y_load_box 1 Tryz.isAgg22 rfl rfl rfl) ?_
   obtain ⟨hr89, h⟩ := need_some h
   refine ot rfl rfl (t_append (es := 20) 4 rfl Tryz.runUnderlying22 rfl Tryz.runUnderlying22 (.inr ⟨_, rfl⟩) Tryz.typeInfo57 rfl (by decide) Tryz.zeroValue57 rfl rfl rfl rfl (src_reads 2 rfl reads_ro (map_ok S_api_Segment.enc_ok _)) (map_room hr89 (by decide)) (map_fit hr89)) ?_
   rintro v88 _ rfl
   refine ops_turn (retell 4 (g := row v88 20 ((x_37 ++ x_12).map S_api_Segment.enc)) rfl (congrArg (row _ _) List.map_append.symm)) ?_
   refine oy rfl rfl (y_fieldAddr_box (sz := 0) Tryz.runUnderlying24 rfl Tryz.sizeOf22 rfl) ?_
   refine ops_slc 4 rfl reads_row (fun hs90 hs90o => ?_)
   refine ot rfl rfl (t_store 3 Tryz.sizeOf22 rfl rfl rfl (by rw [hs90]; rfl) (by simp [Value.cells, boxP]) (by rw [hs90]; exact allL_cons hs90o (allL_nil))) ?_
   rintro _ _ ⟨rfl, rfl⟩
   refine ops_turn (retell 3 (g := box b36 [.int .i64 x_11, v88, .bool (a_0.Done || b_1.Done)]) rfl (by rw [hs90]; rfl)) ?_
   refine ops_nil ?_
   refine goes_code ?_
   obtain ⟨o92, h, ho93⟩ := bindJ_some h
   refine run_cut ((Int) × (Unit)) (fun σ => [(2, .int .i64 window_2), (6, boxP b3 0), (9, boxP b36 0)]) (fun σ => [box b3 [.int .i64 0, .slice none 0 0, .bool false, .int .i64 0], box b36 [.int .i64 σ.1, v88, .bool (a_0.Done || b_1.Done)], row v88 20 ((x_37 ++ x_12).map S_api_Segment.enc)]) (fun σ => o92 = .go σ.1) (fun L95 hL94 => ?_) ?_
   ·
    refine run_seq ?_
    refine run_region' ?_
    refine oy rfl rfl (y_fieldAddr_box (sz := 0) Tryz.runUnderlying24 rfl Tryz.sizeOf22 rfl) ?_
    refine oy rfl rfl (y_load_box 3 Tryz.isAgg22 rfl rfl rfl) ?_
    refine oy rfl rfl ((y_len 4 rfl Tryz.runUnderlying22 rfl rfl reads_row).to (v_len S_api_Segment.enc _)) ?_
    refine oy rfl rfl (y_gtr rfl rfl) ?_
    refine ops_nil ?_
    refine goes_code ?_
    refine run_cond (decide (0 < ((x_37 ++ x_12).length : Int))) rfl (fun hc96 => ?_) (fun hc96 => ?_)
    ·replace h := cond_t h hc96
     refine run_weak [(2, .int .i64 window_2), (6, boxP b3 0), (9, boxP b36 0)] [0, 3, 4] [box b3 [.int .i64 0, .slice none 0 0, .bool false, .int .i64 0], box b36 [.int .i64 x_11, v88, .bool (a_0.Done || b_1.Done)], row v88 20 ((x_37 ++ x_12).map S_api_Segment.enc)] (qv3 rfl rfl rfl) (by decide) rfl ?_
     refine run_region' ?_
     refine oy rfl rfl (y_fieldAddr_box (sz := 0) Tryz.runUnderlying24 rfl Tryz.sizeOf22 rfl) ?_
     refine oy rfl rfl (y_load_box 1 Tryz.isAgg22 rfl rfl rfl) ?_
     obtain ⟨x97, hzx97, hlx97, hxx97, h⟩ := idx_some h
     refine oy rfl rfl (y_indexAddrI (kd := .i64) (i := 0) 2 Tryz.runUnderlying22 Tryz.sizeOf57 rfl rfl rfl reads_row hzx97 (map_lt hlx97)) ?_
     refine oy rfl rfl (y_fieldAddr_elem (sz := 0) Tryz.runUnderlying57 rfl Tryz.sizeOf3 rfl) ?_
     refine oy rfl rfl (y_load_field (i := (0 : Int).toNat) (j := 0) 2 Tryz.isAgg3 rfl rfl reads_row (map_get hxx97) rfl) ?_
     refine oy rfl rfl (y_fieldAddr_box (sz := 0) Tryz.runUnderlying24 rfl Tryz.sizeOf3 rfl) ?_
     refine ot rfl rfl (t_store 1 Tryz.sizeOf3 rfl rfl rfl rfl (by simp [Value.cells, boxP]) (by simp [Value.cells, Value.oneCell', boxP])) ?_
     rintro _ _ ⟨rfl, rfl⟩
     refine ops_turn (retell 1 (g := box b36 [.int .i64 x97.Num, v88, .bool (a_0.Done || b_1.Done)]) rfl rfl) ?_
     refine ops_nil ?_
     obtain rfl := some_eq h
     exact goes_cut hL94 (x97.Num, ()) [0, 1, 2] (qv3 rfl rfl rfl) (by decide) rfl rfl
    ·replace h := cond_f h hc96
     refine run_skip ?_
     obtain rfl := some_eq h
     exact goes_cut hL94 (x_11, ()) [0, 3, 4] (qv3 rfl rfl rfl) (by decide) rfl rfl
   rintro ⟨x_91, _⟩ hj
   obtain rfl : o92 = _ := hj
   replace h := after_go ho93
   clear ho93
   change Run _ _ _ (VF.of [(2, .int .i64 window_2), (6, boxP b3 0), (9, boxP b36 0)]) [box b3 [.int .i64 0, .slice none 0 0, .bool false, .int .i64 0], box b36 [.int .i64 x_91, v88, .bool (a_0.Done || b_1.Done)], row v88 20 ((x_37 ++ x_12).map S_api_Segment.enc)]
   refine run_seq ?_
   refine run_region' ?_
   refine oy rfl rfl (y_load_boxagg (c := [.int .i64 x_91, v88, .bool (a_0.Done || b_1.Done)]) 1 Tryz.isAgg24 Tryz.sizeOf24 rfl rfl rfl) ?_
   refine oy rfl rfl (y_move rfl) ?_
   refine ops_turn (Go.Abs.freeze 2 rfl) ?_
   obtain ⟨r98, hr99, h⟩ := obind_some h
   refine ot rfl rfl (t_callx (vs := [.agg #[.int .i64 x_91, v88, .bool (a_0.Done || b_1.Done)], .int .i64 window_2]) (cs := []) [(2, 0)] rfl Tryz.call44 rfl (ref43_cut_ok (S_api_Playlist.mk x_91 (x_37 ++ x_12) (a_0.Done || b_1.Done)) window_2 v88 hr99) (showsX_view 2 rfl views_ro showsX_nil) rfl (.inl rfl)) ?_
   rintro _ _ ⟨_, ⟨v100, rfl, rfl⟩, rfl⟩
   refine ops_slc 3 rfl reads_ro (fun hs101 hs101o => ?_)
   refine oy rfl rfl (y_build_struct (cells := #[.int .i64 r98.First, v100, .bool r98.Done, .int .i64 0]) [(0, .agg #[.int .i64 r98.First, v100, .bool r98.Done])] [(0, [.int .i64 r98.First, v100, .bool r98.Done])] Tryz.zeroValue31 Tryz.runUnderlying31 (fs_cons Tryz.sizeOf24 (fs_cons Tryz.sizeOf27 fs_nil)) rfl (by first | (simp only [List.map_cons, List.map_nil, hs101]; done) | (simp only [List.map_cons, List.map_nil, hs101]; rfl)) rfl) ?_
   refine ops_slc 3 rfl reads_ro (fun hs102 hs102o => ?_)
   refine ot rfl rfl (t_store 0 Tryz.sizeOf31 rfl rfl rfl rfl (by simp [Value.cells, boxP]) (allL_cons rfl (allL_cons hs102o (allL_cons rfl (allL_cons rfl (allL_nil)))))) ?_
   rintro _ _ ⟨rfl, rfl⟩
   refine ops_turn (retell 0 (g := box b3 [.int .i64 r98.First, v100, .bool r98.Done, .int .i64 0]) rfl rfl) ?_
   refine ops_nil ?_
   refine goes_code ?_
   refine run_ret ?_
   obtain rfl := some_eq h
   refine fin_res [.cell 6 31] [.agg #[.int .i64 r98.First, v100, .bool r98.Done, .int .i64 0]] [3] [ro v100 20 (r98.L.map S_api_Segment.enc)] Tryz.results10 rfl (rescons (res_box 0 Tryz.isAgg31 Tryz.sizeOf31 rfl rfl rfl) resnil) (by decide) rfl ?_
   exact ⟨_, rfl, rfl⟩

end Go.Proofs.YtbgpojdmdnkeaaaGreatDoor
