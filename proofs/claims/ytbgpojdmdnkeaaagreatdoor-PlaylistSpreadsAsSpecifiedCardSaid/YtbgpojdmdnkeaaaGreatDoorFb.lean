/-
  Functions of the program, lifted: part 2.
-/
import Derived.Test.YtbgpojdmdnkeaaaGreatDoorFa
namespace Go.Proofs.YtbgpojdmdnkeaaaGreatDoor
open Go.Abs
set_option linter.unusedVariables false
set_option linter.unusedSimpArgs false
set_option maxRecDepth 20000
set_option maxHeartbeats 4000000

def playlist_stream_L1 (l_0 : (List S_api_Segment)) : (Int) → Option (Lp (Int) (Lp (Unit) (Bool))) :=
 fun s_5 =>
  cond (decide (s_5 < (l_0.length : Int)))
   (idx l_0 s_5 fun x11 =>
   obind (playlist_right x11) fun r13 =>
   bindJ (S := Bool)
    (cond (!r13)
     (some (.go true))
     (bindJ (S := Bool)
      (cond (decide (0 < s_5))
       (idx l_0 (IntKind.i64.wrap (s_5 - 1)) fun x27 =>
       bindJ (S := Bool)
        (cond (decide (x11.Num ≠ (IntKind.i64.wrap (x27.Num + 1))))
         (some (.go true))
         (obind (playlist_end x27) fun r34 =>
         some (.go (decide (x11.Begin ≠ r34)))))
       (fun b28 =>
        some (.go b28)))
       (some (.go false)))
     (fun b21 =>
      some (.go b21))))
   (fun b15 =>
    cond b15
     (some (.stop (.stop false)))
     (some (.go (IntKind.i64.wrap (s_5 + 1))))))
   (some (.stop (.go ())))
def playlist_stream (n : Nat) (l_0 : (List S_api_Segment)) : Option (Bool) :=
 bindJ (S := Unit)
  (iter (playlist_stream_L1 l_0) n 0)
 (fun _ =>
  some (decide ((l_0.length : Int) ≤ 1000)))
theorem playlist_stream_ok (n : Nat) (l_0 : (List S_api_Segment)) (l_0v : Value) {r : Bool} (h : playlist_stream n l_0 = some r) :
  Meets Tryz.prog 57 [l_0v] [ro l_0v 20 (l_0.map S_api_Segment.enc)] (fun v G => v = .bool r ∧ G = []) := by
 refine fn_of_run Tryz.func57 rfl Tryz.ntmps57 rfl (fun w0 o0 => ?_)
 refine run_seq ?_
 refine run_region' ?_
 refine oy rfl rfl (y_assign rfl) ?_
 refine ops_nil ?_
 refine goes_code ?_
 obtain ⟨o1, h, ho2⟩ := bindJ_some h
 refine run_cut ((Unit) × (Unit)) (fun σ => [(0, l_0v)]) (fun σ => [ro l_0v 20 (l_0.map S_api_Segment.enc)]) (fun σ => o1 = .go σ.1) (fun L4 hL3 => ?_) ?_
 ·
  refine run_seq ?_
  refine run_region' ?_
  refine oy rfl rfl (y_move rfl) ?_
  refine oy rfl rfl ((y_len 0 rfl Tryz.runUnderlying22 rfl rfl reads_ro).to (v_len S_api_Segment.enc _)) ?_
  refine oy rfl rfl (y_move rfl) ?_
  refine ops_nil ?_
  refine goes_code ?_
  refine run_block ?_
  refine run_iter (step := playlist_stream_L1 l_0) (n := n) (s0 := 0) h (G := Unit) () (fun σ γ => [(7, .int .i64 σ), (0, l_0v), (5, l_0v), (6, .int .i64 (l_0.length : Int))]) (fun σ γ => [ro l_0v 20 (l_0.map S_api_Segment.enc)]) [0] (qv4 rfl rfl rfl rfl) (by decide) rfl ?_
  rintro s_5 _ o6 h L9 hgo7 hstop8
  change Run _ _ _ (VF.of [(7, .int .i64 s_5), (0, l_0v), (5, l_0v), (6, .int .i64 (l_0.length : Int))]) [ro l_0v 20 (l_0.map S_api_Segment.enc)]
  refine run_seq ?_
  refine run_region' ?_
  refine oy rfl rfl (y_lss rfl rfl) ?_
  refine ops_nil ?_
  refine goes_code ?_
  refine run_seq ?_
  refine run_cond (decide (s_5 < (l_0.length : Int))) rfl (fun hc10 => ?_) (fun hc10 => ?_)
  ·replace h := cond_t h hc10
   refine run_skip ?_
   refine goes_code ?_
   refine run_seq ?_
   refine run_block ?_
   refine run_seq ?_
   refine run_region' ?_
   refine oy rfl rfl (y_move rfl) ?_
   obtain ⟨x11, hzx11, hlx11, hxx11, h⟩ := idx_some h
   refine oy rfl rfl (y_indexAddrI (kd := .i64) (i := s_5) 0 Tryz.runUnderlying22 Tryz.sizeOf57 rfl rfl rfl reads_ro hzx11 (map_lt hlx11)) ?_
   refine oy rfl rfl (y_load_agg (i := s_5.toNat) (c := [.int .i64 x11.Num, .int .i64 x11.Begin, .int .i64 x11.Len, .int .u8 x11.Body.a0_, .int .u8 x11.Body.a1_, .int .u8 x11.Body.a2_, .int .u8 x11.Body.a3_, .int .u8 x11.Body.a4_, .int .u8 x11.Body.a5_, .int .u8 x11.Body.a6_, .int .u8 x11.Body.a7_, .int .u8 x11.Body.a8_, .int .u8 x11.Body.a9_, .int .u8 x11.Body.a10_, .int .u8 x11.Body.a11_, .int .u8 x11.Body.a12_, .int .u8 x11.Body.a13_, .int .u8 x11.Body.a14_, .int .u8 x11.Body.a15_, .int .i64 x11.Size]) 0 Tryz.isAgg57 Tryz.sizeOf57 rfl rfl reads_ro (map_get hxx11)) ?_
   refine ot rfl rfl (t_alloc Tryz.zeroValue57) ?_
   rintro _ _ ⟨b12, rfl, rfl⟩
   refine oy rfl rfl (y_assign rfl) ?_
   refine ot rfl rfl (t_store 1 Tryz.sizeOf57 rfl rfl rfl rfl (by simp [Value.cells, boxP]) (by simp [Value.cells, Value.oneCell', boxP])) ?_
   rintro _ _ ⟨rfl, rfl⟩
   refine ops_turn (retell 1 (g := box b12 [.int .i64 x11.Num, .int .i64 x11.Begin, .int .i64 x11.Len, .int .u8 x11.Body.a0_, .int .u8 x11.Body.a1_, .int .u8 x11.Body.a2_, .int .u8 x11.Body.a3_, .int .u8 x11.Body.a4_, .int .u8 x11.Body.a5_, .int .u8 x11.Body.a6_, .int .u8 x11.Body.a7_, .int .u8 x11.Body.a8_, .int .u8 x11.Body.a9_, .int .u8 x11.Body.a10_, .int .u8 x11.Body.a11_, .int .u8 x11.Body.a12_, .int .u8 x11.Body.a13_, .int .u8 x11.Body.a14_, .int .u8 x11.Body.a15_, .int .i64 x11.Size]) rfl (by kernel_rfl)) ?_
   refine ops_nil ?_
   refine goes_code ?_
   refine run_seq ?_
   refine run_drawany [ro l_0v 20 (l_0.map S_api_Segment.enc), box b12 [.int .i64 x11.Num, .int .i64 x11.Begin, .int .i64 x11.Len, .int .u8 x11.Body.a0_, .int .u8 x11.Body.a1_, .int .u8 x11.Body.a2_, .int .u8 x11.Body.a3_, .int .u8 x11.Body.a4_, .int .u8 x11.Body.a5_, .int .u8 x11.Body.a6_, .int .u8 x11.Body.a7_, .int .u8 x11.Body.a8_, .int .u8 x11.Body.a9_, .int .u8 x11.Body.a10_, .int .u8 x11.Body.a11_, .int .u8 x11.Body.a12_, .int .u8 x11.Body.a13_, .int .u8 x11.Body.a14_, .int .u8 x11.Body.a15_, .int .i64 x11.Size]] (by kernel_rfl) ?_
   refine any_y 0 rfl (by kernel_rfl) (by kernel_rfl) (by kernel_rfl) (ss (ss (sn))) (wn rfl) rfl (y_load_boxagg (c := [.int .i64 x11.Num, .int .i64 x11.Begin, .int .i64 x11.Len, .int .u8 x11.Body.a0_, .int .u8 x11.Body.a1_, .int .u8 x11.Body.a2_, .int .u8 x11.Body.a3_, .int .u8 x11.Body.a4_, .int .u8 x11.Body.a5_, .int .u8 x11.Body.a6_, .int .u8 x11.Body.a7_, .int .u8 x11.Body.a8_, .int .u8 x11.Body.a9_, .int .u8 x11.Body.a10_, .int .u8 x11.Body.a11_, .int .u8 x11.Body.a12_, .int .u8 x11.Body.a13_, .int .u8 x11.Body.a14_, .int .u8 x11.Body.a15_, .int .i64 x11.Size]) 1 Tryz.isAgg57 Tryz.sizeOf57 rfl rfl rfl) ?_
   refine any_all [1] (by kernel_rfl) rfl (anyo_cons ?_ anyo_nil)
   obtain ⟨r13, hr14, h⟩ := obind_some h
   refine any_t rfl (wn rfl) rfl (t_callx (vs := [.agg #[.int .i64 x11.Num, .int .i64 x11.Begin, .int .i64 x11.Len, .int .u8 x11.Body.a0_, .int .u8 x11.Body.a1_, .int .u8 x11.Body.a2_, .int .u8 x11.Body.a3_, .int .u8 x11.Body.a4_, .int .u8 x11.Body.a5_, .int .u8 x11.Body.a6_, .int .u8 x11.Body.a7_, .int .u8 x11.Body.a8_, .int .u8 x11.Body.a9_, .int .u8 x11.Body.a10_, .int .u8 x11.Body.a11_, .int .u8 x11.Body.a12_, .int .u8 x11.Body.a13_, .int .u8 x11.Body.a14_, .int .u8 x11.Body.a15_, .int .i64 x11.Size]]) (cs := []) [] rfl Tryz.call79 rfl (playlist_right_ok x11  hr14) showsX_nil rfl (.inl rfl)) ?_
   rintro _ _ ⟨_, ⟨rfl, rfl⟩, rfl⟩
   refine ⟨(ss (ss (sn))), ?_⟩
   refine any_y 2 rfl (by kernel_rfl) (by kernel_rfl) (by kernel_rfl) (ss (ss (sn))) (wn rfl) rfl (y_not rfl) ?_
   refine any_y 3 rfl (by kernel_rfl) (by kernel_rfl) (by kernel_rfl) (ss (ss (sn))) (wn rfl) rfl (y_move rfl) ?_
   obtain ⟨o16, h, ho17⟩ := bindJ_some h
   refine any_cut #[true, true, true, true, true, true, true, true, true, true, true, true, true, true, true, true, true, true, true, true, true, true, true, true, true, true, true, true, true, true] 0 Bool (fun σ => [(7, .int .i64 s_5), (0, l_0v), (5, l_0v), (6, .int .i64 (l_0.length : Int)), (41, .bool σ)]) (fun σ => [ro l_0v 20 (l_0.map S_api_Segment.enc), box b12 [.int .i64 x11.Num, .int .i64 x11.Begin, .int .i64 x11.Len, .int .u8 x11.Body.a0_, .int .u8 x11.Body.a1_, .int .u8 x11.Body.a2_, .int .u8 x11.Body.a3_, .int .u8 x11.Body.a4_, .int .u8 x11.Body.a5_, .int .u8 x11.Body.a6_, .int .u8 x11.Body.a7_, .int .u8 x11.Body.a8_, .int .u8 x11.Body.a9_, .int .u8 x11.Body.a10_, .int .u8 x11.Body.a11_, .int .u8 x11.Body.a12_, .int .u8 x11.Body.a13_, .int .u8 x11.Body.a14_, .int .u8 x11.Body.a15_, .int .i64 x11.Size]]) (fun σ => o16 = .go σ) (fun hL19 => ?_) ?_
   ·refine any_split 15 (!r13) rfl (fun hg20 => ?_) (fun hg20 => ?_)
    ·replace h := cond_t h hg20
     refine any_no 4 rfl (by kernel_rfl) (by kernel_rfl) (by kernel_rfl) (ss (ss (sn))) 3 false 15 rfl rfl rfl rfl rfl ?_
     refine any_no 5 rfl (by kernel_rfl) (by kernel_rfl) (by kernel_rfl) (ss (ss (sn))) 3 false 15 rfl rfl rfl rfl rfl ?_
     refine any_no 6 rfl (by kernel_rfl) (by kernel_rfl) (by kernel_rfl) (ss (ss (sn))) 3 false 15 rfl rfl rfl rfl rfl ?_
     refine any_un 7 rfl (by kernel_rfl) (by kernel_rfl) (by kernel_rfl) (ss (ss (sn))) 6 true 18 rfl rfl rfl rfl rfl ?_
     refine any_un 8 rfl (by kernel_rfl) (by kernel_rfl) (by kernel_rfl) (ss (ss (sn))) 6 true 18 rfl rfl rfl rfl rfl ?_
     refine any_un 9 rfl (by kernel_rfl) (by kernel_rfl) (by kernel_rfl) (ss (ss (sn))) 6 true 18 rfl rfl rfl rfl rfl ?_
     refine any_un 10 rfl (by kernel_rfl) (by kernel_rfl) (by kernel_rfl) (ss (ss (sn))) 6 true 18 rfl rfl rfl rfl rfl ?_
     refine any_un 11 rfl (by kernel_rfl) (by kernel_rfl) (by kernel_rfl) (ss (ss (sn))) 6 true 18 rfl rfl rfl rfl rfl ?_
     refine any_un 12 rfl (by kernel_rfl) (by kernel_rfl) (by kernel_rfl) (ss (ss (sn))) 6 true 18 rfl rfl rfl rfl rfl ?_
     refine any_un 13 rfl (by kernel_rfl) (by kernel_rfl) (by kernel_rfl) (ss (ss (sn))) 6 true 18 rfl rfl rfl rfl rfl ?_
     refine any_un 14 rfl (by kernel_rfl) (by kernel_rfl) (by kernel_rfl) (ss (ss (sn))) 6 true 18 rfl rfl rfl rfl rfl ?_
     refine any_un 15 rfl (by kernel_rfl) (by kernel_rfl) (by kernel_rfl) (ss (ss (sn))) 6 true 18 rfl rfl rfl rfl rfl ?_
     refine any_un 16 rfl (by kernel_rfl) (by kernel_rfl) (by kernel_rfl) (ss (ss (sn))) 6 true 18 rfl rfl rfl rfl rfl ?_
     refine any_un 17 rfl (by kernel_rfl) (by kernel_rfl) (by kernel_rfl) (ss (ss (sn))) 6 true 18 rfl rfl rfl rfl rfl ?_
     refine any_un 18 rfl (by kernel_rfl) (by kernel_rfl) (by kernel_rfl) (ss (ss (sn))) 17 false 29 rfl rfl rfl rfl rfl ?_
     refine any_un 19 rfl (by kernel_rfl) (by kernel_rfl) (by kernel_rfl) (ss (ss (sn))) 17 false 29 rfl rfl rfl rfl rfl ?_
     refine any_un 20 rfl (by kernel_rfl) (by kernel_rfl) (by kernel_rfl) (ss (ss (sn))) 17 false 29 rfl rfl rfl rfl rfl ?_
     refine any_un 21 rfl (by kernel_rfl) (by kernel_rfl) (by kernel_rfl) (ss (ss (sn))) 17 false 29 rfl rfl rfl rfl rfl ?_
     refine any_un 22 rfl (by kernel_rfl) (by kernel_rfl) (by kernel_rfl) (ss (ss (sn))) 17 false 29 rfl rfl rfl rfl rfl ?_
     refine any_un 23 rfl (by kernel_rfl) (by kernel_rfl) (by kernel_rfl) (ss (ss (sn))) 17 false 29 rfl rfl rfl rfl rfl ?_
     refine any_un 24 rfl (by kernel_rfl) (by kernel_rfl) (by kernel_rfl) (ss (ss (sn))) 17 false 29 rfl rfl rfl rfl rfl ?_
     refine any_un 25 rfl (by kernel_rfl) (by kernel_rfl) (by kernel_rfl) (ss (ss (sn))) 17 false 29 rfl rfl rfl rfl rfl ?_
     refine any_un 26 rfl (by kernel_rfl) (by kernel_rfl) (by kernel_rfl) (ss (ss (sn))) 17 false 29 rfl rfl rfl rfl rfl ?_
     refine any_un 27 rfl (by kernel_rfl) (by kernel_rfl) (by kernel_rfl) (ss (ss (sn))) 6 true 18 rfl rfl rfl rfl rfl ?_
     refine any_no 28 rfl (by kernel_rfl) (by kernel_rfl) (by kernel_rfl) (ss (ss (sn))) 3 false 15 rfl rfl rfl rfl rfl ?_
     refine any_y 29 rfl (by kernel_rfl) (by kernel_rfl) (by kernel_rfl) (ss (ss (sn))) (wn rfl) rfl (y_pick (b := true) rfl rfl) ?_
     obtain rfl := some_eq h
     exact any_weak [(7, .int .i64 s_5), (0, l_0v), (5, l_0v), (6, .int .i64 (l_0.length : Int)), (41, .bool true)] [0, 1] [ro l_0v 20 (l_0.map S_api_Segment.enc), box b12 [.int .i64 x11.Num, .int .i64 x11.Begin, .int .i64 x11.Len, .int .u8 x11.Body.a0_, .int .u8 x11.Body.a1_, .int .u8 x11.Body.a2_, .int .u8 x11.Body.a3_, .int .u8 x11.Body.a4_, .int .u8 x11.Body.a5_, .int .u8 x11.Body.a6_, .int .u8 x11.Body.a7_, .int .u8 x11.Body.a8_, .int .u8 x11.Body.a9_, .int .u8 x11.Body.a10_, .int .u8 x11.Body.a11_, .int .u8 x11.Body.a12_, .int .u8 x11.Body.a13_, .int .u8 x11.Body.a14_, .int .u8 x11.Body.a15_, .int .i64 x11.Size]] (by kernel_rfl) (qv5 rfl rfl rfl rfl rfl) (by decide) rfl (hL19 true rfl)
    ·replace h := cond_f h hg20
     refine any_y 4 rfl (by kernel_rfl) (by kernel_rfl) (by kernel_rfl) (ss (ss (sn))) (wg 3 false 15 rfl rfl rfl rfl) rfl (y_move rfl) ?_
     refine any_y 5 rfl (by kernel_rfl) (by kernel_rfl) (by kernel_rfl) (ss (ss (sn))) (wg 3 false 15 rfl rfl rfl rfl) rfl (y_gtr rfl rfl) ?_
     refine any_y 6 rfl (by kernel_rfl) (by kernel_rfl) (by kernel_rfl) (ss (ss (sn))) (wg 3 false 15 rfl rfl rfl rfl) rfl (y_move rfl) ?_
     obtain ⟨o22, h, ho23⟩ := bindJ_some h
     refine any_cut #[true, true, true, true, true, true, true, true, true, true, true, true, true, true, true, true, true, true, true, true, true, true, true, true, true, true, true, true, true, false] 1 Bool (fun σ => [(7, .int .i64 s_5), (0, l_0v), (5, l_0v), (6, .int .i64 (l_0.length : Int)), (15, .bool false), (40, .bool σ)]) (fun σ => [ro l_0v 20 (l_0.map S_api_Segment.enc), box b12 [.int .i64 x11.Num, .int .i64 x11.Begin, .int .i64 x11.Len, .int .u8 x11.Body.a0_, .int .u8 x11.Body.a1_, .int .u8 x11.Body.a2_, .int .u8 x11.Body.a3_, .int .u8 x11.Body.a4_, .int .u8 x11.Body.a5_, .int .u8 x11.Body.a6_, .int .u8 x11.Body.a7_, .int .u8 x11.Body.a8_, .int .u8 x11.Body.a9_, .int .u8 x11.Body.a10_, .int .u8 x11.Body.a11_, .int .u8 x11.Body.a12_, .int .u8 x11.Body.a13_, .int .u8 x11.Body.a14_, .int .u8 x11.Body.a15_, .int .i64 x11.Size]]) (fun σ => o22 = .go σ) (fun hL25 => ?_) ?_
     ·refine any_split 18 (decide (0 < s_5)) rfl (fun hg26 => ?_) (fun hg26 => ?_)
      ·replace h := cond_t h hg26
       refine any_y 7 rfl (by kernel_rfl) (by kernel_rfl) (by kernel_rfl) (ss (ss (sn))) (wg 6 true 18 rfl rfl rfl rfl) rfl (y_fieldAddr_box (sz := 0) Tryz.runUnderlying57 rfl Tryz.sizeOf3 rfl) ?_
       refine any_y 8 rfl (by kernel_rfl) (by kernel_rfl) (by kernel_rfl) (ss (ss (sn))) (wg 6 true 18 rfl rfl rfl rfl) rfl (y_load_box 1 Tryz.isAgg3 rfl rfl rfl) ?_
       refine any_y 9 rfl (by kernel_rfl) (by kernel_rfl) (by kernel_rfl) (ss (ss (sn))) (wg 6 true 18 rfl rfl rfl rfl) rfl (y_move rfl) ?_
       refine any_y 10 rfl (by kernel_rfl) (by kernel_rfl) (by kernel_rfl) (ss (ss (sn))) (wg 6 true 18 rfl rfl rfl rfl) rfl (y_move rfl) ?_
       refine any_y 11 rfl (by kernel_rfl) (by kernel_rfl) (by kernel_rfl) (ss (ss (sn))) (wg 6 true 18 rfl rfl rfl rfl) rfl (y_sub rfl rfl) ?_
       obtain ⟨x27, hzx27, hlx27, hxx27, h⟩ := idx_some h
       refine any_y 12 rfl (by kernel_rfl) (by kernel_rfl) (by kernel_rfl) (ss (ss (sn))) (wg 6 true 18 rfl rfl rfl rfl) rfl (y_indexAddrI (kd := .i64) (i := (IntKind.i64.wrap (s_5 - 1))) 0 Tryz.runUnderlying22 Tryz.sizeOf57 rfl rfl rfl reads_ro hzx27 (map_lt hlx27)) ?_
       refine any_y 13 rfl (by kernel_rfl) (by kernel_rfl) (by kernel_rfl) (ss (ss (sn))) (wg 6 true 18 rfl rfl rfl rfl) rfl (y_fieldAddr_elem (sz := 0) Tryz.runUnderlying57 rfl Tryz.sizeOf3 rfl) ?_
       refine any_y 14 rfl (by kernel_rfl) (by kernel_rfl) (by kernel_rfl) (ss (ss (sn))) (wg 6 true 18 rfl rfl rfl rfl) rfl (y_load_field (i := ((IntKind.i64.wrap (s_5 - 1))).toNat) (j := 0) 0 Tryz.isAgg3 rfl rfl reads_ro (map_get hxx27) rfl) ?_
       refine any_y 15 rfl (by kernel_rfl) (by kernel_rfl) (by kernel_rfl) (ss (ss (sn))) (wg 6 true 18 rfl rfl rfl rfl) rfl (y_add rfl rfl) ?_
       refine any_y 16 rfl (by kernel_rfl) (by kernel_rfl) (by kernel_rfl) (ss (ss (sn))) (wg 6 true 18 rfl rfl rfl rfl) rfl (y_neq rfl rfl) ?_
       refine any_y 17 rfl (by kernel_rfl) (by kernel_rfl) (by kernel_rfl) (ss (ss (sn))) (wg 6 true 18 rfl rfl rfl rfl) rfl (y_move rfl) ?_
       obtain ⟨o29, h, ho30⟩ := bindJ_some h
       refine any_cut #[true, true, true, true, true, true, true, true, true, true, true, true, true, true, true, true, true, true, true, true, true, true, true, true, true, true, true, true, false, false] 2 Bool (fun σ => [(7, .int .i64 s_5), (0, l_0v), (5, l_0v), (6, .int .i64 (l_0.length : Int)), (15, .bool false), (18, .bool true), (39, .bool σ)]) (fun σ => [ro l_0v 20 (l_0.map S_api_Segment.enc), box b12 [.int .i64 x11.Num, .int .i64 x11.Begin, .int .i64 x11.Len, .int .u8 x11.Body.a0_, .int .u8 x11.Body.a1_, .int .u8 x11.Body.a2_, .int .u8 x11.Body.a3_, .int .u8 x11.Body.a4_, .int .u8 x11.Body.a5_, .int .u8 x11.Body.a6_, .int .u8 x11.Body.a7_, .int .u8 x11.Body.a8_, .int .u8 x11.Body.a9_, .int .u8 x11.Body.a10_, .int .u8 x11.Body.a11_, .int .u8 x11.Body.a12_, .int .u8 x11.Body.a13_, .int .u8 x11.Body.a14_, .int .u8 x11.Body.a15_, .int .i64 x11.Size]]) (fun σ => o29 = .go σ) (fun hL32 => ?_) ?_
       ·refine any_split 29 (decide (x11.Num ≠ (IntKind.i64.wrap (x27.Num + 1)))) rfl (fun hg33 => ?_) (fun hg33 => ?_)
        ·replace h := cond_t h hg33
         refine any_no 18 rfl (by kernel_rfl) (by kernel_rfl) (by kernel_rfl) (ss (ss (sn))) 17 false 29 rfl rfl rfl rfl rfl ?_
         refine any_no 19 rfl (by kernel_rfl) (by kernel_rfl) (by kernel_rfl) (ss (ss (sn))) 17 false 29 rfl rfl rfl rfl rfl ?_
         refine any_no 20 rfl (by kernel_rfl) (by kernel_rfl) (by kernel_rfl) (ss (ss (sn))) 17 false 29 rfl rfl rfl rfl rfl ?_
         refine any_no 21 rfl (by kernel_rfl) (by kernel_rfl) (by kernel_rfl) (ss (ss (sn))) 17 false 29 rfl rfl rfl rfl rfl ?_
         refine any_no 22 rfl (by kernel_rfl) (by kernel_rfl) (by kernel_rfl) (ss (ss (sn))) 17 false 29 rfl rfl rfl rfl rfl ?_
         refine any_no 23 rfl (by kernel_rfl) (by kernel_rfl) (by kernel_rfl) (ss (ss (sn))) 17 false 29 rfl rfl rfl rfl rfl ?_
         refine any_no 24 rfl (by kernel_rfl) (by kernel_rfl) (by kernel_rfl) (ss (ss (sn))) 17 false 29 rfl rfl rfl rfl rfl ?_
         refine any_no 25 rfl (by kernel_rfl) (by kernel_rfl) (by kernel_rfl) (ss (ss (sn))) 17 false 29 rfl rfl rfl rfl rfl ?_
         refine any_no 26 rfl (by kernel_rfl) (by kernel_rfl) (by kernel_rfl) (ss (ss (sn))) 17 false 29 rfl rfl rfl rfl rfl ?_
         refine any_y 27 rfl (by kernel_rfl) (by kernel_rfl) (by kernel_rfl) (ss (ss (sn))) (wg 6 true 18 rfl rfl rfl rfl) rfl (y_pick (b := true) rfl rfl) ?_
         obtain rfl := some_eq h
         exact any_weak [(7, .int .i64 s_5), (0, l_0v), (5, l_0v), (6, .int .i64 (l_0.length : Int)), (15, .bool false), (18, .bool true), (39, .bool true)] [0, 1] [ro l_0v 20 (l_0.map S_api_Segment.enc), box b12 [.int .i64 x11.Num, .int .i64 x11.Begin, .int .i64 x11.Len, .int .u8 x11.Body.a0_, .int .u8 x11.Body.a1_, .int .u8 x11.Body.a2_, .int .u8 x11.Body.a3_, .int .u8 x11.Body.a4_, .int .u8 x11.Body.a5_, .int .u8 x11.Body.a6_, .int .u8 x11.Body.a7_, .int .u8 x11.Body.a8_, .int .u8 x11.Body.a9_, .int .u8 x11.Body.a10_, .int .u8 x11.Body.a11_, .int .u8 x11.Body.a12_, .int .u8 x11.Body.a13_, .int .u8 x11.Body.a14_, .int .u8 x11.Body.a15_, .int .i64 x11.Size]] (by kernel_rfl) (qv7 rfl rfl rfl rfl rfl rfl rfl) (by decide) rfl (hL32 true rfl)
        ·replace h := cond_f h hg33
         refine any_y 18 rfl (by kernel_rfl) (by kernel_rfl) (by kernel_rfl) (ss (ss (sn))) (wg 17 false 29 rfl rfl rfl rfl) rfl (y_fieldAddr_box (sz := 0) Tryz.runUnderlying57 rfl Tryz.sizeOf3 rfl) ?_
         refine any_y 19 rfl (by kernel_rfl) (by kernel_rfl) (by kernel_rfl) (ss (ss (sn))) (wg 17 false 29 rfl rfl rfl rfl) rfl (y_load_box 1 Tryz.isAgg3 rfl rfl rfl) ?_
         refine any_y 20 rfl (by kernel_rfl) (by kernel_rfl) (by kernel_rfl) (ss (ss (sn))) (wg 17 false 29 rfl rfl rfl rfl) rfl (y_move rfl) ?_
         refine any_y 21 rfl (by kernel_rfl) (by kernel_rfl) (by kernel_rfl) (ss (ss (sn))) (wg 17 false 29 rfl rfl rfl rfl) rfl (y_move rfl) ?_
         refine any_y 22 rfl (by kernel_rfl) (by kernel_rfl) (by kernel_rfl) (ss (ss (sn))) (wg 17 false 29 rfl rfl rfl rfl) rfl (y_sub rfl rfl) ?_
         refine any_y 23 rfl (by kernel_rfl) (by kernel_rfl) (by kernel_rfl) (ss (ss (sn))) (wg 17 false 29 rfl rfl rfl rfl) rfl (y_indexAddrI (kd := .i64) (i := (IntKind.i64.wrap (s_5 - 1))) 0 Tryz.runUnderlying22 Tryz.sizeOf57 rfl rfl rfl reads_ro hzx27 (map_lt hlx27)) ?_
         refine any_y 24 rfl (by kernel_rfl) (by kernel_rfl) (by kernel_rfl) (ss (ss (sn))) (wg 17 false 29 rfl rfl rfl rfl) rfl (y_load_agg (i := ((IntKind.i64.wrap (s_5 - 1))).toNat) (c := [.int .i64 x27.Num, .int .i64 x27.Begin, .int .i64 x27.Len, .int .u8 x27.Body.a0_, .int .u8 x27.Body.a1_, .int .u8 x27.Body.a2_, .int .u8 x27.Body.a3_, .int .u8 x27.Body.a4_, .int .u8 x27.Body.a5_, .int .u8 x27.Body.a6_, .int .u8 x27.Body.a7_, .int .u8 x27.Body.a8_, .int .u8 x27.Body.a9_, .int .u8 x27.Body.a10_, .int .u8 x27.Body.a11_, .int .u8 x27.Body.a12_, .int .u8 x27.Body.a13_, .int .u8 x27.Body.a14_, .int .u8 x27.Body.a15_, .int .i64 x27.Size]) 0 Tryz.isAgg57 Tryz.sizeOf57 rfl rfl reads_ro (map_get hxx27)) ?_
         refine any_all [25] (by kernel_rfl) rfl (anyo_cons ?_ anyo_nil)
         obtain ⟨r34, hr35, h⟩ := obind_some h
         refine any_t rfl (wg 17 false 29 rfl rfl rfl rfl) rfl (t_callx (vs := [.agg #[.int .i64 x27.Num, .int .i64 x27.Begin, .int .i64 x27.Len, .int .u8 x27.Body.a0_, .int .u8 x27.Body.a1_, .int .u8 x27.Body.a2_, .int .u8 x27.Body.a3_, .int .u8 x27.Body.a4_, .int .u8 x27.Body.a5_, .int .u8 x27.Body.a6_, .int .u8 x27.Body.a7_, .int .u8 x27.Body.a8_, .int .u8 x27.Body.a9_, .int .u8 x27.Body.a10_, .int .u8 x27.Body.a11_, .int .u8 x27.Body.a12_, .int .u8 x27.Body.a13_, .int .u8 x27.Body.a14_, .int .u8 x27.Body.a15_, .int .i64 x27.Size]]) (cs := []) [] rfl Tryz.call60 rfl (playlist_end_ok x27  hr35) showsX_nil rfl (.inl rfl)) ?_
         rintro _ _ ⟨_, ⟨rfl, rfl⟩, rfl⟩
         refine ⟨(ss (ss (sn))), ?_⟩
         refine any_y 26 rfl (by kernel_rfl) (by kernel_rfl) (by kernel_rfl) (ss (ss (sn))) (wg 17 false 29 rfl rfl rfl rfl) rfl (y_neq rfl rfl) ?_
         refine any_y 27 rfl (by kernel_rfl) (by kernel_rfl) (by kernel_rfl) (ss (ss (sn))) (wg 6 true 18 rfl rfl rfl rfl) rfl (y_pick (b := false) rfl rfl) ?_
         obtain rfl := some_eq h
         exact any_weak [(7, .int .i64 s_5), (0, l_0v), (5, l_0v), (6, .int .i64 (l_0.length : Int)), (15, .bool false), (18, .bool true), (39, .bool (decide (x11.Begin ≠ r34)))] [0, 1] [ro l_0v 20 (l_0.map S_api_Segment.enc), box b12 [.int .i64 x11.Num, .int .i64 x11.Begin, .int .i64 x11.Len, .int .u8 x11.Body.a0_, .int .u8 x11.Body.a1_, .int .u8 x11.Body.a2_, .int .u8 x11.Body.a3_, .int .u8 x11.Body.a4_, .int .u8 x11.Body.a5_, .int .u8 x11.Body.a6_, .int .u8 x11.Body.a7_, .int .u8 x11.Body.a8_, .int .u8 x11.Body.a9_, .int .u8 x11.Body.a10_, .int .u8 x11.Body.a11_, .int .u8 x11.Body.a12_, .int .u8 x11.Body.a13_, .int .u8 x11.Body.a14_, .int .u8 x11.Body.a15_, .int .i64 x11.Size]] (by kernel_rfl) (qv7 rfl rfl rfl rfl rfl rfl rfl) (by decide) rfl (hL32 (decide (x11.Begin ≠ r34)) rfl)
       rintro b28 hj
       obtain rfl : o29 = _ := hj
       replace h := after_go ho30
       clear ho30
       refine any_y 28 rfl (by kernel_rfl) (by kernel_rfl) (by kernel_rfl) (ss (ss (sn))) (wg 3 false 15 rfl rfl rfl rfl) rfl (y_pick (b := true) rfl rfl) ?_
       obtain rfl := some_eq h
       exact any_weak [(7, .int .i64 s_5), (0, l_0v), (5, l_0v), (6, .int .i64 (l_0.length : Int)), (15, .bool false), (40, .bool b28)] [0, 1] [ro l_0v 20 (l_0.map S_api_Segment.enc), box b12 [.int .i64 x11.Num, .int .i64 x11.Begin, .int .i64 x11.Len, .int .u8 x11.Body.a0_, .int .u8 x11.Body.a1_, .int .u8 x11.Body.a2_, .int .u8 x11.Body.a3_, .int .u8 x11.Body.a4_, .int .u8 x11.Body.a5_, .int .u8 x11.Body.a6_, .int .u8 x11.Body.a7_, .int .u8 x11.Body.a8_, .int .u8 x11.Body.a9_, .int .u8 x11.Body.a10_, .int .u8 x11.Body.a11_, .int .u8 x11.Body.a12_, .int .u8 x11.Body.a13_, .int .u8 x11.Body.a14_, .int .u8 x11.Body.a15_, .int .i64 x11.Size]] (by kernel_rfl) (qv6 rfl rfl rfl rfl rfl rfl) (by decide) rfl (hL25 b28 rfl)
      ·replace h := cond_f h hg26
       refine any_no 7 rfl (by kernel_rfl) (by kernel_rfl) (by kernel_rfl) (ss (ss (sn))) 6 true 18 rfl rfl rfl rfl rfl ?_
       refine any_no 8 rfl (by kernel_rfl) (by kernel_rfl) (by kernel_rfl) (ss (ss (sn))) 6 true 18 rfl rfl rfl rfl rfl ?_
       refine any_no 9 rfl (by kernel_rfl) (by kernel_rfl) (by kernel_rfl) (ss (ss (sn))) 6 true 18 rfl rfl rfl rfl rfl ?_
       refine any_no 10 rfl (by kernel_rfl) (by kernel_rfl) (by kernel_rfl) (ss (ss (sn))) 6 true 18 rfl rfl rfl rfl rfl ?_
       refine any_no 11 rfl (by kernel_rfl) (by kernel_rfl) (by kernel_rfl) (ss (ss (sn))) 6 true 18 rfl rfl rfl rfl rfl ?_
       refine any_no 12 rfl (by kernel_rfl) (by kernel_rfl) (by kernel_rfl) (ss (ss (sn))) 6 true 18 rfl rfl rfl rfl rfl ?_
       refine any_no 13 rfl (by kernel_rfl) (by kernel_rfl) (by kernel_rfl) (ss (ss (sn))) 6 true 18 rfl rfl rfl rfl rfl ?_
       refine any_no 14 rfl (by kernel_rfl) (by kernel_rfl) (by kernel_rfl) (ss (ss (sn))) 6 true 18 rfl rfl rfl rfl rfl ?_
       refine any_no 15 rfl (by kernel_rfl) (by kernel_rfl) (by kernel_rfl) (ss (ss (sn))) 6 true 18 rfl rfl rfl rfl rfl ?_
       refine any_no 16 rfl (by kernel_rfl) (by kernel_rfl) (by kernel_rfl) (ss (ss (sn))) 6 true 18 rfl rfl rfl rfl rfl ?_
       refine any_no 17 rfl (by kernel_rfl) (by kernel_rfl) (by kernel_rfl) (ss (ss (sn))) 6 true 18 rfl rfl rfl rfl rfl ?_
       refine any_un 18 rfl (by kernel_rfl) (by kernel_rfl) (by kernel_rfl) (ss (ss (sn))) 17 false 29 rfl rfl rfl rfl rfl ?_
       refine any_un 19 rfl (by kernel_rfl) (by kernel_rfl) (by kernel_rfl) (ss (ss (sn))) 17 false 29 rfl rfl rfl rfl rfl ?_
       refine any_un 20 rfl (by kernel_rfl) (by kernel_rfl) (by kernel_rfl) (ss (ss (sn))) 17 false 29 rfl rfl rfl rfl rfl ?_
       refine any_un 21 rfl (by kernel_rfl) (by kernel_rfl) (by kernel_rfl) (ss (ss (sn))) 17 false 29 rfl rfl rfl rfl rfl ?_
       refine any_un 22 rfl (by kernel_rfl) (by kernel_rfl) (by kernel_rfl) (ss (ss (sn))) 17 false 29 rfl rfl rfl rfl rfl ?_
       refine any_un 23 rfl (by kernel_rfl) (by kernel_rfl) (by kernel_rfl) (ss (ss (sn))) 17 false 29 rfl rfl rfl rfl rfl ?_
       refine any_un 24 rfl (by kernel_rfl) (by kernel_rfl) (by kernel_rfl) (ss (ss (sn))) 17 false 29 rfl rfl rfl rfl rfl ?_
       refine any_un 25 rfl (by kernel_rfl) (by kernel_rfl) (by kernel_rfl) (ss (ss (sn))) 17 false 29 rfl rfl rfl rfl rfl ?_
       refine any_un 26 rfl (by kernel_rfl) (by kernel_rfl) (by kernel_rfl) (ss (ss (sn))) 17 false 29 rfl rfl rfl rfl rfl ?_
       refine any_no 27 rfl (by kernel_rfl) (by kernel_rfl) (by kernel_rfl) (ss (ss (sn))) 6 true 18 rfl rfl rfl rfl rfl ?_
       refine any_y 28 rfl (by kernel_rfl) (by kernel_rfl) (by kernel_rfl) (ss (ss (sn))) (wg 3 false 15 rfl rfl rfl rfl) rfl (y_pick (b := false) rfl rfl) ?_
       obtain rfl := some_eq h
       exact any_weak [(7, .int .i64 s_5), (0, l_0v), (5, l_0v), (6, .int .i64 (l_0.length : Int)), (15, .bool false), (40, .bool false)] [0, 1] [ro l_0v 20 (l_0.map S_api_Segment.enc), box b12 [.int .i64 x11.Num, .int .i64 x11.Begin, .int .i64 x11.Len, .int .u8 x11.Body.a0_, .int .u8 x11.Body.a1_, .int .u8 x11.Body.a2_, .int .u8 x11.Body.a3_, .int .u8 x11.Body.a4_, .int .u8 x11.Body.a5_, .int .u8 x11.Body.a6_, .int .u8 x11.Body.a7_, .int .u8 x11.Body.a8_, .int .u8 x11.Body.a9_, .int .u8 x11.Body.a10_, .int .u8 x11.Body.a11_, .int .u8 x11.Body.a12_, .int .u8 x11.Body.a13_, .int .u8 x11.Body.a14_, .int .u8 x11.Body.a15_, .int .i64 x11.Size]] (by kernel_rfl) (qv6 rfl rfl rfl rfl rfl rfl) (by decide) rfl (hL25 false rfl)
     rintro b21 hj
     obtain rfl : o22 = _ := hj
     replace h := after_go ho23
     clear ho23
     refine any_y 29 rfl (by kernel_rfl) (by kernel_rfl) (by kernel_rfl) (ss (ss (sn))) (wn rfl) rfl (y_pick (b := false) rfl rfl) ?_
     obtain rfl := some_eq h
     exact any_weak [(7, .int .i64 s_5), (0, l_0v), (5, l_0v), (6, .int .i64 (l_0.length : Int)), (41, .bool b21)] [0, 1] [ro l_0v 20 (l_0.map S_api_Segment.enc), box b12 [.int .i64 x11.Num, .int .i64 x11.Begin, .int .i64 x11.Len, .int .u8 x11.Body.a0_, .int .u8 x11.Body.a1_, .int .u8 x11.Body.a2_, .int .u8 x11.Body.a3_, .int .u8 x11.Body.a4_, .int .u8 x11.Body.a5_, .int .u8 x11.Body.a6_, .int .u8 x11.Body.a7_, .int .u8 x11.Body.a8_, .int .u8 x11.Body.a9_, .int .u8 x11.Body.a10_, .int .u8 x11.Body.a11_, .int .u8 x11.Body.a12_, .int .u8 x11.Body.a13_, .int .u8 x11.Body.a14_, .int .u8 x11.Body.a15_, .int .i64 x11.Size]] (by kernel_rfl) (qv5 rfl rfl rfl rfl rfl) (by decide) rfl (hL19 b21 rfl)
   rintro b15 hj
   obtain rfl : o16 = _ := hj
   replace h := after_go ho17
   clear ho17
   refine any_nil (by kernel_rfl) ?_
   refine goes_code ?_
   refine run_cond b15 rfl (fun hc36 => ?_) (fun hc36 => ?_)
   ·replace h := cond_t h hc36
    refine run_seq ?_
    refine run_region' ?_
    refine oy rfl rfl (y_assign rfl) ?_
    refine ops_nil ?_
    refine goes_code ?_
    refine run_ret ?_
    obtain rfl := some_eq h
    obtain rfl := hstop8 _ rfl
    skip
    obtain rfl := after_stop ho2
    refine fin_slots [2] [.bool false] [] [] Tryz.results57 rfl (by decide) rfl ?_
    exact ⟨rfl, rfl⟩
   ·replace h := cond_f h hc36
    refine run_skip ?_
    refine goes_blk ?_
    refine goes_code ?_
    refine run_region' ?_
    refine oy rfl rfl (y_add rfl rfl) ?_
    refine oy rfl rfl (y_move rfl) ?_
    refine ops_nil ?_
    obtain rfl := some_eq h
    exact goes_iter hgo7 (IntKind.i64.wrap (s_5 + 1)) () [0] rfl (qv4 rfl rfl rfl rfl) (by decide) rfl
  ·replace h := cond_f h hc10
   refine run_exit _ rfl ?_
   obtain rfl := some_eq h
   obtain rfl := hstop8 _ rfl
   exact goes_cut hL3 ((), ()) [0] (qv1 rfl) (by decide) rfl rfl
 rintro ⟨_, _⟩ hj
 obtain rfl : o1 = _ := hj
 replace h := after_go ho2
 clear ho2
 change Run _ _ _ (VF.of [(0, l_0v)]) [ro l_0v 20 (l_0.map S_api_Segment.enc)]
 refine run_seq ?_
 refine run_region' ?_
 refine oy rfl rfl (y_move rfl) ?_
 refine oy rfl rfl ((y_len 0 rfl Tryz.runUnderlying22 rfl rfl reads_ro).to (v_len S_api_Segment.enc _)) ?_
 refine oy rfl rfl (y_leq rfl rfl) ?_
 refine oy rfl rfl (y_assign rfl) ?_
 refine ops_nil ?_
 refine goes_code ?_
 refine run_ret ?_
 obtain rfl := some_eq h
 refine fin_slots [2] [.bool (decide ((l_0.length : Int) ≤ 1000))] [] [] Tryz.results57 rfl (by decide) rfl ?_
 exact ⟨rfl, rfl⟩

def playlist_Valid (n : Nat) (p_0 : S_api_Playlist) : Option (Bool) :=
 bindJ (S := Bool)
  (cond ((decide (0 ≤ p_0.First) && decide (p_0.First ≤ 1099511627776)) && decide ((p_0.L.length : Int) ≤ 100))
   (bindJ (S := Bool)
    (cond (decide ((p_0.L.length : Int) = 0))
     (some (.go true))
     (idx p_0.L 0 fun x20 =>
     some (.go (decide (x20.Num = p_0.First)))))
   (fun b14 =>
    some (.go b14)))
   (some (.go false)))
 (fun b8 =>
  bindJ (S := Bool)
   (cond b8
    (obind (playlist_stream n p_0.L) fun r27 =>
    some (.go r27))
    (some (.go false)))
  (fun b21 =>
   some b21))
theorem playlist_Valid_ok (n : Nat) (p_0 : S_api_Playlist) (p_0_Lv : Value) {r : Bool} (h : playlist_Valid n p_0 = some r) :
  Meets Tryz.prog 22 [.agg #[.int .i64 p_0.First, p_0_Lv, .bool p_0.Done]] [ro p_0_Lv 20 (p_0.L.map S_api_Segment.enc)] (fun v G => v = .bool r ∧ G = []) := by
 refine fn_of_run Tryz.func22 rfl Tryz.ntmps22 rfl (fun w0 o0 => ?_)
 refine run_seq ?_
 refine run_region' ?_
 refine ot rfl rfl (t_box rfl) ?_
 rintro _ _ ⟨b1, rfl, rfl⟩
 refine oy rfl rfl (y_assign rfl) ?_
 refine ops_nil ?_
 refine goes_code ?_
 refine run_seq ?_
 refine run_drawany [ro p_0_Lv 20 (p_0.L.map S_api_Segment.enc), box b1 [.int .i64 p_0.First, p_0_Lv, .bool p_0.Done]] (by kernel_rfl) ?_
 refine any_y 0 rfl (by kernel_rfl) (by kernel_rfl) (by kernel_rfl) (ss (ss (sn))) (wn rfl) rfl (y_fieldAddr_box (sz := 0) Tryz.runUnderlying24 rfl Tryz.sizeOf3 rfl) ?_
 refine any_y 1 rfl (by kernel_rfl) (by kernel_rfl) (by kernel_rfl) (ss (ss (sn))) (wn rfl) rfl (y_load_box 1 Tryz.isAgg3 rfl rfl rfl) ?_
 refine any_y 2 rfl (by kernel_rfl) (by kernel_rfl) (by kernel_rfl) (ss (ss (sn))) (wn rfl) rfl (y_geq rfl rfl) ?_
 refine any_y 3 rfl (by kernel_rfl) (by kernel_rfl) (by kernel_rfl) (ss (ss (sn))) (wn rfl) rfl (y_move rfl) ?_
 refine any_cut #[true, true, true, true, true, true, true, true, false, false, false, false, false, false, false, false, false, false, false, false, false, false, false, false, false, false, false, false, false, false, false, false, false, false, false, false] 28 Bool (fun σ => [(1, boxP b1 0), (10, .bool σ)]) (fun σ => [ro p_0_Lv 20 (p_0.L.map S_api_Segment.enc), box b1 [.int .i64 p_0.First, p_0_Lv, .bool p_0.Done]]) (fun σ => σ = (decide (0 ≤ p_0.First) && decide (p_0.First ≤ 1099511627776))) (fun hL3 => ?_) ?_
 ·refine any_split 6 (decide (0 ≤ p_0.First)) rfl (fun hg4 => ?_) (fun hg4 => ?_)
  ·skip
   refine any_y 4 rfl (by kernel_rfl) (by kernel_rfl) (by kernel_rfl) (ss (ss (sn))) (wg 3 true 6 rfl rfl rfl rfl) rfl (y_fieldAddr_box (sz := 0) Tryz.runUnderlying24 rfl Tryz.sizeOf3 rfl) ?_
   refine any_y 5 rfl (by kernel_rfl) (by kernel_rfl) (by kernel_rfl) (ss (ss (sn))) (wg 3 true 6 rfl rfl rfl rfl) rfl (y_load_box 1 Tryz.isAgg3 rfl rfl rfl) ?_
   refine any_y 6 rfl (by kernel_rfl) (by kernel_rfl) (by kernel_rfl) (ss (ss (sn))) (wg 3 true 6 rfl rfl rfl rfl) rfl (y_leq rfl rfl) ?_
   refine any_y 7 rfl (by kernel_rfl) (by kernel_rfl) (by kernel_rfl) (ss (ss (sn))) (wn rfl) rfl (y_pick (b := true) rfl rfl) ?_
   exact any_weak [(1, boxP b1 0), (10, .bool (decide (p_0.First ≤ 1099511627776)))] [0, 1] [ro p_0_Lv 20 (p_0.L.map S_api_Segment.enc), box b1 [.int .i64 p_0.First, p_0_Lv, .bool p_0.Done]] (by kernel_rfl) (qv2 rfl rfl) (by decide) rfl (hL3 (decide (p_0.First ≤ 1099511627776)) (by rw [hg4]; simp))
  ·skip
   refine any_no 4 rfl (by kernel_rfl) (by kernel_rfl) (by kernel_rfl) (ss (ss (sn))) 3 true 6 rfl rfl rfl rfl rfl ?_
   refine any_no 5 rfl (by kernel_rfl) (by kernel_rfl) (by kernel_rfl) (ss (ss (sn))) 3 true 6 rfl rfl rfl rfl rfl ?_
   refine any_no 6 rfl (by kernel_rfl) (by kernel_rfl) (by kernel_rfl) (ss (ss (sn))) 3 true 6 rfl rfl rfl rfl rfl ?_
   refine any_y 7 rfl (by kernel_rfl) (by kernel_rfl) (by kernel_rfl) (ss (ss (sn))) (wn rfl) rfl (y_pick (b := false) rfl rfl) ?_
   exact any_weak [(1, boxP b1 0), (10, .bool false)] [0, 1] [ro p_0_Lv 20 (p_0.L.map S_api_Segment.enc), box b1 [.int .i64 p_0.First, p_0_Lv, .bool p_0.Done]] (by kernel_rfl) (qv2 rfl rfl) (by decide) rfl (hL3 false (by rw [hg4]; simp))
 rintro _ rfl
 refine any_y 8 rfl (by kernel_rfl) (by kernel_rfl) (by kernel_rfl) (ss (ss (sn))) (wn rfl) rfl (y_move rfl) ?_
 refine any_cut #[true, true, true, true, true, true, true, true, true, true, true, true, true, true, false, false, false, false, false, false, false, false, false, false, false, false, false, false, false, false, false, false, false, false, false, false] 22 Bool (fun σ => [(1, boxP b1 0), (16, .bool σ)]) (fun σ => [ro p_0_Lv 20 (p_0.L.map S_api_Segment.enc), box b1 [.int .i64 p_0.First, p_0_Lv, .bool p_0.Done]]) (fun σ => σ = ((decide (0 ≤ p_0.First) && decide (p_0.First ≤ 1099511627776)) && decide ((p_0.L.length : Int) ≤ 100))) (fun hL6 => ?_) ?_
 ·refine any_split 11 (decide (0 ≤ p_0.First) && decide (p_0.First ≤ 1099511627776)) rfl (fun hg7 => ?_) (fun hg7 => ?_)
  ·skip
   refine any_y 9 rfl (by kernel_rfl) (by kernel_rfl) (by kernel_rfl) (ss (ss (sn))) (wg 8 true 11 rfl rfl rfl rfl) rfl (y_fieldAddr_box (sz := 0) Tryz.runUnderlying24 rfl Tryz.sizeOf22 rfl) ?_
   refine any_y 10 rfl (by kernel_rfl) (by kernel_rfl) (by kernel_rfl) (ss (ss (sn))) (wg 8 true 11 rfl rfl rfl rfl) rfl (y_load_box 1 Tryz.isAgg22 rfl rfl rfl) ?_
   refine any_y 11 rfl (by kernel_rfl) (by kernel_rfl) (by kernel_rfl) (ss (ss (sn))) (wg 8 true 11 rfl rfl rfl rfl) rfl ((y_len 0 rfl Tryz.runUnderlying22 rfl rfl reads_ro).to (v_len S_api_Segment.enc _)) ?_
   refine any_y 12 rfl (by kernel_rfl) (by kernel_rfl) (by kernel_rfl) (ss (ss (sn))) (wg 8 true 11 rfl rfl rfl rfl) rfl (y_leq rfl rfl) ?_
   refine any_y 13 rfl (by kernel_rfl) (by kernel_rfl) (by kernel_rfl) (ss (ss (sn))) (wn rfl) rfl (y_pick (b := true) rfl rfl) ?_
   exact any_weak [(1, boxP b1 0), (16, .bool (decide ((p_0.L.length : Int) ≤ 100)))] [0, 1] [ro p_0_Lv 20 (p_0.L.map S_api_Segment.enc), box b1 [.int .i64 p_0.First, p_0_Lv, .bool p_0.Done]] (by kernel_rfl) (qv2 rfl rfl) (by decide) rfl (hL6 (decide ((p_0.L.length : Int) ≤ 100)) (by rw [hg7]; simp))
  ·skip
   refine any_no 9 rfl (by kernel_rfl) (by kernel_rfl) (by kernel_rfl) (ss (ss (sn))) 8 true 11 rfl rfl rfl rfl rfl ?_
   refine any_no 10 rfl (by kernel_rfl) (by kernel_rfl) (by kernel_rfl) (ss (ss (sn))) 8 true 11 rfl rfl rfl rfl rfl ?_
   refine any_no 11 rfl (by kernel_rfl) (by kernel_rfl) (by kernel_rfl) (ss (ss (sn))) 8 true 11 rfl rfl rfl rfl rfl ?_
   refine any_no 12 rfl (by kernel_rfl) (by kernel_rfl) (by kernel_rfl) (ss (ss (sn))) 8 true 11 rfl rfl rfl rfl rfl ?_
   refine any_y 13 rfl (by kernel_rfl) (by kernel_rfl) (by kernel_rfl) (ss (ss (sn))) (wn rfl) rfl (y_pick (b := false) rfl rfl) ?_
   exact any_weak [(1, boxP b1 0), (16, .bool false)] [0, 1] [ro p_0_Lv 20 (p_0.L.map S_api_Segment.enc), box b1 [.int .i64 p_0.First, p_0_Lv, .bool p_0.Done]] (by kernel_rfl) (qv2 rfl rfl) (by decide) rfl (hL6 false (by rw [hg7]; simp))
 rintro _ rfl
 refine any_y 14 rfl (by kernel_rfl) (by kernel_rfl) (by kernel_rfl) (ss (ss (sn))) (wn rfl) rfl (y_move rfl) ?_
 obtain ⟨o9, h, ho10⟩ := bindJ_some h
 refine any_cut #[true, true, true, true, true, true, true, true, true, true, true, true, true, true, true, true, true, true, true, true, true, true, true, true, true, true, true, true, true, true, false, false, false, false, false, false] 6 Bool (fun σ => [(1, boxP b1 0), (32, .bool σ)]) (fun σ => [ro p_0_Lv 20 (p_0.L.map S_api_Segment.enc), box b1 [.int .i64 p_0.First, p_0_Lv, .bool p_0.Done]]) (fun σ => o9 = .go σ) (fun hL12 => ?_) ?_
 ·refine any_split 17 ((decide (0 ≤ p_0.First) && decide (p_0.First ≤ 1099511627776)) && decide ((p_0.L.length : Int) ≤ 100)) rfl (fun hg13 => ?_) (fun hg13 => ?_)
  ·replace h := cond_t h hg13
   refine any_y 15 rfl (by kernel_rfl) (by kernel_rfl) (by kernel_rfl) (ss (ss (sn))) (wg 14 true 17 rfl rfl rfl rfl) rfl (y_fieldAddr_box (sz := 0) Tryz.runUnderlying24 rfl Tryz.sizeOf22 rfl) ?_
   refine any_y 16 rfl (by kernel_rfl) (by kernel_rfl) (by kernel_rfl) (ss (ss (sn))) (wg 14 true 17 rfl rfl rfl rfl) rfl (y_load_box 1 Tryz.isAgg22 rfl rfl rfl) ?_
   refine any_y 17 rfl (by kernel_rfl) (by kernel_rfl) (by kernel_rfl) (ss (ss (sn))) (wg 14 true 17 rfl rfl rfl rfl) rfl ((y_len 0 rfl Tryz.runUnderlying22 rfl rfl reads_ro).to (v_len S_api_Segment.enc _)) ?_
   refine any_y 18 rfl (by kernel_rfl) (by kernel_rfl) (by kernel_rfl) (ss (ss (sn))) (wg 14 true 17 rfl rfl rfl rfl) rfl (y_eql rfl rfl) ?_
   refine any_y 19 rfl (by kernel_rfl) (by kernel_rfl) (by kernel_rfl) (ss (ss (sn))) (wg 14 true 17 rfl rfl rfl rfl) rfl (y_move rfl) ?_
   obtain ⟨o15, h, ho16⟩ := bindJ_some h
   refine any_cut #[true, true, true, true, true, true, true, true, true, true, true, true, true, true, true, true, true, true, true, true, true, true, true, true, true, true, true, true, true, false, false, false, false, false, false, false] 7 Bool (fun σ => [(1, boxP b1 0), (17, .bool true), (31, .bool σ)]) (fun σ => [ro p_0_Lv 20 (p_0.L.map S_api_Segment.enc), box b1 [.int .i64 p_0.First, p_0_Lv, .bool p_0.Done]]) (fun σ => o15 = .go σ) (fun hL18 => ?_) ?_
   ·refine any_split 22 (decide ((p_0.L.length : Int) = 0)) rfl (fun hg19 => ?_) (fun hg19 => ?_)
    ·replace h := cond_t h hg19
     refine any_no 20 rfl (by kernel_rfl) (by kernel_rfl) (by kernel_rfl) (ss (ss (sn))) 19 false 22 rfl rfl rfl rfl rfl ?_
     refine any_no 21 rfl (by kernel_rfl) (by kernel_rfl) (by kernel_rfl) (ss (ss (sn))) 19 false 22 rfl rfl rfl rfl rfl ?_
     refine any_no 22 rfl (by kernel_rfl) (by kernel_rfl) (by kernel_rfl) (ss (ss (sn))) 19 false 22 rfl rfl rfl rfl rfl ?_
     refine any_no 23 rfl (by kernel_rfl) (by kernel_rfl) (by kernel_rfl) (ss (ss (sn))) 19 false 22 rfl rfl rfl rfl rfl ?_
     refine any_no 24 rfl (by kernel_rfl) (by kernel_rfl) (by kernel_rfl) (ss (ss (sn))) 19 false 22 rfl rfl rfl rfl rfl ?_
     refine any_no 25 rfl (by kernel_rfl) (by kernel_rfl) (by kernel_rfl) (ss (ss (sn))) 19 false 22 rfl rfl rfl rfl rfl ?_
     refine any_no 26 rfl (by kernel_rfl) (by kernel_rfl) (by kernel_rfl) (ss (ss (sn))) 19 false 22 rfl rfl rfl rfl rfl ?_
     refine any_no 27 rfl (by kernel_rfl) (by kernel_rfl) (by kernel_rfl) (ss (ss (sn))) 19 false 22 rfl rfl rfl rfl rfl ?_
     refine any_y 28 rfl (by kernel_rfl) (by kernel_rfl) (by kernel_rfl) (ss (ss (sn))) (wg 14 true 17 rfl rfl rfl rfl) rfl (y_pick (b := true) rfl rfl) ?_
     obtain rfl := some_eq h
     exact any_weak [(1, boxP b1 0), (17, .bool true), (31, .bool true)] [0, 1] [ro p_0_Lv 20 (p_0.L.map S_api_Segment.enc), box b1 [.int .i64 p_0.First, p_0_Lv, .bool p_0.Done]] (by kernel_rfl) (qv3 rfl rfl rfl) (by decide) rfl (hL18 true rfl)
    ·replace h := cond_f h hg19
     refine any_y 20 rfl (by kernel_rfl) (by kernel_rfl) (by kernel_rfl) (ss (ss (sn))) (wg 19 false 22 rfl rfl rfl rfl) rfl (y_fieldAddr_box (sz := 0) Tryz.runUnderlying24 rfl Tryz.sizeOf22 rfl) ?_
     refine any_y 21 rfl (by kernel_rfl) (by kernel_rfl) (by kernel_rfl) (ss (ss (sn))) (wg 19 false 22 rfl rfl rfl rfl) rfl (y_load_box 1 Tryz.isAgg22 rfl rfl rfl) ?_
     obtain ⟨x20, hzx20, hlx20, hxx20, h⟩ := idx_some h
     refine any_y 22 rfl (by kernel_rfl) (by kernel_rfl) (by kernel_rfl) (ss (ss (sn))) (wg 19 false 22 rfl rfl rfl rfl) rfl (y_indexAddrI (kd := .i64) (i := 0) 0 Tryz.runUnderlying22 Tryz.sizeOf57 rfl rfl rfl reads_ro hzx20 (map_lt hlx20)) ?_
     refine any_y 23 rfl (by kernel_rfl) (by kernel_rfl) (by kernel_rfl) (ss (ss (sn))) (wg 19 false 22 rfl rfl rfl rfl) rfl (y_fieldAddr_elem (sz := 0) Tryz.runUnderlying57 rfl Tryz.sizeOf3 rfl) ?_
     refine any_y 24 rfl (by kernel_rfl) (by kernel_rfl) (by kernel_rfl) (ss (ss (sn))) (wg 19 false 22 rfl rfl rfl rfl) rfl (y_load_field (i := (0 : Int).toNat) (j := 0) 0 Tryz.isAgg3 rfl rfl reads_ro (map_get hxx20) rfl) ?_
     refine any_y 25 rfl (by kernel_rfl) (by kernel_rfl) (by kernel_rfl) (ss (ss (sn))) (wg 19 false 22 rfl rfl rfl rfl) rfl (y_fieldAddr_box (sz := 0) Tryz.runUnderlying24 rfl Tryz.sizeOf3 rfl) ?_
     refine any_y 26 rfl (by kernel_rfl) (by kernel_rfl) (by kernel_rfl) (ss (ss (sn))) (wg 19 false 22 rfl rfl rfl rfl) rfl (y_load_box 1 Tryz.isAgg3 rfl rfl rfl) ?_
     refine any_y 27 rfl (by kernel_rfl) (by kernel_rfl) (by kernel_rfl) (ss (ss (sn))) (wg 19 false 22 rfl rfl rfl rfl) rfl (y_eql rfl rfl) ?_
     refine any_y 28 rfl (by kernel_rfl) (by kernel_rfl) (by kernel_rfl) (ss (ss (sn))) (wg 14 true 17 rfl rfl rfl rfl) rfl (y_pick (b := false) rfl rfl) ?_
     obtain rfl := some_eq h
     exact any_weak [(1, boxP b1 0), (17, .bool true), (31, .bool (decide (x20.Num = p_0.First)))] [0, 1] [ro p_0_Lv 20 (p_0.L.map S_api_Segment.enc), box b1 [.int .i64 p_0.First, p_0_Lv, .bool p_0.Done]] (by kernel_rfl) (qv3 rfl rfl rfl) (by decide) rfl (hL18 (decide (x20.Num = p_0.First)) rfl)
   rintro b14 hj
   obtain rfl : o15 = _ := hj
   replace h := after_go ho16
   clear ho16
   refine any_y 29 rfl (by kernel_rfl) (by kernel_rfl) (by kernel_rfl) (ss (ss (sn))) (wn rfl) rfl (y_pick (b := true) rfl rfl) ?_
   obtain rfl := some_eq h
   exact any_weak [(1, boxP b1 0), (32, .bool b14)] [0, 1] [ro p_0_Lv 20 (p_0.L.map S_api_Segment.enc), box b1 [.int .i64 p_0.First, p_0_Lv, .bool p_0.Done]] (by kernel_rfl) (qv2 rfl rfl) (by decide) rfl (hL12 b14 rfl)
  ·replace h := cond_f h hg13
   refine any_no 15 rfl (by kernel_rfl) (by kernel_rfl) (by kernel_rfl) (ss (ss (sn))) 14 true 17 rfl rfl rfl rfl rfl ?_
   refine any_no 16 rfl (by kernel_rfl) (by kernel_rfl) (by kernel_rfl) (ss (ss (sn))) 14 true 17 rfl rfl rfl rfl rfl ?_
   refine any_no 17 rfl (by kernel_rfl) (by kernel_rfl) (by kernel_rfl) (ss (ss (sn))) 14 true 17 rfl rfl rfl rfl rfl ?_
   refine any_no 18 rfl (by kernel_rfl) (by kernel_rfl) (by kernel_rfl) (ss (ss (sn))) 14 true 17 rfl rfl rfl rfl rfl ?_
   refine any_no 19 rfl (by kernel_rfl) (by kernel_rfl) (by kernel_rfl) (ss (ss (sn))) 14 true 17 rfl rfl rfl rfl rfl ?_
   refine any_un 20 rfl (by kernel_rfl) (by kernel_rfl) (by kernel_rfl) (ss (ss (sn))) 19 false 22 rfl rfl rfl rfl rfl ?_
   refine any_un 21 rfl (by kernel_rfl) (by kernel_rfl) (by kernel_rfl) (ss (ss (sn))) 19 false 22 rfl rfl rfl rfl rfl ?_
   refine any_un 22 rfl (by kernel_rfl) (by kernel_rfl) (by kernel_rfl) (ss (ss (sn))) 19 false 22 rfl rfl rfl rfl rfl ?_
   refine any_un 23 rfl (by kernel_rfl) (by kernel_rfl) (by kernel_rfl) (ss (ss (sn))) 19 false 22 rfl rfl rfl rfl rfl ?_
   refine any_un 24 rfl (by kernel_rfl) (by kernel_rfl) (by kernel_rfl) (ss (ss (sn))) 19 false 22 rfl rfl rfl rfl rfl ?_
   refine any_un 25 rfl (by kernel_rfl) (by kernel_rfl) (by kernel_rfl) (ss (ss (sn))) 19 false 22 rfl rfl rfl rfl rfl ?_
   refine any_un 26 rfl (by kernel_rfl) (by kernel_rfl) (by kernel_rfl) (ss (ss (sn))) 19 false 22 rfl rfl rfl rfl rfl ?_
   refine any_un 27 rfl (by kernel_rfl) (by kernel_rfl) (by kernel_rfl) (ss (ss (sn))) 19 false 22 rfl rfl rfl rfl rfl ?_
   refine any_no 28 rfl (by kernel_rfl) (by kernel_rfl) (by kernel_rfl) (ss (ss (sn))) 14 true 17 rfl rfl rfl rfl rfl ?_
   refine any_y 29 rfl (by kernel_rfl) (by kernel_rfl) (by kernel_rfl) (ss (ss (sn))) (wn rfl) rfl (y_pick (b := false) rfl rfl) ?_
   obtain rfl := some_eq h
   exact any_weak [(1, boxP b1 0), (32, .bool false)] [0, 1] [ro p_0_Lv 20 (p_0.L.map S_api_Segment.enc), box b1 [.int .i64 p_0.First, p_0_Lv, .bool p_0.Done]] (by kernel_rfl) (qv2 rfl rfl) (by decide) rfl (hL12 false rfl)
 rintro b8 hj
 obtain rfl : o9 = _ := hj
 replace h := after_go ho10
 clear ho10
 refine any_y 30 rfl (by kernel_rfl) (by kernel_rfl) (by kernel_rfl) (ss (ss (sn))) (wn rfl) rfl (y_move rfl) ?_
 obtain ⟨o22, h, ho23⟩ := bindJ_some h
 refine any_cut #[true, true, true, true, true, true, true, true, true, true, true, true, true, true, true, true, true, true, true, true, true, true, true, true, true, true, true, true, true, true, true, true, true, true, true, false] 1 Bool (fun σ => [(37, .bool σ)]) (fun σ => [ro p_0_Lv 20 (p_0.L.map S_api_Segment.enc), box b1 [.int .i64 p_0.First, p_0_Lv, .bool p_0.Done]]) (fun σ => o22 = .go σ) (fun hL25 => ?_) ?_
 ·refine any_split 33 b8 rfl (fun hg26 => ?_) (fun hg26 => ?_)
  ·replace h := cond_t h hg26
   refine any_y 31 rfl (by kernel_rfl) (by kernel_rfl) (by kernel_rfl) (ss (ss (sn))) (wg 30 true 33 rfl rfl rfl rfl) rfl (y_fieldAddr_box (sz := 0) Tryz.runUnderlying24 rfl Tryz.sizeOf22 rfl) ?_
   refine any_y 32 rfl (by kernel_rfl) (by kernel_rfl) (by kernel_rfl) (ss (ss (sn))) (wg 30 true 33 rfl rfl rfl rfl) rfl (y_load_box 1 Tryz.isAgg22 rfl rfl rfl) ?_
   refine any_all [33] (by kernel_rfl) rfl (anyo_cons ?_ anyo_nil)
   obtain ⟨r27, hr28, h⟩ := obind_some h
   refine any_t rfl (wg 30 true 33 rfl rfl rfl rfl) rfl (t_callx (vs := [p_0_Lv]) (cs := []) [(0, 0)] rfl Tryz.call57 rfl (playlist_stream_ok n p_0.L p_0_Lv hr28) (showsX_view 0 rfl views_ro showsX_nil) rfl (.inl rfl)) ?_
   rintro _ _ ⟨_, ⟨rfl, rfl⟩, rfl⟩
   refine ⟨(ss (ss (sn))), ?_⟩
   refine any_y 34 rfl (by kernel_rfl) (by kernel_rfl) (by kernel_rfl) (ss (ss (sn))) (wn rfl) rfl (y_pick (b := true) rfl rfl) ?_
   obtain rfl := some_eq h
   exact any_weak [(37, .bool r27)] [0, 1] [ro p_0_Lv 20 (p_0.L.map S_api_Segment.enc), box b1 [.int .i64 p_0.First, p_0_Lv, .bool p_0.Done]] (by kernel_rfl) (qv1 rfl) (by decide) rfl (hL25 r27 rfl)
  ·replace h := cond_f h hg26
   refine any_no 31 rfl (by kernel_rfl) (by kernel_rfl) (by kernel_rfl) (ss (ss (sn))) 30 true 33 rfl rfl rfl rfl rfl ?_
   refine any_no 32 rfl (by kernel_rfl) (by kernel_rfl) (by kernel_rfl) (ss (ss (sn))) 30 true 33 rfl rfl rfl rfl rfl ?_
   refine any_no 33 rfl (by kernel_rfl) (by kernel_rfl) (by kernel_rfl) (ss (ss (sn))) 30 true 33 rfl rfl rfl rfl rfl ?_
   refine any_y 34 rfl (by kernel_rfl) (by kernel_rfl) (by kernel_rfl) (ss (ss (sn))) (wn rfl) rfl (y_pick (b := false) rfl rfl) ?_
   obtain rfl := some_eq h
   exact any_weak [(37, .bool false)] [0, 1] [ro p_0_Lv 20 (p_0.L.map S_api_Segment.enc), box b1 [.int .i64 p_0.First, p_0_Lv, .bool p_0.Done]] (by kernel_rfl) (qv1 rfl) (by decide) rfl (hL25 false rfl)
 rintro b21 hj
 obtain rfl : o22 = _ := hj
 replace h := after_go ho23
 clear ho23
 refine any_y 35 rfl (by kernel_rfl) (by kernel_rfl) (by kernel_rfl) (ss (ss (sn))) (wn rfl) rfl (y_assign rfl) ?_
 refine any_nil (by kernel_rfl) ?_
 refine goes_code ?_
 refine run_ret ?_
 obtain rfl := some_eq h
 refine fin_slots [2] [.bool b21] [] [] Tryz.results22 rfl (by decide) rfl ?_
 exact ⟨rfl, rfl⟩

def playlist_Find_1_68 (s_0 : S_api_Segment) (a_1 : Int) : Option (Bool) :=
 some (decide (s_0.Num = a_1))
theorem playlist_Find_1_68_ok (s_0 : S_api_Segment) (a_1 : Int) (a_1b : Nat) {r : Bool} (h : playlist_Find_1_68 s_0 a_1 = some r) :
  Meets Tryz.prog 68 [.agg #[.int .i64 s_0.Num, .int .i64 s_0.Begin, .int .i64 s_0.Len, .int .u8 s_0.Body.a0_, .int .u8 s_0.Body.a1_, .int .u8 s_0.Body.a2_, .int .u8 s_0.Body.a3_, .int .u8 s_0.Body.a4_, .int .u8 s_0.Body.a5_, .int .u8 s_0.Body.a6_, .int .u8 s_0.Body.a7_, .int .u8 s_0.Body.a8_, .int .u8 s_0.Body.a9_, .int .u8 s_0.Body.a10_, .int .u8 s_0.Body.a11_, .int .u8 s_0.Body.a12_, .int .u8 s_0.Body.a13_, .int .u8 s_0.Body.a14_, .int .u8 s_0.Body.a15_, .int .i64 s_0.Size], boxP a_1b 0] [box a_1b [.int .i64 a_1]] (fun v G => v = .bool r ∧ G = [box a_1b [.int .i64 a_1]]) := by
 refine fn_of_run Tryz.func68 rfl Tryz.ntmps68 rfl (fun w0 o0 => ?_)
 refine run_seq ?_
 refine run_region' ?_
 refine ot rfl rfl (t_box rfl) ?_
 rintro _ _ ⟨b1, rfl, rfl⟩
 refine oy rfl rfl (y_assign rfl) ?_
 refine ops_nil ?_
 refine goes_code ?_
 refine run_seq ?_
 refine run_region' ?_
 refine oy rfl rfl (y_fieldAddr_box (sz := 0) Tryz.runUnderlying57 rfl Tryz.sizeOf3 rfl) ?_
 refine oy rfl rfl (y_load_box 1 Tryz.isAgg3 rfl rfl rfl) ?_
 refine oy rfl rfl (y_load_box 0 Tryz.isAgg3 rfl rfl rfl) ?_
 refine oy rfl rfl (y_eql rfl rfl) ?_
 refine oy rfl rfl (y_assign rfl) ?_
 refine ops_nil ?_
 refine goes_code ?_
 refine run_ret ?_
 obtain rfl := some_eq h
 refine fin_slots [3] [.bool (decide (s_0.Num = a_1))] [0] [box a_1b [.int .i64 a_1]] Tryz.results68 rfl (by decide) rfl ?_
 exact ⟨rfl, rfl⟩

def slices_IndexFunc_weirgate_api_Segment_weirgate_api_Segment_80_L1 (s_0 : (List S_api_Segment)) (f_1_0 : Int) : (Int) → Option (Lp (Int) (Lp (Unit) (Int))) :=
 fun s_5 =>
  cond (decide (s_5 < (s_0.length : Int)))
   (idx s_0 s_5 fun x11 =>
   obind (playlist_Find_1_68 x11 f_1_0) fun r12 =>
   cond r12
    (some (.stop (.stop s_5)))
    (some (.go (IntKind.i64.wrap (s_5 + 1)))))
   (some (.stop (.go ())))
def slices_IndexFunc_weirgate_api_Segment_weirgate_api_Segment_80 (n : Nat) (s_0 : (List S_api_Segment)) (f_1_0 : Int) : Option (Int) :=
 bindJ (S := Unit)
  (iter (slices_IndexFunc_weirgate_api_Segment_weirgate_api_Segment_80_L1 s_0 f_1_0) n 0)
 (fun _ =>
  some (-1))
theorem slices_IndexFunc_weirgate_api_Segment_weirgate_api_Segment_80_ok (n : Nat) (s_0 : (List S_api_Segment)) (f_1_0 : Int) (s_0v : Value) (f_1_0b : Nat) {r : Int} (h : slices_IndexFunc_weirgate_api_Segment_weirgate_api_Segment_80 n s_0 f_1_0 = some r) :
  Meets Tryz.prog 80 [s_0v, .func (.func 68) #[] #[boxP f_1_0b 0]] [ro s_0v 20 (s_0.map S_api_Segment.enc), box f_1_0b [.int .i64 f_1_0]] (fun v G => v = .int .i64 r ∧ G = [box f_1_0b [.int .i64 f_1_0]]) := by
 refine fn_of_run Tryz.func80 rfl Tryz.ntmps80 rfl (fun w0 o0 => ?_)
 refine run_seq ?_
 refine run_region' ?_
 refine oy rfl rfl (y_assign rfl) ?_
 refine ops_nil ?_
 refine goes_code ?_
 obtain ⟨o1, h, ho2⟩ := bindJ_some h
 refine run_cut ((Unit) × (Unit)) (fun σ => []) (fun σ => [box f_1_0b [.int .i64 f_1_0]]) (fun σ => o1 = .go σ.1) (fun L4 hL3 => ?_) ?_
 ·
  refine run_seq ?_
  refine run_region' ?_
  refine oy rfl rfl (y_move rfl) ?_
  refine oy rfl rfl ((y_len 0 rfl Tryz.runUnderlying22 rfl rfl reads_ro).to (v_len S_api_Segment.enc _)) ?_
  refine oy rfl rfl (y_move rfl) ?_
  refine ops_nil ?_
  refine goes_code ?_
  refine run_block ?_
  refine run_iter (step := slices_IndexFunc_weirgate_api_Segment_weirgate_api_Segment_80_L1 s_0 f_1_0) (n := n) (s0 := 0) h (G := Unit) () (fun σ γ => [(8, .int .i64 σ), (0, s_0v), (1, .func (.func 68) #[] #[boxP f_1_0b 0]), (7, .int .i64 (s_0.length : Int))]) (fun σ γ => [ro s_0v 20 (s_0.map S_api_Segment.enc), box f_1_0b [.int .i64 f_1_0]]) [0, 1] (qv4 rfl rfl rfl rfl) (by decide) rfl ?_
  rintro s_5 _ o6 h L9 hgo7 hstop8
  change Run _ _ _ (VF.of [(8, .int .i64 s_5), (0, s_0v), (1, .func (.func 68) #[] #[boxP f_1_0b 0]), (7, .int .i64 (s_0.length : Int))]) [ro s_0v 20 (s_0.map S_api_Segment.enc), box f_1_0b [.int .i64 f_1_0]]
  refine run_seq ?_
  refine run_region' ?_
  refine oy rfl rfl (y_lss rfl rfl) ?_
  refine ops_nil ?_
  refine goes_code ?_
  refine run_seq ?_
  refine run_cond (decide (s_5 < (s_0.length : Int))) rfl (fun hc10 => ?_) (fun hc10 => ?_)
  ·replace h := cond_t h hc10
   refine run_skip ?_
   refine goes_code ?_
   refine run_seq ?_
   refine run_block ?_
   refine run_seq ?_
   refine run_region' ?_
   refine oy rfl rfl (y_move rfl) ?_
   refine oy rfl rfl (y_assign rfl) ?_
   refine ops_nil ?_
   refine goes_code ?_
   refine run_seq ?_
   refine run_region' ?_
   refine oy rfl rfl (y_move rfl) ?_
   refine oy rfl rfl (y_move rfl) ?_
   refine oy rfl rfl (y_move rfl) ?_
   obtain ⟨x11, hzx11, hlx11, hxx11, h⟩ := idx_some h
   refine oy rfl rfl (y_indexAddrI (kd := .i64) (i := s_5) 0 Tryz.runUnderlying22 Tryz.sizeOf57 rfl rfl rfl reads_ro hzx11 (map_lt hlx11)) ?_
   refine oy rfl rfl (y_load_agg (i := s_5.toNat) (c := [.int .i64 x11.Num, .int .i64 x11.Begin, .int .i64 x11.Len, .int .u8 x11.Body.a0_, .int .u8 x11.Body.a1_, .int .u8 x11.Body.a2_, .int .u8 x11.Body.a3_, .int .u8 x11.Body.a4_, .int .u8 x11.Body.a5_, .int .u8 x11.Body.a6_, .int .u8 x11.Body.a7_, .int .u8 x11.Body.a8_, .int .u8 x11.Body.a9_, .int .u8 x11.Body.a10_, .int .u8 x11.Body.a11_, .int .u8 x11.Body.a12_, .int .u8 x11.Body.a13_, .int .u8 x11.Body.a14_, .int .u8 x11.Body.a15_, .int .i64 x11.Size]) 0 Tryz.isAgg57 Tryz.sizeOf57 rfl rfl reads_ro (map_get hxx11)) ?_
   obtain ⟨r12, hr13, h⟩ := obind_some h
   refine ot rfl rfl (t_callx (vs := [.agg #[.int .i64 x11.Num, .int .i64 x11.Begin, .int .i64 x11.Len, .int .u8 x11.Body.a0_, .int .u8 x11.Body.a1_, .int .u8 x11.Body.a2_, .int .u8 x11.Body.a3_, .int .u8 x11.Body.a4_, .int .u8 x11.Body.a5_, .int .u8 x11.Body.a6_, .int .u8 x11.Body.a7_, .int .u8 x11.Body.a8_, .int .u8 x11.Body.a9_, .int .u8 x11.Body.a10_, .int .u8 x11.Body.a11_, .int .u8 x11.Body.a12_, .int .u8 x11.Body.a13_, .int .u8 x11.Body.a14_, .int .u8 x11.Body.a15_, .int .i64 x11.Size]]) (cs := [boxP f_1_0b 0]) [(1, 2)] rfl Tryz.call68 rfl (playlist_Find_1_68_ok x11 f_1_0 f_1_0b hr13) (showsX_lend 1 rfl showsX_nil) rfl (.inl rfl)) ?_
   rintro _ _ ⟨_, ⟨rfl, rfl⟩, rfl⟩
   refine ops_nil ?_
   refine goes_code ?_
   refine run_cond r12 rfl (fun hc14 => ?_) (fun hc14 => ?_)
   ·replace h := cond_t h hc14
    refine run_seq ?_
    refine run_weak [(5, .int .i64 s_5)] [2] [box f_1_0b [.int .i64 f_1_0]] (qv1 rfl) (by decide) rfl ?_
    refine run_region' ?_
    refine oy rfl rfl (y_move rfl) ?_
    refine oy rfl rfl (y_assign rfl) ?_
    refine ops_nil ?_
    refine goes_code ?_
    refine run_ret ?_
    obtain rfl := some_eq h
    obtain rfl := hstop8 _ rfl
    skip
    obtain rfl := after_stop ho2
    refine fin_slots [4] [.int .i64 s_5] [0] [box f_1_0b [.int .i64 f_1_0]] Tryz.results80 rfl (by decide) rfl ?_
    exact ⟨rfl, rfl⟩
   ·replace h := cond_f h hc14
    refine run_skip ?_
    refine goes_blk ?_
    refine goes_code ?_
    refine run_weak [(8, .int .i64 s_5), (0, s_0v), (1, .func (.func 68) #[] #[boxP f_1_0b 0]), (7, .int .i64 (s_0.length : Int))] [0, 2] [ro s_0v 20 (s_0.map S_api_Segment.enc), box f_1_0b [.int .i64 f_1_0]] (qv4 rfl rfl rfl rfl) (by decide) rfl ?_
    refine run_region' ?_
    refine oy rfl rfl (y_add rfl rfl) ?_
    refine oy rfl rfl (y_move rfl) ?_
    refine ops_nil ?_
    obtain rfl := some_eq h
    exact goes_iter hgo7 (IntKind.i64.wrap (s_5 + 1)) () [0, 1] rfl (qv4 rfl rfl rfl rfl) (by decide) rfl
  ·replace h := cond_f h hc10
   refine run_exit _ rfl ?_
   obtain rfl := some_eq h
   obtain rfl := hstop8 _ rfl
   exact goes_cut hL3 ((), ()) [1] vnil (by decide) rfl rfl
 rintro ⟨_, _⟩ hj
 obtain rfl : o1 = _ := hj
 replace h := after_go ho2
 clear ho2
 change Run _ _ _ (VF.of []) [box f_1_0b [.int .i64 f_1_0]]
 refine run_seq ?_
 refine run_region' ?_
 refine oy rfl rfl (y_assign rfl) ?_
 refine ops_nil ?_
 refine goes_code ?_
 refine run_ret ?_
 obtain rfl := some_eq h
 refine fin_slots [4] [.int .i64 (-1)] [0] [box f_1_0b [.int .i64 f_1_0]] Tryz.results80 rfl (by decide) rfl ?_
 exact ⟨rfl, rfl⟩

def playlist_one (n : Nat) (p_0 : S_api_Playlist) (is_1_0 : Int) : Option (S_api_Segment × Int) :=
 obind (slices_IndexFunc_weirgate_api_Segment_weirgate_api_Segment_80 n p_0.L is_1_0) fun r3 =>
 cond (decide (0 ≤ r3))
  (idx p_0.L r3 fun x6 =>
  some (x6, 0))
  (some ((S_api_Segment.mk 0 0 0 (S_api_Digest.mk 0 0 0 0 0 0 0 0 0 0 0 0 0 0 0 0) 0), 5))
theorem playlist_one_ok (n : Nat) (p_0 : S_api_Playlist) (is_1_0 : Int) (p_0_Lv : Value) (is_1_0b : Nat) {r : S_api_Segment × Int} (h : playlist_one n p_0 is_1_0 = some r) :
  Meets Tryz.prog 67 [.agg #[.int .i64 p_0.First, p_0_Lv, .bool p_0.Done], .func (.func 68) #[] #[boxP is_1_0b 0]] [ro p_0_Lv 20 (p_0.L.map S_api_Segment.enc), box is_1_0b [.int .i64 is_1_0]] (fun v G => v = .tuple #[.agg #[.int .i64 r.1.Num, .int .i64 r.1.Begin, .int .i64 r.1.Len, .int .u8 r.1.Body.a0_, .int .u8 r.1.Body.a1_, .int .u8 r.1.Body.a2_, .int .u8 r.1.Body.a3_, .int .u8 r.1.Body.a4_, .int .u8 r.1.Body.a5_, .int .u8 r.1.Body.a6_, .int .u8 r.1.Body.a7_, .int .u8 r.1.Body.a8_, .int .u8 r.1.Body.a9_, .int .u8 r.1.Body.a10_, .int .u8 r.1.Body.a11_, .int .u8 r.1.Body.a12_, .int .u8 r.1.Body.a13_, .int .u8 r.1.Body.a14_, .int .u8 r.1.Body.a15_, .int .i64 r.1.Size], .int .i64 r.2] ∧ G = [box is_1_0b [.int .i64 is_1_0]]) := by
 refine fn_of_run Tryz.func67 rfl Tryz.ntmps67 rfl (fun w0 o0 => ?_)
 refine run_seq ?_
 refine run_region' ?_
 refine ot rfl rfl (t_box rfl) ?_
 rintro _ _ ⟨b1, rfl, rfl⟩
 refine ot rfl rfl (t_alloc Tryz.zeroValue57) ?_
 rintro _ _ ⟨b2, rfl, rfl⟩
 refine oy rfl rfl (y_assign rfl) ?_
 refine ops_nil ?_
 refine goes_code ?_
 refine run_seq ?_
 refine run_seq ?_
 refine run_region' ?_
 refine oy rfl rfl (y_fieldAddr_box (sz := 0) Tryz.runUnderlying24 rfl Tryz.sizeOf22 rfl) ?_
 refine oy rfl rfl (y_load_box 2 Tryz.isAgg22 rfl rfl rfl) ?_
 refine oy rfl rfl (y_move rfl) ?_
 obtain ⟨r3, hr4, h⟩ := obind_some h
 refine ot rfl rfl (t_callx (vs := [p_0_Lv, .func (.func 68) #[] #[boxP is_1_0b 0]]) (cs := []) [(0, 0), (1, 2)] rfl Tryz.call80 rfl (slices_IndexFunc_weirgate_api_Segment_weirgate_api_Segment_80_ok n p_0.L is_1_0 p_0_Lv is_1_0b hr4) (showsX_view 0 rfl views_ro (showsX_lend 1 rfl showsX_nil)) rfl (.inl rfl)) ?_
 rintro _ _ ⟨_, ⟨rfl, rfl⟩, rfl⟩
 refine oy rfl rfl (y_assign rfl) ?_
 refine ops_nil ?_
 refine goes_code ?_
 refine run_seq ?_
 refine run_weak [(2, boxP b1 0), (4, boxP b2 0), (6, .int .i64 r3)] [0, 2, 3, 4] [ro p_0_Lv 20 (p_0.L.map S_api_Segment.enc), box b1 [.int .i64 p_0.First, p_0_Lv, .bool p_0.Done], box b2 [.int .i64 0, .int .i64 0, .int .i64 0, .int .u8 0, .int .u8 0, .int .u8 0, .int .u8 0, .int .u8 0, .int .u8 0, .int .u8 0, .int .u8 0, .int .u8 0, .int .u8 0, .int .u8 0, .int .u8 0, .int .u8 0, .int .u8 0, .int .u8 0, .int .u8 0, .int .i64 0], box is_1_0b [.int .i64 is_1_0]] (qv3 rfl rfl rfl) (by decide) rfl ?_
 refine run_region' ?_
 refine oy rfl rfl (y_move rfl) ?_
 refine oy rfl rfl (y_geq rfl rfl) ?_
 refine ops_nil ?_
 refine goes_code ?_
 refine run_cond (decide (0 ≤ r3)) rfl (fun hc5 => ?_) (fun hc5 => ?_)
 ·replace h := cond_t h hc5
  refine run_seq ?_
  refine run_region' ?_
  refine oy rfl rfl (y_fieldAddr_box (sz := 0) Tryz.runUnderlying24 rfl Tryz.sizeOf22 rfl) ?_
  refine oy rfl rfl (y_load_box 1 Tryz.isAgg22 rfl rfl rfl) ?_
  refine oy rfl rfl (y_move rfl) ?_
  obtain ⟨x6, hzx6, hlx6, hxx6, h⟩ := idx_some h
  refine oy rfl rfl (y_indexAddrI (kd := .i64) (i := r3) 0 Tryz.runUnderlying22 Tryz.sizeOf57 rfl rfl rfl reads_ro hzx6 (map_lt hlx6)) ?_
  refine oy rfl rfl (y_load_agg (i := r3.toNat) (c := [.int .i64 x6.Num, .int .i64 x6.Begin, .int .i64 x6.Len, .int .u8 x6.Body.a0_, .int .u8 x6.Body.a1_, .int .u8 x6.Body.a2_, .int .u8 x6.Body.a3_, .int .u8 x6.Body.a4_, .int .u8 x6.Body.a5_, .int .u8 x6.Body.a6_, .int .u8 x6.Body.a7_, .int .u8 x6.Body.a8_, .int .u8 x6.Body.a9_, .int .u8 x6.Body.a10_, .int .u8 x6.Body.a11_, .int .u8 x6.Body.a12_, .int .u8 x6.Body.a13_, .int .u8 x6.Body.a14_, .int .u8 x6.Body.a15_, .int .i64 x6.Size]) 0 Tryz.isAgg57 Tryz.sizeOf57 rfl rfl reads_ro (map_get hxx6)) ?_
  refine ot rfl rfl (t_store 2 Tryz.sizeOf57 rfl rfl rfl rfl (by simp [Value.cells, boxP]) (by simp [Value.cells, Value.oneCell', boxP])) ?_
  rintro _ _ ⟨rfl, rfl⟩
  refine ops_turn (retell 2 (g := box b2 [.int .i64 x6.Num, .int .i64 x6.Begin, .int .i64 x6.Len, .int .u8 x6.Body.a0_, .int .u8 x6.Body.a1_, .int .u8 x6.Body.a2_, .int .u8 x6.Body.a3_, .int .u8 x6.Body.a4_, .int .u8 x6.Body.a5_, .int .u8 x6.Body.a6_, .int .u8 x6.Body.a7_, .int .u8 x6.Body.a8_, .int .u8 x6.Body.a9_, .int .u8 x6.Body.a10_, .int .u8 x6.Body.a11_, .int .u8 x6.Body.a12_, .int .u8 x6.Body.a13_, .int .u8 x6.Body.a14_, .int .u8 x6.Body.a15_, .int .i64 x6.Size]) rfl (by kernel_rfl)) ?_
  refine oy rfl rfl (y_assign rfl) ?_
  refine ops_nil ?_
  refine goes_code ?_
  refine run_ret ?_
  obtain rfl := some_eq h
  refine fin_res [.cell 4 57, .tmp 5] [.agg #[.int .i64 x6.Num, .int .i64 x6.Begin, .int .i64 x6.Len, .int .u8 x6.Body.a0_, .int .u8 x6.Body.a1_, .int .u8 x6.Body.a2_, .int .u8 x6.Body.a3_, .int .u8 x6.Body.a4_, .int .u8 x6.Body.a5_, .int .u8 x6.Body.a6_, .int .u8 x6.Body.a7_, .int .u8 x6.Body.a8_, .int .u8 x6.Body.a9_, .int .u8 x6.Body.a10_, .int .u8 x6.Body.a11_, .int .u8 x6.Body.a12_, .int .u8 x6.Body.a13_, .int .u8 x6.Body.a14_, .int .u8 x6.Body.a15_, .int .i64 x6.Size], .int .i64 0] [3] [box is_1_0b [.int .i64 is_1_0]] Tryz.results67 rfl (rescons (res_box 2 Tryz.isAgg57 Tryz.sizeOf57 rfl rfl rfl) (rescons (res_tmp rfl) resnil)) (by decide) rfl ?_
  exact ⟨rfl, rfl⟩
 ·replace h := cond_f h hc5
  refine run_skip ?_
  refine goes_code ?_
  refine run_seq ?_
  refine run_region' ?_
  refine oy rfl rfl (y_build_struct (cells := #[.int .i64 0, .int .i64 0, .int .i64 0, .int .u8 0, .int .u8 0, .int .u8 0, .int .u8 0, .int .u8 0, .int .u8 0, .int .u8 0, .int .u8 0, .int .u8 0, .int .u8 0, .int .u8 0, .int .u8 0, .int .u8 0, .int .u8 0, .int .u8 0, .int .u8 0, .int .i64 0]) [] [] Tryz.zeroValue57 Tryz.runUnderlying57 (fs_cons Tryz.sizeOf3 (fs_cons Tryz.sizeOf3 (fs_cons Tryz.sizeOf3 (fs_cons Tryz.sizeOf55 (fs_cons Tryz.sizeOf3 fs_nil))))) rfl (by kernel_rfl) (by kernel_rfl)) ?_
  refine ot rfl rfl (t_store 2 Tryz.sizeOf57 rfl rfl rfl rfl (by simp [Value.cells, boxP]) (by simp [Value.cells, Value.oneCell', boxP])) ?_
  rintro _ _ ⟨rfl, rfl⟩
  refine ops_turn (retell 2 (g := box b2 [.int .i64 0, .int .i64 0, .int .i64 0, .int .u8 0, .int .u8 0, .int .u8 0, .int .u8 0, .int .u8 0, .int .u8 0, .int .u8 0, .int .u8 0, .int .u8 0, .int .u8 0, .int .u8 0, .int .u8 0, .int .u8 0, .int .u8 0, .int .u8 0, .int .u8 0, .int .i64 0]) rfl (by kernel_rfl)) ?_
  refine oy rfl rfl (y_assign rfl) ?_
  refine ops_nil ?_
  refine goes_code ?_
  refine run_ret ?_
  obtain rfl := some_eq h
  refine fin_res [.cell 4 57, .tmp 5] [.agg #[.int .i64 0, .int .i64 0, .int .i64 0, .int .u8 0, .int .u8 0, .int .u8 0, .int .u8 0, .int .u8 0, .int .u8 0, .int .u8 0, .int .u8 0, .int .u8 0, .int .u8 0, .int .u8 0, .int .u8 0, .int .u8 0, .int .u8 0, .int .u8 0, .int .u8 0, .int .i64 0], .int .i64 5] [3] [box is_1_0b [.int .i64 is_1_0]] Tryz.results67 rfl (rescons (res_box 2 Tryz.isAgg57 Tryz.sizeOf57 rfl rfl rfl) (rescons (res_tmp rfl) resnil)) (by decide) rfl ?_
  exact ⟨rfl, rfl⟩

def playlist_Find (n : Nat) (p_0 : S_api_Playlist) (num_1 : Int) : Option (S_api_Segment × Int) :=
 obind (playlist_one n p_0 num_1) fun r4 =>
 some (r4.1, r4.2)
theorem playlist_Find_ok (n : Nat) (p_0 : S_api_Playlist) (num_1 : Int) (p_0_Lv : Value) {r : S_api_Segment × Int} (h : playlist_Find n p_0 num_1 = some r) :
  Meets Tryz.prog 23 [.agg #[.int .i64 p_0.First, p_0_Lv, .bool p_0.Done], .int .i64 num_1] [ro p_0_Lv 20 (p_0.L.map S_api_Segment.enc)] (fun v G => v = .tuple #[.agg #[.int .i64 r.1.Num, .int .i64 r.1.Begin, .int .i64 r.1.Len, .int .u8 r.1.Body.a0_, .int .u8 r.1.Body.a1_, .int .u8 r.1.Body.a2_, .int .u8 r.1.Body.a3_, .int .u8 r.1.Body.a4_, .int .u8 r.1.Body.a5_, .int .u8 r.1.Body.a6_, .int .u8 r.1.Body.a7_, .int .u8 r.1.Body.a8_, .int .u8 r.1.Body.a9_, .int .u8 r.1.Body.a10_, .int .u8 r.1.Body.a11_, .int .u8 r.1.Body.a12_, .int .u8 r.1.Body.a13_, .int .u8 r.1.Body.a14_, .int .u8 r.1.Body.a15_, .int .i64 r.1.Size], .int .i64 r.2] ∧ G = []) := by
 refine fn_of_run Tryz.func23 rfl Tryz.ntmps23 rfl (fun w0 o0 => ?_)
 refine run_seq ?_
 refine run_region' ?_
 refine ot rfl rfl (t_box rfl) ?_
 rintro _ _ ⟨b1, rfl, rfl⟩
 refine ot rfl rfl (t_box rfl) ?_
 rintro _ _ ⟨b2, rfl, rfl⟩
 refine ot rfl rfl (t_alloc Tryz.zeroValue57) ?_
 rintro _ _ ⟨b3, rfl, rfl⟩
 refine oy rfl rfl (y_assign rfl) ?_
 refine ops_nil ?_
 refine goes_code ?_
 refine run_seq ?_
 refine run_region' ?_
 refine oy rfl rfl (y_load_boxagg (c := [.int .i64 p_0.First, p_0_Lv, .bool p_0.Done]) 1 Tryz.isAgg24 Tryz.sizeOf24 rfl rfl rfl) ?_
 refine oy rfl rfl (y_makeFunc (vs := [boxP b2 0]) rfl) ?_
 obtain ⟨r4, hr5, h⟩ := obind_some h
 refine ot rfl rfl (t_callx (vs := [.agg #[.int .i64 p_0.First, p_0_Lv, .bool p_0.Done], .func (.func 68) #[] #[boxP b2 0]]) (cs := []) [(0, 0), (2, 2)] rfl Tryz.call67 rfl (playlist_one_ok n p_0 num_1 p_0_Lv b2 hr5) (showsX_view 0 rfl views_ro (showsX_lend 2 rfl showsX_nil)) rfl (.inl rfl)) ?_
 rintro _ _ ⟨_, ⟨rfl, rfl⟩, rfl⟩
 refine oy rfl rfl (y_extract rfl rfl) ?_
 refine oy rfl rfl (y_extract rfl rfl) ?_
 refine ot rfl rfl (t_store 3 Tryz.sizeOf57 rfl rfl rfl rfl (by simp [Value.cells, boxP]) (by simp [Value.cells, Value.oneCell', boxP])) ?_
 rintro _ _ ⟨rfl, rfl⟩
 refine ops_turn (retell 3 (g := box b3 [.int .i64 r4.1.Num, .int .i64 r4.1.Begin, .int .i64 r4.1.Len, .int .u8 r4.1.Body.a0_, .int .u8 r4.1.Body.a1_, .int .u8 r4.1.Body.a2_, .int .u8 r4.1.Body.a3_, .int .u8 r4.1.Body.a4_, .int .u8 r4.1.Body.a5_, .int .u8 r4.1.Body.a6_, .int .u8 r4.1.Body.a7_, .int .u8 r4.1.Body.a8_, .int .u8 r4.1.Body.a9_, .int .u8 r4.1.Body.a10_, .int .u8 r4.1.Body.a11_, .int .u8 r4.1.Body.a12_, .int .u8 r4.1.Body.a13_, .int .u8 r4.1.Body.a14_, .int .u8 r4.1.Body.a15_, .int .i64 r4.1.Size]) rfl (by kernel_rfl)) ?_
 refine oy rfl rfl (y_assign rfl) ?_
 refine ops_nil ?_
 refine goes_code ?_
 refine run_ret ?_
 obtain rfl := some_eq h
 refine fin_res [.cell 4 57, .tmp 5] [.agg #[.int .i64 r4.1.Num, .int .i64 r4.1.Begin, .int .i64 r4.1.Len, .int .u8 r4.1.Body.a0_, .int .u8 r4.1.Body.a1_, .int .u8 r4.1.Body.a2_, .int .u8 r4.1.Body.a3_, .int .u8 r4.1.Body.a4_, .int .u8 r4.1.Body.a5_, .int .u8 r4.1.Body.a6_, .int .u8 r4.1.Body.a7_, .int .u8 r4.1.Body.a8_, .int .u8 r4.1.Body.a9_, .int .u8 r4.1.Body.a10_, .int .u8 r4.1.Body.a11_, .int .u8 r4.1.Body.a12_, .int .u8 r4.1.Body.a13_, .int .u8 r4.1.Body.a14_, .int .u8 r4.1.Body.a15_, .int .i64 r4.1.Size], .int .i64 r4.2] [] [] Tryz.results23 rfl (rescons (res_box 3 Tryz.isAgg57 Tryz.sizeOf57 rfl rfl rfl) (rescons (res_tmp rfl) resnil)) (by decide) rfl ?_
 exact ⟨rfl, rfl⟩

def playlist_Merge_L1 (n : Nat) (x_19 : (List S_api_Segment)) (x_21 : Int) (x_22 : (List S_api_Segment)) (x_23 : Bool) : (Int) → Option (Lp (Int) (Lp (Unit) (S_api_Playlist × Int))) :=
 fun s_52 =>
  cond (decide (s_52 < (x_19.length : Int)))
   (idx x_19 s_52 fun x58 =>
   obind (playlist_Find n (S_api_Playlist.mk x_21 x_22 x_23) x58.Num) fun r60 =>
   cond (decide (r60.2 = 0) && (!(decide (r60.1.Num = x58.Num) && (decide (r60.1.Begin = x58.Begin) && (decide (r60.1.Len = x58.Len) && (decide (S_api_Digest.toL r60.1.Body = S_api_Digest.toL x58.Body) && (decide (r60.1.Size = x58.Size))))))))
    (some (.stop (.stop ((S_api_Playlist.mk 0 ([] : List S_api_Segment) false), 430))))
    (some (.go (IntKind.i64.wrap (s_52 + 1)))))
   (some (.stop (.go ())))
def playlist_Merge (n : Nat) (a_0 : S_api_Playlist) (b_1 : S_api_Playlist) (window_2 : Int) : Option (S_api_Playlist × Int) :=
 cond (decide (window_2 < 1) || decide (100 < window_2))
  (some ((S_api_Playlist.mk 0 ([] : List S_api_Segment) false), 1))
  (bindJ (S := Int × (List S_api_Segment) × Bool × Int × (List S_api_Segment) × Bool)
   (obind (playlist_Next b_1) fun r30 =>
   obind (playlist_Next a_0) fun r32 =>
   cond (decide (r32 < r30))
    (some (.go (a_0.First, a_0.L, a_0.Done, b_1.First, b_1.L, b_1.Done)))
    (some (.go (b_1.First, b_1.L, b_1.Done, a_0.First, a_0.L, a_0.Done))))
  (fun (x_18, x_19, x_20, x_21, x_22, x_23) =>
   bindJ (S := Bool)
    (cond x_20
     (obind (playlist_Next (S_api_Playlist.mk x_18 x_19 x_20)) fun r43 =>
     obind (playlist_Next (S_api_Playlist.mk x_21 x_22 x_23)) fun r45 =>
     some (.go (decide (r43 < r45))))
     (some (.go false)))
   (fun b37 =>
    cond b37
     (some ((S_api_Playlist.mk 0 ([] : List S_api_Segment) false), 430))
     (bindJ (S := Unit)
      (iter (playlist_Merge_L1 n x_19 x_21 x_22 x_23) n 0)
     (fun _ =>
      obind (slices_Clone_weirgate_api_Segment_weirgate_api_Segment_40 x_22) fun r67 =>
      bindJ (S := Int × (List S_api_Segment))
       (bindJ (S := Bool)
        (cond (decide (0 < (x_19.length : Int)) && decide (0 < (x_22.length : Int)))
         (obind (playlist_Next (S_api_Playlist.mk x_18 x_19 x_20)) fun r99 =>
         some (.go (decide (x_21 ≤ r99))))
         (some (.go false)))
       (fun b93 =>
        cond b93
         (obind (playlist_Next (S_api_Playlist.mk x_18 x_19 x_20)) fun r102 =>
         bindJ (S := Bool)
          (cond (decide (r102 = x_21))
           (idx x_22 0 fun x110 =>
           obind (playlist_Edge (S_api_Playlist.mk x_18 x_19 x_20)) fun r111 =>
           some (.go (decide (r111 ≠ x110.Begin))))
           (some (.go false)))
         (fun b104 =>
          cond b104
           (some (.stop ((S_api_Playlist.mk 0 ([] : List S_api_Segment) false), 430)))
           (need (0 ≤ (0 : Int) ∧ 0 ≤ (max 0 (IntKind.i64.wrap (x_21 - x_18))) ∧ (max 0 (IntKind.i64.wrap (x_21 - x_18))) ≤ (x_19.length : Int)) (
           obind (slices_Clone_weirgate_api_Segment_weirgate_api_Segment_40 (x_19.take (((max 0 (IntKind.i64.wrap (x_21 - x_18)))).toNat))) fun r115 =>
           need (r115.length + x_22.length ≤ 4294967296) (
           some (.go ((IntKind.i64.wrap (x_21 - (max 0 (IntKind.i64.wrap (x_21 - x_18))))), (r115 ++ x_22))))))))
         (some (.go (x_21, r67)))))
      (fun (x_83, x_84) =>
       obind (playlist_cut (S_api_Playlist.mk x_83 x_84 (a_0.Done || b_1.Done)) window_2) fun r121 =>
       some (r121, 0)))))))
theorem playlist_Merge_ok (n : Nat) (a_0 : S_api_Playlist) (b_1 : S_api_Playlist) (window_2 : Int) (a_0_Lv : Value) (b_1_Lv : Value) {r : S_api_Playlist × Int} (h : playlist_Merge n a_0 b_1 window_2 = some r) :
  Meets Tryz.prog 9 [.agg #[.int .i64 a_0.First, a_0_Lv, .bool a_0.Done], .agg #[.int .i64 b_1.First, b_1_Lv, .bool b_1.Done], .int .i64 window_2] [ro a_0_Lv 20 (a_0.L.map S_api_Segment.enc), ro b_1_Lv 20 (b_1.L.map S_api_Segment.enc)] (fun v G => ∃ v0, v = .tuple #[.agg #[.int .i64 r.1.First, v0, .bool r.1.Done], .int .i64 r.2] ∧ G = [ro v0 20 (r.1.L.map S_api_Segment.enc)]) := by
 refine fn_of_run Tryz.func9 rfl Tryz.ntmps9 rfl (fun w0 o0 => ?_)
 refine run_seq ?_
 refine run_region' ?_
 refine ot rfl rfl (t_box rfl) ?_
 rintro _ _ ⟨b1, rfl, rfl⟩
 refine ot rfl rfl (t_box rfl) ?_
 rintro _ _ ⟨b2, rfl, rfl⟩
 refine ot rfl rfl (t_alloc Tryz.zeroValue24) ?_
 rintro _ _ ⟨b3, rfl, rfl⟩
 refine oy rfl rfl (y_assign rfl) ?_
 refine ops_nil ?_
 refine goes_code ?_
 refine run_seq ?_
 refine run_seq ?_
 refine run_region' ?_
 refine oy rfl rfl (y_move rfl) ?_
 refine oy rfl rfl (y_lss rfl rfl) ?_
 refine oy rfl rfl (y_move rfl) ?_
 refine ops_cut 3 (Bool) (fun σ => [(2, .int .i64 window_2), (3, boxP b1 0), (4, boxP b2 0), (6, boxP b3 0), (21, .bool σ)]) (fun σ => [ro a_0_Lv 20 (a_0.L.map S_api_Segment.enc), ro b_1_Lv 20 (b_1.L.map S_api_Segment.enc), box b1 [.int .i64 a_0.First, a_0_Lv, .bool a_0.Done], box b2 [.int .i64 b_1.First, b_1_Lv, .bool b_1.Done], box b3 [.int .i64 0, .slice none 0 0, .bool false]]) (fun σ => σ = (decide (window_2 < 1) || decide (100 < window_2))) (fun L4 hL5 => ?_) ?_
 ·refine ops_split 18 (decide (window_2 < 1)) rfl (fun hg6 => ?_) (fun hg6 => ?_)
  ·skip
   refine ops_no 2 false 18 rfl rfl rfl rfl rfl ?_
   refine ops_no 2 false 18 rfl rfl rfl rfl rfl ?_
   refine oy rfl rfl (y_pick (b := true) rfl rfl) ?_
   refine ops_nil ?_
   exact goes_cut hL5 true [0, 1, 2, 3, 4] (qv5 rfl rfl rfl rfl rfl) (by decide) rfl (by rw [hg6]; simp)
  ·skip
   refine ops_y (wg 2 false 18 rfl rfl rfl rfl) rfl (y_move rfl) ?_
   refine ops_y (wg 2 false 18 rfl rfl rfl rfl) rfl (y_gtr rfl rfl) ?_
   refine oy rfl rfl (y_pick (b := false) rfl rfl) ?_
   refine ops_nil ?_
   exact goes_cut hL5 (decide (100 < window_2)) [0, 1, 2, 3, 4] (qv5 rfl rfl rfl rfl rfl) (by decide) rfl (by rw [hg6]; simp)
 rintro _ rfl
 refine ops_nil ?_
 refine goes_code ?_
 refine run_cond (decide (window_2 < 1) || decide (100 < window_2)) rfl (fun hc7 => ?_) (fun hc7 => ?_)
 ·replace h := cond_t h hc7
  refine run_seq ?_
  refine run_region' ?_
  refine oy rfl rfl (y_build_struct (cells := #[.int .i64 0, .slice none 0 0, .bool false]) [] [] Tryz.zeroValue24 Tryz.runUnderlying24 (fs_cons Tryz.sizeOf3 (fs_cons Tryz.sizeOf22 (fs_cons Tryz.sizeOf4 fs_nil))) rfl rfl rfl) ?_
  refine ot rfl rfl (t_store 4 Tryz.sizeOf24 rfl rfl rfl rfl (by simp [Value.cells, boxP]) (by simp [Value.cells, Value.oneCell', boxP])) ?_
  rintro _ _ ⟨rfl, rfl⟩
  refine ops_turn (retell 4 (g := box b3 [.int .i64 0, .slice none 0 0, .bool false]) rfl rfl) ?_
  refine oy rfl rfl (y_assign rfl) ?_
  refine ops_nil ?_
  refine goes_code ?_
  refine run_ret ?_
  refine fin_turn (nilro 20) ?_
  refine fin_turn (retell 5 (g := ro (.slice none 0 0) 20 (([] : List S_api_Segment).map S_api_Segment.enc)) rfl rfl) ?_
  obtain rfl := some_eq h
  refine fin_res [.cell 6 24, .tmp 7] [.agg #[.int .i64 0, (.slice none 0 0), .bool false], .int .i64 1] [5] [ro (.slice none 0 0) 20 (([] : List S_api_Segment).map S_api_Segment.enc)] Tryz.results9 rfl (rescons (res_box 4 Tryz.isAgg24 Tryz.sizeOf24 rfl rfl rfl) (rescons (res_tmp rfl) resnil)) (by decide) rfl ?_
  exact ⟨_, rfl, rfl⟩
 ·replace h := cond_f h hc7
  refine run_skip ?_
  refine goes_code ?_
  refine run_seq ?_
  refine run_drawany [ro a_0_Lv 20 (a_0.L.map S_api_Segment.enc), ro b_1_Lv 20 (b_1.L.map S_api_Segment.enc), box b1 [.int .i64 a_0.First, a_0_Lv, .bool a_0.Done], box b2 [.int .i64 b_1.First, b_1_Lv, .bool b_1.Done], box b3 [.int .i64 0, .slice none 0 0, .bool false]] (by kernel_rfl) ?_
  refine any_y 0 rfl (by kernel_rfl) (by kernel_rfl) (by kernel_rfl) (ss (ss (ss (ss (ss (sn)))))) (wn rfl) rfl (y_load_boxagg (c := [.int .i64 b_1.First, b_1_Lv, .bool b_1.Done]) 3 Tryz.isAgg24 Tryz.sizeOf24 rfl rfl rfl) ?_
  refine any_y 1 rfl (by kernel_rfl) (by kernel_rfl) (by kernel_rfl) (ss (ss (ss (ss (ss (sn)))))) (wn rfl) rfl (y_load_boxagg (c := [.int .i64 a_0.First, a_0_Lv, .bool a_0.Done]) 2 Tryz.isAgg24 Tryz.sizeOf24 rfl rfl rfl) ?_
  refine any_cut2 #[true, true, true, true, true, true] 0 (Nat × Nat) (fun σ => [(2, .int .i64 window_2), (3, boxP b1 0), (4, boxP b2 0), (6, boxP b3 0), (8, boxP σ.1 0), (9, boxP σ.2 0)]) (fun σ => [ro a_0_Lv 20 (a_0.L.map S_api_Segment.enc), ro b_1_Lv 20 (b_1.L.map S_api_Segment.enc), box b1 [.int .i64 a_0.First, a_0_Lv, .bool a_0.Done], box b2 [.int .i64 b_1.First, b_1_Lv, .bool b_1.Done], box b3 [.int .i64 0, .slice none 0 0, .bool false], box σ.1 [.int .i64 b_1.First, b_1_Lv, .bool b_1.Done], box σ.2 [.int .i64 a_0.First, a_0_Lv, .bool a_0.Done]]) ?_ (fun hK17 => ?_)
  ·rintro ⟨b12, b14⟩
   change AnyL _ _ _ _ _ (VF.of [(2, .int .i64 window_2), (3, boxP b1 0), (4, boxP b2 0), (6, boxP b3 0), (8, boxP b12 0), (9, boxP b14 0)]) [ro a_0_Lv 20 (a_0.L.map S_api_Segment.enc), ro b_1_Lv 20 (b_1.L.map S_api_Segment.enc), box b1 [.int .i64 a_0.First, a_0_Lv, .bool a_0.Done], box b2 [.int .i64 b_1.First, b_1_Lv, .bool b_1.Done], box b3 [.int .i64 0, .slice none 0 0, .bool false], box b12 [.int .i64 b_1.First, b_1_Lv, .bool b_1.Done], box b14 [.int .i64 a_0.First, a_0_Lv, .bool a_0.Done]] _
   refine any_nil (by kernel_rfl) ?_
   refine goes_code ?_
   obtain ⟨o26, h, ho27⟩ := bindJ_some h
   refine run_cut ((Int × (List S_api_Segment) × Bool × Int × (List S_api_Segment) × Bool) × (Value × Value)) (fun σ => [(2, .int .i64 window_2), (3, boxP b1 0), (4, boxP b2 0), (6, boxP b3 0), (8, boxP b12 0), (9, boxP b14 0)]) (fun σ => [box b1 [.int .i64 a_0.First, a_0_Lv, .bool a_0.Done], ro a_0_Lv 20 (a_0.L.map S_api_Segment.enc), box b2 [.int .i64 b_1.First, b_1_Lv, .bool b_1.Done], ro b_1_Lv 20 (b_1.L.map S_api_Segment.enc), box b3 [.int .i64 0, .slice none 0 0, .bool false], box b12 [.int .i64 σ.1.1, σ.2.1, .bool σ.1.2.2.1], ro σ.2.1 20 (σ.1.2.1.map S_api_Segment.enc), box b14 [.int .i64 σ.1.2.2.2.1, σ.2.2, .bool σ.1.2.2.2.2.2], ro σ.2.2 20 (σ.1.2.2.2.2.1.map S_api_Segment.enc)]) (fun σ => o26 = .go σ.1) (fun L29 hL28 => ?_) ?_
   ·
    refine run_seq ?_
    refine run_drawany [ro a_0_Lv 20 (a_0.L.map S_api_Segment.enc), ro b_1_Lv 20 (b_1.L.map S_api_Segment.enc), box b1 [.int .i64 a_0.First, a_0_Lv, .bool a_0.Done], box b2 [.int .i64 b_1.First, b_1_Lv, .bool b_1.Done], box b3 [.int .i64 0, .slice none 0 0, .bool false], box b12 [.int .i64 b_1.First, b_1_Lv, .bool b_1.Done], box b14 [.int .i64 a_0.First, a_0_Lv, .bool a_0.Done]] (by kernel_rfl) ?_
    refine any_y 0 rfl (by kernel_rfl) (by kernel_rfl) (by kernel_rfl) (ss (ss (ss (ss (ss (ss (ss (sn)))))))) (wn rfl) rfl (y_load_boxagg (c := [.int .i64 b_1.First, b_1_Lv, .bool b_1.Done]) 3 Tryz.isAgg24 Tryz.sizeOf24 rfl rfl rfl) ?_
    refine any_y 2 rfl (by kernel_rfl) (by kernel_rfl) (by kernel_rfl) (ss (ss (ss (ss (ss (ss (ss (sn)))))))) (wn rfl) rfl (y_load_boxagg (c := [.int .i64 a_0.First, a_0_Lv, .bool a_0.Done]) 2 Tryz.isAgg24 Tryz.sizeOf24 rfl rfl rfl) ?_
    refine any_all [1] (by kernel_rfl) rfl (anyo_cons ?_ anyo_nil)
    obtain ⟨r30, hr31, h⟩ := obind_some h
    refine any_t rfl (wn rfl) rfl (t_callx (vs := [.agg #[.int .i64 b_1.First, b_1_Lv, .bool b_1.Done]]) (cs := []) [(1, 0)] rfl Tryz.call27 rfl (playlist_Next_ok b_1 b_1_Lv hr31) (showsX_view 1 rfl views_ro showsX_nil) rfl (.inl rfl)) ?_
    rintro _ _ ⟨_, ⟨rfl, rfl⟩, rfl⟩
    refine ⟨(ss (ss (ss (ss (ss (ss (ss (sn)))))))), ?_⟩
    refine any_all [3] (by kernel_rfl) rfl (anyo_cons ?_ anyo_nil)
    obtain ⟨r32, hr33, h⟩ := obind_some h
    refine any_t rfl (wn rfl) rfl (t_callx (vs := [.agg #[.int .i64 a_0.First, a_0_Lv, .bool a_0.Done]]) (cs := []) [(0, 0)] rfl Tryz.call27 rfl (playlist_Next_ok a_0 a_0_Lv hr33) (showsX_view 0 rfl views_ro showsX_nil) rfl (.inl rfl)) ?_
    rintro _ _ ⟨_, ⟨rfl, rfl⟩, rfl⟩
    refine ⟨(ss (ss (ss (ss (ss (ss (ss (sn)))))))), ?_⟩
    refine any_y 4 rfl (by kernel_rfl) (by kernel_rfl) (by kernel_rfl) (ss (ss (ss (ss (ss (ss (ss (sn)))))))) (wn rfl) rfl (y_gtr rfl rfl) ?_
    refine any_nil (by kernel_rfl) ?_
    refine goes_code ?_
    refine run_cond (decide (r32 < r30)) rfl (fun hc34 => ?_) (fun hc34 => ?_)
    ·replace h := cond_t h hc34
     refine run_drawany [ro a_0_Lv 20 (a_0.L.map S_api_Segment.enc), ro b_1_Lv 20 (b_1.L.map S_api_Segment.enc), box b1 [.int .i64 a_0.First, a_0_Lv, .bool a_0.Done], box b2 [.int .i64 b_1.First, b_1_Lv, .bool b_1.Done], box b3 [.int .i64 0, .slice none 0 0, .bool false], HA.emp, HA.emp] (by kernel_rfl) ?_
     refine any_y 0 rfl (by kernel_rfl) (by kernel_rfl) (by kernel_rfl) (ss (ss (ss (ss (ss (se (se (sn)))))))) (wn rfl) rfl (y_load_boxagg (c := [.int .i64 a_0.First, a_0_Lv, .bool a_0.Done]) 2 Tryz.isAgg24 Tryz.sizeOf24 rfl rfl rfl) ?_
     refine any_y 1 rfl (by kernel_rfl) (by kernel_rfl) (by kernel_rfl) (ss (ss (ss (ss (ss (se (se (sn)))))))) (wn rfl) rfl (y_load_boxagg (c := [.int .i64 b_1.First, b_1_Lv, .bool b_1.Done]) 3 Tryz.isAgg24 Tryz.sizeOf24 rfl rfl rfl) ?_
     refine any_all [2] (by kernel_rfl) rfl (anyo_cons ?_ anyo_nil)
     refine anyo_slc 0 rfl reads_ro (fun hs35 hs35o => ?_)
     refine any_t rfl (wn rfl) rfl (t_store 5 Tryz.sizeOf24 rfl rfl rfl rfl (by simp [Value.cells, boxP]) (allL_cons rfl (allL_cons hs35o (allL_cons rfl (allL_nil))))) ?_
     rintro _ _ ⟨rfl, rfl⟩
     refine ⟨(ss (ss (ss (ss (ss (se (se (sn)))))))), ?_⟩
     refine any_turn (retell 5 (g := box b12 [.int .i64 a_0.First, a_0_Lv, .bool a_0.Done]) rfl rfl) ?_
     refine any_all [3] (by kernel_rfl) rfl (anyo_cons ?_ anyo_nil)
     refine anyo_slc 1 rfl reads_ro (fun hs36 hs36o => ?_)
     refine any_t rfl (wn rfl) rfl (t_store 6 Tryz.sizeOf24 rfl rfl rfl rfl (by simp [Value.cells, boxP]) (allL_cons rfl (allL_cons hs36o (allL_cons rfl (allL_nil))))) ?_
     rintro _ _ ⟨rfl, rfl⟩
     refine ⟨(ss (ss (ss (ss (ss (se (se (sn)))))))), ?_⟩
     refine any_turn (retell 6 (g := box b14 [.int .i64 b_1.First, b_1_Lv, .bool b_1.Done]) rfl rfl) ?_
     refine any_nil (by kernel_rfl) ?_
     refine goes_turn (turn_dup 0 free_ro rfl) ?_
     refine goes_turn (turn_dup 1 free_ro rfl) ?_
     obtain rfl := some_eq h
     exact goes_cut hL28 ((a_0.First, a_0.L, a_0.Done, b_1.First, b_1.L, b_1.Done), (a_0_Lv, b_1_Lv)) [2, 0, 3, 1, 4, 5, 7, 6, 8] (qv6 rfl rfl rfl rfl rfl rfl) (by decide) rfl rfl
    ·replace h := cond_f h hc34
     refine run_skip ?_
     refine goes_turn (turn_dup 1 free_ro rfl) ?_
     refine goes_turn (turn_dup 0 free_ro rfl) ?_
     obtain rfl := some_eq h
     exact goes_cut hL28 ((b_1.First, b_1.L, b_1.Done, a_0.First, a_0.L, a_0.Done), (b_1_Lv, a_0_Lv)) [2, 0, 3, 1, 4, 5, 7, 6, 8] (qv6 rfl rfl rfl rfl rfl rfl) (by decide) rfl rfl
   rintro ⟨⟨x_18, x_19, x_20, x_21, x_22, x_23⟩, ⟨v24, v25⟩⟩ hj
   obtain rfl : o26 = _ := hj
   replace h := after_go ho27
   clear ho27
   change Run _ _ _ (VF.of [(2, .int .i64 window_2), (3, boxP b1 0), (4, boxP b2 0), (6, boxP b3 0), (8, boxP b12 0), (9, boxP b14 0)]) [box b1 [.int .i64 a_0.First, a_0_Lv, .bool a_0.Done], ro a_0_Lv 20 (a_0.L.map S_api_Segment.enc), box b2 [.int .i64 b_1.First, b_1_Lv, .bool b_1.Done], ro b_1_Lv 20 (b_1.L.map S_api_Segment.enc), box b3 [.int .i64 0, .slice none 0 0, .bool false], box b12 [.int .i64 x_18, v24, .bool x_20], ro v24 20 (x_19.map S_api_Segment.enc), box b14 [.int .i64 x_21, v25, .bool x_23], ro v25 20 (x_22.map S_api_Segment.enc)]
   refine run_seq ?_
   refine run_seq ?_
   refine run_drawany [box b1 [.int .i64 a_0.First, a_0_Lv, .bool a_0.Done], ro a_0_Lv 20 (a_0.L.map S_api_Segment.enc), box b2 [.int .i64 b_1.First, b_1_Lv, .bool b_1.Done], ro b_1_Lv 20 (b_1.L.map S_api_Segment.enc), box b3 [.int .i64 0, .slice none 0 0, .bool false], box b12 [.int .i64 x_18, v24, .bool x_20], ro v24 20 (x_19.map S_api_Segment.enc), box b14 [.int .i64 x_21, v25, .bool x_23], ro v25 20 (x_22.map S_api_Segment.enc)] (by kernel_rfl) ?_
   refine any_y 0 rfl (by kernel_rfl) (by kernel_rfl) (by kernel_rfl) (ss (ss (ss (ss (ss (ss (ss (ss (ss (sn)))))))))) (wn rfl) rfl (y_fieldAddr_box (sz := 0) Tryz.runUnderlying24 rfl Tryz.sizeOf4 rfl) ?_
   refine any_y 1 rfl (by kernel_rfl) (by kernel_rfl) (by kernel_rfl) (ss (ss (ss (ss (ss (ss (ss (ss (ss (sn)))))))))) (wn rfl) rfl (y_load_box 5 Tryz.isAgg4 rfl rfl rfl) ?_
   refine any_y 2 rfl (by kernel_rfl) (by kernel_rfl) (by kernel_rfl) (ss (ss (ss (ss (ss (ss (ss (ss (ss (sn)))))))))) (wn rfl) rfl (y_move rfl) ?_
   obtain ⟨o38, h, ho39⟩ := bindJ_some h
   refine any_cut #[true, true, true, true, true, true, true, true, true] 0 Bool (fun σ => [(2, .int .i64 window_2), (3, boxP b1 0), (4, boxP b2 0), (6, boxP b3 0), (8, boxP b12 0), (9, boxP b14 0), (40, .bool σ)]) (fun σ => [box b1 [.int .i64 a_0.First, a_0_Lv, .bool a_0.Done], ro a_0_Lv 20 (a_0.L.map S_api_Segment.enc), box b2 [.int .i64 b_1.First, b_1_Lv, .bool b_1.Done], ro b_1_Lv 20 (b_1.L.map S_api_Segment.enc), box b3 [.int .i64 0, .slice none 0 0, .bool false], box b12 [.int .i64 x_18, v24, .bool x_20], ro v24 20 (x_19.map S_api_Segment.enc), box b14 [.int .i64 x_21, v25, .bool x_23], ro v25 20 (x_22.map S_api_Segment.enc)]) (fun σ => o38 = .go σ) (fun hL41 => ?_) ?_
   ·refine any_split 34 x_20 rfl (fun hg42 => ?_) (fun hg42 => ?_)
    ·replace h := cond_t h hg42
     refine any_y 3 rfl (by kernel_rfl) (by kernel_rfl) (by kernel_rfl) (ss (ss (ss (ss (ss (ss (ss (ss (ss (sn)))))))))) (wg 2 true 34 rfl rfl rfl rfl) rfl (y_load_boxagg (c := [.int .i64 x_18, v24, .bool x_20]) 5 Tryz.isAgg24 Tryz.sizeOf24 rfl rfl rfl) ?_
     refine any_y 5 rfl (by kernel_rfl) (by kernel_rfl) (by kernel_rfl) (ss (ss (ss (ss (ss (ss (ss (ss (ss (sn)))))))))) (wg 2 true 34 rfl rfl rfl rfl) rfl (y_load_boxagg (c := [.int .i64 x_21, v25, .bool x_23]) 7 Tryz.isAgg24 Tryz.sizeOf24 rfl rfl rfl) ?_
     refine any_all [4] (by kernel_rfl) rfl (anyo_cons ?_ anyo_nil)
     obtain ⟨r43, hr44, h⟩ := obind_some h
     refine any_t rfl (wg 2 true 34 rfl rfl rfl rfl) rfl (t_callx (vs := [.agg #[.int .i64 x_18, v24, .bool x_20]]) (cs := []) [(6, 0)] rfl Tryz.call27 rfl (playlist_Next_ok (S_api_Playlist.mk x_18 x_19 x_20) v24 hr44) (showsX_view 6 rfl views_ro showsX_nil) rfl (.inl rfl)) ?_
     rintro _ _ ⟨_, ⟨rfl, rfl⟩, rfl⟩
     refine ⟨(ss (ss (ss (ss (ss (ss (ss (ss (ss (sn)))))))))), ?_⟩
     refine any_all [6] (by kernel_rfl) rfl (anyo_cons ?_ anyo_nil)
     obtain ⟨r45, hr46, h⟩ := obind_some h
     refine any_t rfl (wg 2 true 34 rfl rfl rfl rfl) rfl (t_callx (vs := [.agg #[.int .i64 x_21, v25, .bool x_23]]) (cs := []) [(8, 0)] rfl Tryz.call27 rfl (playlist_Next_ok (S_api_Playlist.mk x_21 x_22 x_23) v25 hr46) (showsX_view 8 rfl views_ro showsX_nil) rfl (.inl rfl)) ?_
     rintro _ _ ⟨_, ⟨rfl, rfl⟩, rfl⟩
     refine ⟨(ss (ss (ss (ss (ss (ss (ss (ss (ss (sn)))))))))), ?_⟩
     refine any_y 7 rfl (by kernel_rfl) (by kernel_rfl) (by kernel_rfl) (ss (ss (ss (ss (ss (ss (ss (ss (ss (sn)))))))))) (wg 2 true 34 rfl rfl rfl rfl) rfl (y_lss rfl rfl) ?_
     refine any_y 8 rfl (by kernel_rfl) (by kernel_rfl) (by kernel_rfl) (ss (ss (ss (ss (ss (ss (ss (ss (ss (sn)))))))))) (wn rfl) rfl (y_pick (b := true) rfl rfl) ?_
     obtain rfl := some_eq h
     exact any_weak [(2, .int .i64 window_2), (3, boxP b1 0), (4, boxP b2 0), (6, boxP b3 0), (8, boxP b12 0), (9, boxP b14 0), (40, .bool (decide (r43 < r45)))] [0, 1, 2, 3, 4, 5, 6, 7, 8] [box b1 [.int .i64 a_0.First, a_0_Lv, .bool a_0.Done], ro a_0_Lv 20 (a_0.L.map S_api_Segment.enc), box b2 [.int .i64 b_1.First, b_1_Lv, .bool b_1.Done], ro b_1_Lv 20 (b_1.L.map S_api_Segment.enc), box b3 [.int .i64 0, .slice none 0 0, .bool false], box b12 [.int .i64 x_18, v24, .bool x_20], ro v24 20 (x_19.map S_api_Segment.enc), box b14 [.int .i64 x_21, v25, .bool x_23], ro v25 20 (x_22.map S_api_Segment.enc)] (by kernel_rfl) (qv7 rfl rfl rfl rfl rfl rfl rfl) (by decide) rfl (hL41 (decide (r43 < r45)) rfl)
    ·replace h := cond_f h hg42
     refine any_no 3 rfl (by kernel_rfl) (by kernel_rfl) (by kernel_rfl) (ss (ss (ss (ss (ss (ss (ss (ss (ss (sn)))))))))) 2 true 34 rfl rfl rfl rfl rfl ?_
     refine any_no 5 rfl (by kernel_rfl) (by kernel_rfl) (by kernel_rfl) (ss (ss (ss (ss (ss (ss (ss (ss (ss (sn)))))))))) 2 true 34 rfl rfl rfl rfl rfl ?_
     refine any_no 4 rfl (by kernel_rfl) (by kernel_rfl) (by kernel_rfl) (ss (ss (ss (ss (ss (ss (ss (ss (ss (sn)))))))))) 2 true 34 rfl rfl rfl rfl rfl ?_
     refine any_no 6 rfl (by kernel_rfl) (by kernel_rfl) (by kernel_rfl) (ss (ss (ss (ss (ss (ss (ss (ss (ss (sn)))))))))) 2 true 34 rfl rfl rfl rfl rfl ?_
     refine any_no 7 rfl (by kernel_rfl) (by kernel_rfl) (by kernel_rfl) (ss (ss (ss (ss (ss (ss (ss (ss (ss (sn)))))))))) 2 true 34 rfl rfl rfl rfl rfl ?_
     refine any_y 8 rfl (by kernel_rfl) (by kernel_rfl) (by kernel_rfl) (ss (ss (ss (ss (ss (ss (ss (ss (ss (sn)))))))))) (wn rfl) rfl (y_pick (b := false) rfl rfl) ?_
     obtain rfl := some_eq h
     exact any_weak [(2, .int .i64 window_2), (3, boxP b1 0), (4, boxP b2 0), (6, boxP b3 0), (8, boxP b12 0), (9, boxP b14 0), (40, .bool false)] [0, 1, 2, 3, 4, 5, 6, 7, 8] [box b1 [.int .i64 a_0.First, a_0_Lv, .bool a_0.Done], ro a_0_Lv 20 (a_0.L.map S_api_Segment.enc), box b2 [.int .i64 b_1.First, b_1_Lv, .bool b_1.Done], ro b_1_Lv 20 (b_1.L.map S_api_Segment.enc), box b3 [.int .i64 0, .slice none 0 0, .bool false], box b12 [.int .i64 x_18, v24, .bool x_20], ro v24 20 (x_19.map S_api_Segment.enc), box b14 [.int .i64 x_21, v25, .bool x_23], ro v25 20 (x_22.map S_api_Segment.enc)] (by kernel_rfl) (qv7 rfl rfl rfl rfl rfl rfl rfl) (by decide) rfl (hL41 false rfl)
   rintro b37 hj
   obtain rfl : o38 = _ := hj
   replace h := after_go ho39
   clear ho39
   refine any_nil (by kernel_rfl) ?_
   refine goes_code ?_
   refine run_cond b37 rfl (fun hc47 => ?_) (fun hc47 => ?_)
   ·replace h := cond_t h hc47
    refine run_seq ?_
    refine run_region' ?_
    refine oy rfl rfl (y_build_struct (cells := #[.int .i64 0, .slice none 0 0, .bool false]) [] [] Tryz.zeroValue24 Tryz.runUnderlying24 (fs_cons Tryz.sizeOf3 (fs_cons Tryz.sizeOf22 (fs_cons Tryz.sizeOf4 fs_nil))) rfl rfl rfl) ?_
    refine ot rfl rfl (t_store 4 Tryz.sizeOf24 rfl rfl rfl rfl (by simp [Value.cells, boxP]) (by simp [Value.cells, Value.oneCell', boxP])) ?_
    rintro _ _ ⟨rfl, rfl⟩
    refine ops_turn (retell 4 (g := box b3 [.int .i64 0, .slice none 0 0, .bool false]) rfl rfl) ?_
    refine oy rfl rfl (y_assign rfl) ?_
    refine ops_nil ?_
    refine goes_code ?_
    refine run_ret ?_
    refine fin_turn (nilro 20) ?_
    refine fin_turn (retell 9 (g := ro (.slice none 0 0) 20 (([] : List S_api_Segment).map S_api_Segment.enc)) rfl rfl) ?_
    obtain rfl := some_eq h
    refine fin_res [.cell 6 24, .tmp 7] [.agg #[.int .i64 0, (.slice none 0 0), .bool false], .int .i64 430] [9] [ro (.slice none 0 0) 20 (([] : List S_api_Segment).map S_api_Segment.enc)] Tryz.results9 rfl (rescons (res_box 4 Tryz.isAgg24 Tryz.sizeOf24 rfl rfl rfl) (rescons (res_tmp rfl) resnil)) (by decide) rfl ?_
    exact ⟨_, rfl, rfl⟩
   ·replace h := cond_f h hc47
    refine run_skip ?_
    refine goes_code ?_
    obtain ⟨o48, h, ho49⟩ := bindJ_some h
    refine run_cut ((Unit) × (Unit)) (fun σ => [(2, .int .i64 window_2), (3, boxP b1 0), (4, boxP b2 0), (6, boxP b3 0), (8, boxP b12 0), (9, boxP b14 0)]) (fun σ => [box b1 [.int .i64 a_0.First, a_0_Lv, .bool a_0.Done], ro a_0_Lv 20 (a_0.L.map S_api_Segment.enc), box b2 [.int .i64 b_1.First, b_1_Lv, .bool b_1.Done], ro b_1_Lv 20 (b_1.L.map S_api_Segment.enc), box b3 [.int .i64 0, .slice none 0 0, .bool false], box b12 [.int .i64 x_18, v24, .bool x_20], ro v24 20 (x_19.map S_api_Segment.enc), box b14 [.int .i64 x_21, v25, .bool x_23], ro v25 20 (x_22.map S_api_Segment.enc)]) (fun σ => o48 = .go σ.1) (fun L51 hL50 => ?_) ?_
    ·
     refine run_seq ?_
     refine run_region' ?_
     refine oy rfl rfl (y_fieldAddr_box (sz := 0) Tryz.runUnderlying24 rfl Tryz.sizeOf22 rfl) ?_
     refine oy rfl rfl (y_load_box 5 Tryz.isAgg22 rfl rfl rfl) ?_
     refine oy rfl rfl ((y_len 6 rfl Tryz.runUnderlying22 rfl rfl reads_ro).to (v_len S_api_Segment.enc _)) ?_
     refine oy rfl rfl (y_move rfl) ?_
     refine ops_nil ?_
     refine goes_code ?_
     refine run_block ?_
     refine run_iter (step := playlist_Merge_L1 n x_19 x_21 x_22 x_23) (n := n) (s0 := 0) h (G := Unit) () (fun σ γ => [(45, .int .i64 σ), (2, .int .i64 window_2), (3, boxP b1 0), (4, boxP b2 0), (6, boxP b3 0), (8, boxP b12 0), (9, boxP b14 0), (43, v24), (44, .int .i64 (x_19.length : Int))]) (fun σ γ => [box b1 [.int .i64 a_0.First, a_0_Lv, .bool a_0.Done], ro a_0_Lv 20 (a_0.L.map S_api_Segment.enc), box b2 [.int .i64 b_1.First, b_1_Lv, .bool b_1.Done], ro b_1_Lv 20 (b_1.L.map S_api_Segment.enc), box b3 [.int .i64 0, .slice none 0 0, .bool false], box b12 [.int .i64 x_18, v24, .bool x_20], ro v24 20 (x_19.map S_api_Segment.enc), box b14 [.int .i64 x_21, v25, .bool x_23], ro v25 20 (x_22.map S_api_Segment.enc)]) [0, 1, 2, 3, 4, 5, 6, 7, 8] (qv9 rfl rfl rfl rfl rfl rfl rfl rfl rfl) (by decide) rfl ?_
     rintro s_52 _ o53 h L56 hgo54 hstop55
     change Run _ _ _ (VF.of [(45, .int .i64 s_52), (2, .int .i64 window_2), (3, boxP b1 0), (4, boxP b2 0), (6, boxP b3 0), (8, boxP b12 0), (9, boxP b14 0), (43, v24), (44, .int .i64 (x_19.length : Int))]) [box b1 [.int .i64 a_0.First, a_0_Lv, .bool a_0.Done], ro a_0_Lv 20 (a_0.L.map S_api_Segment.enc), box b2 [.int .i64 b_1.First, b_1_Lv, .bool b_1.Done], ro b_1_Lv 20 (b_1.L.map S_api_Segment.enc), box b3 [.int .i64 0, .slice none 0 0, .bool false], box b12 [.int .i64 x_18, v24, .bool x_20], ro v24 20 (x_19.map S_api_Segment.enc), box b14 [.int .i64 x_21, v25, .bool x_23], ro v25 20 (x_22.map S_api_Segment.enc)]
     refine run_seq ?_
     refine run_region' ?_
     refine oy rfl rfl (y_lss rfl rfl) ?_
     refine ops_nil ?_
     refine goes_code ?_
     refine run_seq ?_
     refine run_cond (decide (s_52 < (x_19.length : Int))) rfl (fun hc57 => ?_) (fun hc57 => ?_)
     ·replace h := cond_t h hc57
      refine run_skip ?_
      refine goes_code ?_
      refine run_seq ?_
      refine run_block ?_
      refine run_seq ?_
      refine run_region' ?_
      obtain ⟨x58, hzx58, hlx58, hxx58, h⟩ := idx_some h
      refine oy rfl rfl (y_indexAddrI (kd := .i64) (i := s_52) 6 Tryz.runUnderlying22 Tryz.sizeOf57 rfl rfl rfl reads_ro hzx58 (map_lt hlx58)) ?_
      refine oy rfl rfl (y_load_agg (i := s_52.toNat) (c := [.int .i64 x58.Num, .int .i64 x58.Begin, .int .i64 x58.Len, .int .u8 x58.Body.a0_, .int .u8 x58.Body.a1_, .int .u8 x58.Body.a2_, .int .u8 x58.Body.a3_, .int .u8 x58.Body.a4_, .int .u8 x58.Body.a5_, .int .u8 x58.Body.a6_, .int .u8 x58.Body.a7_, .int .u8 x58.Body.a8_, .int .u8 x58.Body.a9_, .int .u8 x58.Body.a10_, .int .u8 x58.Body.a11_, .int .u8 x58.Body.a12_, .int .u8 x58.Body.a13_, .int .u8 x58.Body.a14_, .int .u8 x58.Body.a15_, .int .i64 x58.Size]) 6 Tryz.isAgg57 Tryz.sizeOf57 rfl rfl reads_ro (map_get hxx58)) ?_
      refine ot rfl rfl (t_alloc Tryz.zeroValue57) ?_
      rintro _ _ ⟨b59, rfl, rfl⟩
      refine ot rfl rfl (t_store 9 Tryz.sizeOf57 rfl rfl rfl rfl (by simp [Value.cells, boxP]) (by simp [Value.cells, Value.oneCell', boxP])) ?_
      rintro _ _ ⟨rfl, rfl⟩
      refine ops_turn (retell 9 (g := box b59 [.int .i64 x58.Num, .int .i64 x58.Begin, .int .i64 x58.Len, .int .u8 x58.Body.a0_, .int .u8 x58.Body.a1_, .int .u8 x58.Body.a2_, .int .u8 x58.Body.a3_, .int .u8 x58.Body.a4_, .int .u8 x58.Body.a5_, .int .u8 x58.Body.a6_, .int .u8 x58.Body.a7_, .int .u8 x58.Body.a8_, .int .u8 x58.Body.a9_, .int .u8 x58.Body.a10_, .int .u8 x58.Body.a11_, .int .u8 x58.Body.a12_, .int .u8 x58.Body.a13_, .int .u8 x58.Body.a14_, .int .u8 x58.Body.a15_, .int .i64 x58.Size]) rfl (by kernel_rfl)) ?_
      refine ops_nil ?_
      refine goes_code ?_
      refine run_seq ?_
      refine run_region' ?_
      refine oy rfl rfl (y_load_boxagg (c := [.int .i64 x_21, v25, .bool x_23]) 7 Tryz.isAgg24 Tryz.sizeOf24 rfl rfl rfl) ?_
      refine oy rfl rfl (y_fieldAddr_box (sz := 0) Tryz.runUnderlying57 rfl Tryz.sizeOf3 rfl) ?_
      refine oy rfl rfl (y_load_box 9 Tryz.isAgg3 rfl rfl rfl) ?_
      obtain ⟨r60, hr61, h⟩ := obind_some h
      refine ot rfl rfl (t_callx (vs := [.agg #[.int .i64 x_21, v25, .bool x_23], .int .i64 x58.Num]) (cs := []) [(8, 0)] rfl Tryz.call23 rfl (playlist_Find_ok n (S_api_Playlist.mk x_21 x_22 x_23) x58.Num v25 hr61) (showsX_view 8 rfl views_ro showsX_nil) rfl (.inl rfl)) ?_
      rintro _ _ ⟨_, ⟨rfl, rfl⟩, rfl⟩
      refine oy rfl rfl (y_move rfl) ?_
      refine oy rfl rfl (y_extract rfl rfl) ?_
      refine oy rfl rfl (y_extract rfl rfl) ?_
      refine ot rfl rfl (t_alloc Tryz.zeroValue57) ?_
      rintro _ _ ⟨b62, rfl, rfl⟩
      refine ot rfl rfl (t_store 10 Tryz.sizeOf57 rfl rfl rfl rfl (by simp [Value.cells, boxP]) (by simp [Value.cells, Value.oneCell', boxP])) ?_
      rintro _ _ ⟨rfl, rfl⟩
      refine ops_turn (retell 10 (g := box b62 [.int .i64 r60.1.Num, .int .i64 r60.1.Begin, .int .i64 r60.1.Len, .int .u8 r60.1.Body.a0_, .int .u8 r60.1.Body.a1_, .int .u8 r60.1.Body.a2_, .int .u8 r60.1.Body.a3_, .int .u8 r60.1.Body.a4_, .int .u8 r60.1.Body.a5_, .int .u8 r60.1.Body.a6_, .int .u8 r60.1.Body.a7_, .int .u8 r60.1.Body.a8_, .int .u8 r60.1.Body.a9_, .int .u8 r60.1.Body.a10_, .int .u8 r60.1.Body.a11_, .int .u8 r60.1.Body.a12_, .int .u8 r60.1.Body.a13_, .int .u8 r60.1.Body.a14_, .int .u8 r60.1.Body.a15_, .int .i64 r60.1.Size]) rfl (by kernel_rfl)) ?_
      refine oy rfl rfl (y_assign rfl) ?_
      refine ops_nil ?_
      refine goes_code ?_
      refine run_seq ?_
      refine run_weak [(45, .int .i64 s_52), (2, .int .i64 window_2), (3, boxP b1 0), (4, boxP b2 0), (6, boxP b3 0), (8, boxP b12 0), (9, boxP b14 0), (43, v24), (44, .int .i64 (x_19.length : Int)), (11, boxP b59 0), (12, boxP b62 0), (13, .int .i64 r60.2)] [0, 1, 2, 3, 4, 5, 6, 7, 8, 9, 10] [box b1 [.int .i64 a_0.First, a_0_Lv, .bool a_0.Done], ro a_0_Lv 20 (a_0.L.map S_api_Segment.enc), box b2 [.int .i64 b_1.First, b_1_Lv, .bool b_1.Done], ro b_1_Lv 20 (b_1.L.map S_api_Segment.enc), box b3 [.int .i64 0, .slice none 0 0, .bool false], box b12 [.int .i64 x_18, v24, .bool x_20], ro v24 20 (x_19.map S_api_Segment.enc), box b14 [.int .i64 x_21, v25, .bool x_23], ro v25 20 (x_22.map S_api_Segment.enc), box b59 [.int .i64 x58.Num, .int .i64 x58.Begin, .int .i64 x58.Len, .int .u8 x58.Body.a0_, .int .u8 x58.Body.a1_, .int .u8 x58.Body.a2_, .int .u8 x58.Body.a3_, .int .u8 x58.Body.a4_, .int .u8 x58.Body.a5_, .int .u8 x58.Body.a6_, .int .u8 x58.Body.a7_, .int .u8 x58.Body.a8_, .int .u8 x58.Body.a9_, .int .u8 x58.Body.a10_, .int .u8 x58.Body.a11_, .int .u8 x58.Body.a12_, .int .u8 x58.Body.a13_, .int .u8 x58.Body.a14_, .int .u8 x58.Body.a15_, .int .i64 x58.Size], box b62 [.int .i64 r60.1.Num, .int .i64 r60.1.Begin, .int .i64 r60.1.Len, .int .u8 r60.1.Body.a0_, .int .u8 r60.1.Body.a1_, .int .u8 r60.1.Body.a2_, .int .u8 r60.1.Body.a3_, .int .u8 r60.1.Body.a4_, .int .u8 r60.1.Body.a5_, .int .u8 r60.1.Body.a6_, .int .u8 r60.1.Body.a7_, .int .u8 r60.1.Body.a8_, .int .u8 r60.1.Body.a9_, .int .u8 r60.1.Body.a10_, .int .u8 r60.1.Body.a11_, .int .u8 r60.1.Body.a12_, .int .u8 r60.1.Body.a13_, .int .u8 r60.1.Body.a14_, .int .u8 r60.1.Body.a15_, .int .i64 r60.1.Size]] (qv12 rfl rfl rfl rfl rfl rfl rfl rfl rfl rfl rfl rfl) (by decide) rfl ?_
      refine run_region' ?_
      refine oy rfl rfl (y_move rfl) ?_
      refine oy rfl rfl (y_eql rfl rfl) ?_
      refine oy rfl rfl (y_move rfl) ?_
      refine ops_cut 4 (Bool) (fun σ => [(45, .int .i64 s_52), (2, .int .i64 window_2), (3, boxP b1 0), (4, boxP b2 0), (6, boxP b3 0), (8, boxP b12 0), (9, boxP b14 0), (43, v24), (44, .int .i64 (x_19.length : Int)), (62, .bool σ)]) (fun σ => [box b1 [.int .i64 a_0.First, a_0_Lv, .bool a_0.Done], ro a_0_Lv 20 (a_0.L.map S_api_Segment.enc), box b2 [.int .i64 b_1.First, b_1_Lv, .bool b_1.Done], ro b_1_Lv 20 (b_1.L.map S_api_Segment.enc), box b3 [.int .i64 0, .slice none 0 0, .bool false], box b12 [.int .i64 x_18, v24, .bool x_20], ro v24 20 (x_19.map S_api_Segment.enc), box b14 [.int .i64 x_21, v25, .bool x_23], ro v25 20 (x_22.map S_api_Segment.enc)]) (fun σ => σ = (decide (r60.2 = 0) && (!(decide (r60.1.Num = x58.Num) && (decide (r60.1.Begin = x58.Begin) && (decide (r60.1.Len = x58.Len) && (decide (S_api_Digest.toL r60.1.Body = S_api_Digest.toL x58.Body) && (decide (r60.1.Size = x58.Size))))))))) (fun L63 hL64 => ?_) ?_
      ·refine ops_split 58 (decide (r60.2 = 0)) rfl (fun hg65 => ?_) (fun hg65 => ?_)
       ·skip
        refine ops_y (wg 2 true 58 rfl rfl rfl rfl) rfl (y_load_boxagg (c := [.int .i64 r60.1.Num, .int .i64 r60.1.Begin, .int .i64 r60.1.Len, .int .u8 r60.1.Body.a0_, .int .u8 r60.1.Body.a1_, .int .u8 r60.1.Body.a2_, .int .u8 r60.1.Body.a3_, .int .u8 r60.1.Body.a4_, .int .u8 r60.1.Body.a5_, .int .u8 r60.1.Body.a6_, .int .u8 r60.1.Body.a7_, .int .u8 r60.1.Body.a8_, .int .u8 r60.1.Body.a9_, .int .u8 r60.1.Body.a10_, .int .u8 r60.1.Body.a11_, .int .u8 r60.1.Body.a12_, .int .u8 r60.1.Body.a13_, .int .u8 r60.1.Body.a14_, .int .u8 r60.1.Body.a15_, .int .i64 r60.1.Size]) 10 Tryz.isAgg57 Tryz.sizeOf57 rfl rfl rfl) ?_
        refine ops_y (wg 2 true 58 rfl rfl rfl rfl) rfl (y_load_boxagg (c := [.int .i64 x58.Num, .int .i64 x58.Begin, .int .i64 x58.Len, .int .u8 x58.Body.a0_, .int .u8 x58.Body.a1_, .int .u8 x58.Body.a2_, .int .u8 x58.Body.a3_, .int .u8 x58.Body.a4_, .int .u8 x58.Body.a5_, .int .u8 x58.Body.a6_, .int .u8 x58.Body.a7_, .int .u8 x58.Body.a8_, .int .u8 x58.Body.a9_, .int .u8 x58.Body.a10_, .int .u8 x58.Body.a11_, .int .u8 x58.Body.a12_, .int .u8 x58.Body.a13_, .int .u8 x58.Body.a14_, .int .u8 x58.Body.a15_, .int .i64 x58.Size]) 9 Tryz.isAgg57 Tryz.sizeOf57 rfl rfl rfl) ?_
        refine ops_y (wg 2 true 58 rfl rfl rfl rfl) rfl (y_neS (by kernel_rfl) (by kernel_rfl) Tryz.runUnderlying57 rfl rfl (.cons (eqf_int (by decide) Tryz.runUnderlying3 Tryz.isAgg3 rfl rfl) (.cons (eqf_int (by decide) Tryz.runUnderlying3 Tryz.isAgg3 rfl rfl) (.cons (eqf_int (by decide) Tryz.runUnderlying3 Tryz.isAgg3 rfl rfl) (.cons (eqf_arr (n := 9997) (kd := .u8) (l1 := S_api_Digest.toL r60.1.Body) (l2 := S_api_Digest.toL x58.Body) (by decide) Tryz.runUnderlying55 Tryz.isAgg55 Tryz.sizeOf55 Tryz.sizeOf5 Tryz.runUnderlying5 Tryz.isAgg5 rfl rfl (by kernel_rfl) (by kernel_rfl)) (.cons (eqf_int (by decide) Tryz.runUnderlying3 Tryz.isAgg3 rfl rfl) EqFs.nil)))))) ?_
        refine oy rfl rfl (y_pick (b := true) rfl rfl) ?_
        refine ops_nil ?_
        exact goes_cut hL64 (!(decide (r60.1.Num = x58.Num) && (decide (r60.1.Begin = x58.Begin) && (decide (r60.1.Len = x58.Len) && (decide (S_api_Digest.toL r60.1.Body = S_api_Digest.toL x58.Body) && (decide (r60.1.Size = x58.Size))))))) [0, 1, 2, 3, 4, 5, 6, 7, 8] (qv10 rfl rfl rfl rfl rfl rfl rfl rfl rfl rfl) (by decide) rfl (by rw [hg65]; simp)
       ·skip
        refine ops_no 2 true 58 rfl rfl rfl rfl rfl ?_
        refine ops_no 2 true 58 rfl rfl rfl rfl rfl ?_
        refine ops_no 2 true 58 rfl rfl rfl rfl rfl ?_
        refine oy rfl rfl (y_pick (b := false) rfl rfl) ?_
        refine ops_nil ?_
        exact goes_cut hL64 false [0, 1, 2, 3, 4, 5, 6, 7, 8] (qv10 rfl rfl rfl rfl rfl rfl rfl rfl rfl rfl) (by decide) rfl (by rw [hg65]; simp)
      rintro _ rfl
      refine ops_nil ?_
      refine goes_code ?_
      refine run_cond (decide (r60.2 = 0) && (!(decide (r60.1.Num = x58.Num) && (decide (r60.1.Begin = x58.Begin) && (decide (r60.1.Len = x58.Len) && (decide (S_api_Digest.toL r60.1.Body = S_api_Digest.toL x58.Body) && (decide (r60.1.Size = x58.Size)))))))) rfl (fun hc66 => ?_) (fun hc66 => ?_)
      ·replace h := cond_t h hc66
       refine run_seq ?_
       refine run_region' ?_
       refine oy rfl rfl (y_build_struct (cells := #[.int .i64 0, .slice none 0 0, .bool false]) [] [] Tryz.zeroValue24 Tryz.runUnderlying24 (fs_cons Tryz.sizeOf3 (fs_cons Tryz.sizeOf22 (fs_cons Tryz.sizeOf4 fs_nil))) rfl rfl rfl) ?_
       refine ot rfl rfl (t_store 4 Tryz.sizeOf24 rfl rfl rfl rfl (by simp [Value.cells, boxP]) (by simp [Value.cells, Value.oneCell', boxP])) ?_
       rintro _ _ ⟨rfl, rfl⟩
       refine ops_turn (retell 4 (g := box b3 [.int .i64 0, .slice none 0 0, .bool false]) rfl rfl) ?_
       refine oy rfl rfl (y_assign rfl) ?_
       refine ops_nil ?_
       refine goes_code ?_
       refine run_ret ?_
       refine fin_turn (nilro 20) ?_
       refine fin_turn (retell 9 (g := ro (.slice none 0 0) 20 (([] : List S_api_Segment).map S_api_Segment.enc)) rfl rfl) ?_
       obtain rfl := some_eq h
       obtain rfl := hstop55 _ rfl
       skip
       obtain rfl := after_stop ho49
       refine fin_res [.cell 6 24, .tmp 7] [.agg #[.int .i64 0, (.slice none 0 0), .bool false], .int .i64 430] [9] [ro (.slice none 0 0) 20 (([] : List S_api_Segment).map S_api_Segment.enc)] Tryz.results9 rfl (rescons (res_box 4 Tryz.isAgg24 Tryz.sizeOf24 rfl rfl rfl) (rescons (res_tmp rfl) resnil)) (by decide) rfl ?_
       exact ⟨_, rfl, rfl⟩
      ·replace h := cond_f h hc66
       refine run_skip ?_
       refine goes_blk ?_
       refine goes_code ?_
       refine run_region' ?_
       refine oy rfl rfl (y_add rfl rfl) ?_
       refine oy rfl rfl (y_move rfl) ?_
       refine ops_nil ?_
       obtain rfl := some_eq h
       exact goes_iter hgo54 (IntKind.i64.wrap (s_52 + 1)) () [0, 1, 2, 3, 4, 5, 6, 7, 8] rfl (qv9 rfl rfl rfl rfl rfl rfl rfl rfl rfl) (by decide) rfl
     ·replace h := cond_f h hc57
      refine run_exit _ rfl ?_
      obtain rfl := some_eq h
      obtain rfl := hstop55 _ rfl
      exact goes_cut hL50 ((), ()) [0, 1, 2, 3, 4, 5, 6, 7, 8] (qv6 rfl rfl rfl rfl rfl rfl) (by decide) rfl rfl
    rintro ⟨_, _⟩ hj
    obtain rfl : o48 = _ := hj
    replace h := after_go ho49
    clear ho49
    change Run _ _ _ (VF.of [(2, .int .i64 window_2), (3, boxP b1 0), (4, boxP b2 0), (6, boxP b3 0), (8, boxP b12 0), (9, boxP b14 0)]) [box b1 [.int .i64 a_0.First, a_0_Lv, .bool a_0.Done], ro a_0_Lv 20 (a_0.L.map S_api_Segment.enc), box b2 [.int .i64 b_1.First, b_1_Lv, .bool b_1.Done], ro b_1_Lv 20 (b_1.L.map S_api_Segment.enc), box b3 [.int .i64 0, .slice none 0 0, .bool false], box b12 [.int .i64 x_18, v24, .bool x_20], ro v24 20 (x_19.map S_api_Segment.enc), box b14 [.int .i64 x_21, v25, .bool x_23], ro v25 20 (x_22.map S_api_Segment.enc)]
    refine run_seq ?_
    obtain ⟨r67, hr68, h⟩ := obind_some h
    refine run_drawany [box b1 [.int .i64 a_0.First, a_0_Lv, .bool a_0.Done], ro a_0_Lv 20 (a_0.L.map S_api_Segment.enc), box b2 [.int .i64 b_1.First, b_1_Lv, .bool b_1.Done], ro b_1_Lv 20 (b_1.L.map S_api_Segment.enc), box b3 [.int .i64 0, .slice none 0 0, .bool false], box b12 [.int .i64 x_18, v24, .bool x_20], ro v24 20 (x_19.map S_api_Segment.enc), box b14 [.int .i64 x_21, v25, .bool x_23], ro v25 20 (x_22.map S_api_Segment.enc)] (by kernel_rfl) ?_
    refine any_y 0 rfl (by kernel_rfl) (by kernel_rfl) (by kernel_rfl) (ss (ss (ss (ss (ss (ss (ss (ss (ss (sn)))))))))) (wn rfl) rfl (y_fieldAddr_box (sz := 0) Tryz.runUnderlying24 rfl Tryz.sizeOf3 rfl) ?_
    refine any_y 1 rfl (by kernel_rfl) (by kernel_rfl) (by kernel_rfl) (ss (ss (ss (ss (ss (ss (ss (ss (ss (sn)))))))))) (wn rfl) rfl (y_load_box 7 Tryz.isAgg3 rfl rfl rfl) ?_
    refine any_y 2 rfl (by kernel_rfl) (by kernel_rfl) (by kernel_rfl) (ss (ss (ss (ss (ss (ss (ss (ss (ss (sn)))))))))) (wn rfl) rfl (y_fieldAddr_box (sz := 0) Tryz.runUnderlying24 rfl Tryz.sizeOf22 rfl) ?_
    refine any_y 3 rfl (by kernel_rfl) (by kernel_rfl) (by kernel_rfl) (ss (ss (ss (ss (ss (ss (ss (ss (ss (sn)))))))))) (wn rfl) rfl (y_load_box 7 Tryz.isAgg22 rfl rfl rfl) ?_
    refine any_y 5 rfl (by kernel_rfl) (by kernel_rfl) (by kernel_rfl) (ss (ss (ss (ss (ss (ss (ss (ss (ss (sn)))))))))) (wn rfl) rfl (y_fieldAddr_box (sz := 0) Tryz.runUnderlying24 rfl Tryz.sizeOf4 rfl) ?_
    refine any_y 6 rfl (by kernel_rfl) (by kernel_rfl) (by kernel_rfl) (ss (ss (ss (ss (ss (ss (ss (ss (ss (sn)))))))))) (wn rfl) rfl (y_load_box 0 Tryz.isAgg4 rfl rfl rfl) ?_
    refine any_cut2 #[true, true, true, true, true, true, true, true, true, true, true, true, true, true] 0 (Nat × Value) (fun σ => [(2, .int .i64 window_2), (6, boxP b3 0), (8, boxP b12 0), (9, boxP b14 0), (14, boxP σ.1 0)]) (fun σ => [box b1 [.int .i64 a_0.First, a_0_Lv, .bool a_0.Done], ro a_0_Lv 20 (a_0.L.map S_api_Segment.enc), box b2 [.int .i64 b_1.First, b_1_Lv, .bool b_1.Done], ro b_1_Lv 20 (b_1.L.map S_api_Segment.enc), box b3 [.int .i64 0, .slice none 0 0, .bool false], box b12 [.int .i64 x_18, v24, .bool x_20], ro v24 20 (x_19.map S_api_Segment.enc), box b14 [.int .i64 x_21, v25, .bool x_23], ro v25 20 (x_22.map S_api_Segment.enc), row σ.2 20 (r67.map S_api_Segment.enc), box σ.1 [.int .i64 x_21, σ.2, .bool (a_0.Done || b_1.Done)]]) ?_ (fun hK82 => ?_)
    ·rintro ⟨b80, v73⟩
     change AnyL _ _ _ _ _ (VF.of [(2, .int .i64 window_2), (6, boxP b3 0), (8, boxP b12 0), (9, boxP b14 0), (14, boxP b80 0)]) [box b1 [.int .i64 a_0.First, a_0_Lv, .bool a_0.Done], ro a_0_Lv 20 (a_0.L.map S_api_Segment.enc), box b2 [.int .i64 b_1.First, b_1_Lv, .bool b_1.Done], ro b_1_Lv 20 (b_1.L.map S_api_Segment.enc), box b3 [.int .i64 0, .slice none 0 0, .bool false], box b12 [.int .i64 x_18, v24, .bool x_20], ro v24 20 (x_19.map S_api_Segment.enc), box b14 [.int .i64 x_21, v25, .bool x_23], ro v25 20 (x_22.map S_api_Segment.enc), row v73 20 (r67.map S_api_Segment.enc), box b80 [.int .i64 x_21, v73, .bool (a_0.Done || b_1.Done)]] _
     refine any_nil (by kernel_rfl) ?_
     refine goes_code ?_
     obtain ⟨o86, h, ho87⟩ := bindJ_some h
     refine run_cut ((Int × (List S_api_Segment)) × (Value)) (fun σ => [(2, .int .i64 window_2), (6, boxP b3 0), (14, boxP b80 0)]) (fun σ => [box b3 [.int .i64 0, .slice none 0 0, .bool false], box b80 [.int .i64 σ.1.1, σ.2, .bool (a_0.Done || b_1.Done)], row σ.2 20 (σ.1.2.map S_api_Segment.enc)]) (fun σ => o86 = .go σ.1) (fun L89 hL88 => ?_) ?_
     ·
      refine run_seq ?_
      refine run_drawany [box b1 [.int .i64 a_0.First, a_0_Lv, .bool a_0.Done], ro a_0_Lv 20 (a_0.L.map S_api_Segment.enc), box b2 [.int .i64 b_1.First, b_1_Lv, .bool b_1.Done], ro b_1_Lv 20 (b_1.L.map S_api_Segment.enc), box b3 [.int .i64 0, .slice none 0 0, .bool false], box b12 [.int .i64 x_18, v24, .bool x_20], ro v24 20 (x_19.map S_api_Segment.enc), box b14 [.int .i64 x_21, v25, .bool x_23], ro v25 20 (x_22.map S_api_Segment.enc), row v73 20 (r67.map S_api_Segment.enc), box b80 [.int .i64 x_21, v73, .bool (a_0.Done || b_1.Done)]] (by kernel_rfl) ?_
      refine any_y 0 rfl (by kernel_rfl) (by kernel_rfl) (by kernel_rfl) (ss (ss (ss (ss (ss (ss (ss (ss (ss (ss (ss (sn)))))))))))) (wn rfl) rfl (y_fieldAddr_box (sz := 0) Tryz.runUnderlying24 rfl Tryz.sizeOf22 rfl) ?_
      refine any_y 1 rfl (by kernel_rfl) (by kernel_rfl) (by kernel_rfl) (ss (ss (ss (ss (ss (ss (ss (ss (ss (ss (ss (sn)))))))))))) (wn rfl) rfl (y_load_box 5 Tryz.isAgg22 rfl rfl rfl) ?_
      refine any_y 2 rfl (by kernel_rfl) (by kernel_rfl) (by kernel_rfl) (ss (ss (ss (ss (ss (ss (ss (ss (ss (ss (ss (sn)))))))))))) (wn rfl) rfl ((y_len 6 rfl Tryz.runUnderlying22 rfl rfl reads_ro).to (v_len S_api_Segment.enc _)) ?_
      refine any_y 3 rfl (by kernel_rfl) (by kernel_rfl) (by kernel_rfl) (ss (ss (ss (ss (ss (ss (ss (ss (ss (ss (ss (sn)))))))))))) (wn rfl) rfl (y_gtr rfl rfl) ?_
      refine any_y 4 rfl (by kernel_rfl) (by kernel_rfl) (by kernel_rfl) (ss (ss (ss (ss (ss (ss (ss (ss (ss (ss (ss (sn)))))))))))) (wn rfl) rfl (y_move rfl) ?_
      refine any_cut #[true, true, true, true, true, true, true, true, true, true, false, false, false, false, false, false, false] 7 Bool (fun σ => [(2, .int .i64 window_2), (6, boxP b3 0), (8, boxP b12 0), (9, boxP b14 0), (14, boxP b80 0), (86, .bool σ)]) (fun σ => [box b1 [.int .i64 a_0.First, a_0_Lv, .bool a_0.Done], ro a_0_Lv 20 (a_0.L.map S_api_Segment.enc), box b2 [.int .i64 b_1.First, b_1_Lv, .bool b_1.Done], ro b_1_Lv 20 (b_1.L.map S_api_Segment.enc), box b3 [.int .i64 0, .slice none 0 0, .bool false], box b12 [.int .i64 x_18, v24, .bool x_20], ro v24 20 (x_19.map S_api_Segment.enc), box b14 [.int .i64 x_21, v25, .bool x_23], ro v25 20 (x_22.map S_api_Segment.enc), row v73 20 (r67.map S_api_Segment.enc), box b80 [.int .i64 x_21, v73, .bool (a_0.Done || b_1.Done)]]) (fun σ => σ = (decide (0 < (x_19.length : Int)) && decide (0 < (x_22.length : Int)))) (fun hL91 => ?_) ?_
      ·refine any_split 81 (decide (0 < (x_19.length : Int))) rfl (fun hg92 => ?_) (fun hg92 => ?_)
       ·skip
        refine any_y 5 rfl (by kernel_rfl) (by kernel_rfl) (by kernel_rfl) (ss (ss (ss (ss (ss (ss (ss (ss (ss (ss (ss (sn)))))))))))) (wg 4 true 81 rfl rfl rfl rfl) rfl (y_fieldAddr_box (sz := 0) Tryz.runUnderlying24 rfl Tryz.sizeOf22 rfl) ?_
        refine any_y 6 rfl (by kernel_rfl) (by kernel_rfl) (by kernel_rfl) (ss (ss (ss (ss (ss (ss (ss (ss (ss (ss (ss (sn)))))))))))) (wg 4 true 81 rfl rfl rfl rfl) rfl (y_load_box 7 Tryz.isAgg22 rfl rfl rfl) ?_
        refine any_y 7 rfl (by kernel_rfl) (by kernel_rfl) (by kernel_rfl) (ss (ss (ss (ss (ss (ss (ss (ss (ss (ss (ss (sn)))))))))))) (wg 4 true 81 rfl rfl rfl rfl) rfl ((y_len 8 rfl Tryz.runUnderlying22 rfl rfl reads_ro).to (v_len S_api_Segment.enc _)) ?_
        refine any_y 8 rfl (by kernel_rfl) (by kernel_rfl) (by kernel_rfl) (ss (ss (ss (ss (ss (ss (ss (ss (ss (ss (ss (sn)))))))))))) (wg 4 true 81 rfl rfl rfl rfl) rfl (y_gtr rfl rfl) ?_
        refine any_y 9 rfl (by kernel_rfl) (by kernel_rfl) (by kernel_rfl) (ss (ss (ss (ss (ss (ss (ss (ss (ss (ss (ss (sn)))))))))))) (wn rfl) rfl (y_pick (b := true) rfl rfl) ?_
        exact any_weak [(2, .int .i64 window_2), (6, boxP b3 0), (8, boxP b12 0), (9, boxP b14 0), (14, boxP b80 0), (86, .bool (decide (0 < (x_22.length : Int))))] [0, 1, 2, 3, 4, 5, 6, 7, 8, 9, 10] [box b1 [.int .i64 a_0.First, a_0_Lv, .bool a_0.Done], ro a_0_Lv 20 (a_0.L.map S_api_Segment.enc), box b2 [.int .i64 b_1.First, b_1_Lv, .bool b_1.Done], ro b_1_Lv 20 (b_1.L.map S_api_Segment.enc), box b3 [.int .i64 0, .slice none 0 0, .bool false], box b12 [.int .i64 x_18, v24, .bool x_20], ro v24 20 (x_19.map S_api_Segment.enc), box b14 [.int .i64 x_21, v25, .bool x_23], ro v25 20 (x_22.map S_api_Segment.enc), row v73 20 (r67.map S_api_Segment.enc), box b80 [.int .i64 x_21, v73, .bool (a_0.Done || b_1.Done)]] (by kernel_rfl) (qv6 rfl rfl rfl rfl rfl rfl) (by decide) rfl (hL91 (decide (0 < (x_22.length : Int))) (by rw [hg92]; simp))
       ·skip
        refine any_no 5 rfl (by kernel_rfl) (by kernel_rfl) (by kernel_rfl) (ss (ss (ss (ss (ss (ss (ss (ss (ss (ss (ss (sn)))))))))))) 4 true 81 rfl rfl rfl rfl rfl ?_
        refine any_no 6 rfl (by kernel_rfl) (by kernel_rfl) (by kernel_rfl) (ss (ss (ss (ss (ss (ss (ss (ss (ss (ss (ss (sn)))))))))))) 4 true 81 rfl rfl rfl rfl rfl ?_
        refine any_no 7 rfl (by kernel_rfl) (by kernel_rfl) (by kernel_rfl) (ss (ss (ss (ss (ss (ss (ss (ss (ss (ss (ss (sn)))))))))))) 4 true 81 rfl rfl rfl rfl rfl ?_
        refine any_no 8 rfl (by kernel_rfl) (by kernel_rfl) (by kernel_rfl) (ss (ss (ss (ss (ss (ss (ss (ss (ss (ss (ss (sn)))))))))))) 4 true 81 rfl rfl rfl rfl rfl ?_
        refine any_y 9 rfl (by kernel_rfl) (by kernel_rfl) (by kernel_rfl) (ss (ss (ss (ss (ss (ss (ss (ss (ss (ss (ss (sn)))))))))))) (wn rfl) rfl (y_pick (b := false) rfl rfl) ?_
        exact any_weak [(2, .int .i64 window_2), (6, boxP b3 0), (8, boxP b12 0), (9, boxP b14 0), (14, boxP b80 0), (86, .bool false)] [0, 1, 2, 3, 4, 5, 6, 7, 8, 9, 10] [box b1 [.int .i64 a_0.First, a_0_Lv, .bool a_0.Done], ro a_0_Lv 20 (a_0.L.map S_api_Segment.enc), box b2 [.int .i64 b_1.First, b_1_Lv, .bool b_1.Done], ro b_1_Lv 20 (b_1.L.map S_api_Segment.enc), box b3 [.int .i64 0, .slice none 0 0, .bool false], box b12 [.int .i64 x_18, v24, .bool x_20], ro v24 20 (x_19.map S_api_Segment.enc), box b14 [.int .i64 x_21, v25, .bool x_23], ro v25 20 (x_22.map S_api_Segment.enc), row v73 20 (r67.map S_api_Segment.enc), box b80 [.int .i64 x_21, v73, .bool (a_0.Done || b_1.Done)]] (by kernel_rfl) (qv6 rfl rfl rfl rfl rfl rfl) (by decide) rfl (hL91 false (by rw [hg92]; simp))
      rintro _ rfl
      refine any_y 10 rfl (by kernel_rfl) (by kernel_rfl) (by kernel_rfl) (ss (ss (ss (ss (ss (ss (ss (ss (ss (ss (ss (sn)))))))))))) (wn rfl) rfl (y_move rfl) ?_
      obtain ⟨o94, h, ho95⟩ := bindJ_some h
      refine any_cut #[true, true, true, true, true, true, true, true, true, true, true, true, true, true, true, true, true] 0 Bool (fun σ => [(2, .int .i64 window_2), (6, boxP b3 0), (8, boxP b12 0), (9, boxP b14 0), (14, boxP b80 0), (93, .bool σ)]) (fun σ => [box b1 [.int .i64 a_0.First, a_0_Lv, .bool a_0.Done], ro a_0_Lv 20 (a_0.L.map S_api_Segment.enc), box b2 [.int .i64 b_1.First, b_1_Lv, .bool b_1.Done], ro b_1_Lv 20 (b_1.L.map S_api_Segment.enc), box b3 [.int .i64 0, .slice none 0 0, .bool false], box b12 [.int .i64 x_18, v24, .bool x_20], ro v24 20 (x_19.map S_api_Segment.enc), box b14 [.int .i64 x_21, v25, .bool x_23], ro v25 20 (x_22.map S_api_Segment.enc), row v73 20 (r67.map S_api_Segment.enc), box b80 [.int .i64 x_21, v73, .bool (a_0.Done || b_1.Done)]]) (fun σ => o94 = .go σ) (fun hL97 => ?_) ?_
      ·refine any_split 87 (decide (0 < (x_19.length : Int)) && decide (0 < (x_22.length : Int))) rfl (fun hg98 => ?_) (fun hg98 => ?_)
       ·replace h := cond_t h hg98
        refine any_y 11 rfl (by kernel_rfl) (by kernel_rfl) (by kernel_rfl) (ss (ss (ss (ss (ss (ss (ss (ss (ss (ss (ss (sn)))))))))))) (wg 10 true 87 rfl rfl rfl rfl) rfl (y_load_boxagg (c := [.int .i64 x_18, v24, .bool x_20]) 5 Tryz.isAgg24 Tryz.sizeOf24 rfl rfl rfl) ?_
        refine any_y 13 rfl (by kernel_rfl) (by kernel_rfl) (by kernel_rfl) (ss (ss (ss (ss (ss (ss (ss (ss (ss (ss (ss (sn)))))))))))) (wg 10 true 87 rfl rfl rfl rfl) rfl (y_fieldAddr_box (sz := 0) Tryz.runUnderlying24 rfl Tryz.sizeOf3 rfl) ?_
        refine any_y 14 rfl (by kernel_rfl) (by kernel_rfl) (by kernel_rfl) (ss (ss (ss (ss (ss (ss (ss (ss (ss (ss (ss (sn)))))))))))) (wg 10 true 87 rfl rfl rfl rfl) rfl (y_load_box 7 Tryz.isAgg3 rfl rfl rfl) ?_
        refine any_all [12] (by kernel_rfl) rfl (anyo_cons ?_ anyo_nil)
        obtain ⟨r99, hr100, h⟩ := obind_some h
        refine any_t rfl (wg 10 true 87 rfl rfl rfl rfl) rfl (t_callx (vs := [.agg #[.int .i64 x_18, v24, .bool x_20]]) (cs := []) [(6, 0)] rfl Tryz.call27 rfl (playlist_Next_ok (S_api_Playlist.mk x_18 x_19 x_20) v24 hr100) (showsX_view 6 rfl views_ro showsX_nil) rfl (.inl rfl)) ?_
        rintro _ _ ⟨_, ⟨rfl, rfl⟩, rfl⟩
        refine ⟨(ss (ss (ss (ss (ss (ss (ss (ss (ss (ss (ss (sn)))))))))))), ?_⟩
        refine any_y 15 rfl (by kernel_rfl) (by kernel_rfl) (by kernel_rfl) (ss (ss (ss (ss (ss (ss (ss (ss (ss (ss (ss (sn)))))))))))) (wg 10 true 87 rfl rfl rfl rfl) rfl (y_geq rfl rfl) ?_
        refine any_y 16 rfl (by kernel_rfl) (by kernel_rfl) (by kernel_rfl) (ss (ss (ss (ss (ss (ss (ss (ss (ss (ss (ss (sn)))))))))))) (wn rfl) rfl (y_pick (b := true) rfl rfl) ?_
        obtain rfl := some_eq h
        exact any_weak [(2, .int .i64 window_2), (6, boxP b3 0), (8, boxP b12 0), (9, boxP b14 0), (14, boxP b80 0), (93, .bool (decide (x_21 ≤ r99)))] [0, 1, 2, 3, 4, 5, 6, 7, 8, 9, 10] [box b1 [.int .i64 a_0.First, a_0_Lv, .bool a_0.Done], ro a_0_Lv 20 (a_0.L.map S_api_Segment.enc), box b2 [.int .i64 b_1.First, b_1_Lv, .bool b_1.Done], ro b_1_Lv 20 (b_1.L.map S_api_Segment.enc), box b3 [.int .i64 0, .slice none 0 0, .bool false], box b12 [.int .i64 x_18, v24, .bool x_20], ro v24 20 (x_19.map S_api_Segment.enc), box b14 [.int .i64 x_21, v25, .bool x_23], ro v25 20 (x_22.map S_api_Segment.enc), row v73 20 (r67.map S_api_Segment.enc), box b80 [.int .i64 x_21, v73, .bool (a_0.Done || b_1.Done)]] (by kernel_rfl) (qv6 rfl rfl rfl rfl rfl rfl) (by decide) rfl (hL97 (decide (x_21 ≤ r99)) rfl)
       ·replace h := cond_f h hg98
        refine any_no 11 rfl (by kernel_rfl) (by kernel_rfl) (by kernel_rfl) (ss (ss (ss (ss (ss (ss (ss (ss (ss (ss (ss (sn)))))))))))) 10 true 87 rfl rfl rfl rfl rfl ?_
        refine any_no 13 rfl (by kernel_rfl) (by kernel_rfl) (by kernel_rfl) (ss (ss (ss (ss (ss (ss (ss (ss (ss (ss (ss (sn)))))))))))) 10 true 87 rfl rfl rfl rfl rfl ?_
        refine any_no 14 rfl (by kernel_rfl) (by kernel_rfl) (by kernel_rfl) (ss (ss (ss (ss (ss (ss (ss (ss (ss (ss (ss (sn)))))))))))) 10 true 87 rfl rfl rfl rfl rfl ?_
        refine any_no 12 rfl (by kernel_rfl) (by kernel_rfl) (by kernel_rfl) (ss (ss (ss (ss (ss (ss (ss (ss (ss (ss (ss (sn)))))))))))) 10 true 87 rfl rfl rfl rfl rfl ?_
        refine any_no 15 rfl (by kernel_rfl) (by kernel_rfl) (by kernel_rfl) (ss (ss (ss (ss (ss (ss (ss (ss (ss (ss (ss (sn)))))))))))) 10 true 87 rfl rfl rfl rfl rfl ?_
        refine any_y 16 rfl (by kernel_rfl) (by kernel_rfl) (by kernel_rfl) (ss (ss (ss (ss (ss (ss (ss (ss (ss (ss (ss (sn)))))))))))) (wn rfl) rfl (y_pick (b := false) rfl rfl) ?_
        obtain rfl := some_eq h
        exact any_weak [(2, .int .i64 window_2), (6, boxP b3 0), (8, boxP b12 0), (9, boxP b14 0), (14, boxP b80 0), (93, .bool false)] [0, 1, 2, 3, 4, 5, 6, 7, 8, 9, 10] [box b1 [.int .i64 a_0.First, a_0_Lv, .bool a_0.Done], ro a_0_Lv 20 (a_0.L.map S_api_Segment.enc), box b2 [.int .i64 b_1.First, b_1_Lv, .bool b_1.Done], ro b_1_Lv 20 (b_1.L.map S_api_Segment.enc), box b3 [.int .i64 0, .slice none 0 0, .bool false], box b12 [.int .i64 x_18, v24, .bool x_20], ro v24 20 (x_19.map S_api_Segment.enc), box b14 [.int .i64 x_21, v25, .bool x_23], ro v25 20 (x_22.map S_api_Segment.enc), row v73 20 (r67.map S_api_Segment.enc), box b80 [.int .i64 x_21, v73, .bool (a_0.Done || b_1.Done)]] (by kernel_rfl) (qv6 rfl rfl rfl rfl rfl rfl) (by decide) rfl (hL97 false rfl)
      rintro b93 hj
      obtain rfl : o94 = _ := hj
      replace h := after_go ho95
      clear ho95
      refine any_nil (by kernel_rfl) ?_
      refine goes_code ?_
      refine run_cond b93 rfl (fun hc101 => ?_) (fun hc101 => ?_)
      ·replace h := cond_t h hc101
       refine run_seq ?_
       refine run_seq ?_
       refine run_drawany [box b1 [.int .i64 a_0.First, a_0_Lv, .bool a_0.Done], ro a_0_Lv 20 (a_0.L.map S_api_Segment.enc), box b2 [.int .i64 b_1.First, b_1_Lv, .bool b_1.Done], ro b_1_Lv 20 (b_1.L.map S_api_Segment.enc), box b3 [.int .i64 0, .slice none 0 0, .bool false], box b12 [.int .i64 x_18, v24, .bool x_20], ro v24 20 (x_19.map S_api_Segment.enc), box b14 [.int .i64 x_21, v25, .bool x_23], ro v25 20 (x_22.map S_api_Segment.enc), row v73 20 (r67.map S_api_Segment.enc), box b80 [.int .i64 x_21, v73, .bool (a_0.Done || b_1.Done)]] (by kernel_rfl) ?_
       refine any_y 0 rfl (by kernel_rfl) (by kernel_rfl) (by kernel_rfl) (ss (ss (ss (ss (ss (ss (ss (ss (ss (ss (ss (sn)))))))))))) (wn rfl) rfl (y_load_boxagg (c := [.int .i64 x_18, v24, .bool x_20]) 5 Tryz.isAgg24 Tryz.sizeOf24 rfl rfl rfl) ?_
       refine any_y 2 rfl (by kernel_rfl) (by kernel_rfl) (by kernel_rfl) (ss (ss (ss (ss (ss (ss (ss (ss (ss (ss (ss (sn)))))))))))) (wn rfl) rfl (y_fieldAddr_box (sz := 0) Tryz.runUnderlying24 rfl Tryz.sizeOf3 rfl) ?_
       refine any_y 3 rfl (by kernel_rfl) (by kernel_rfl) (by kernel_rfl) (ss (ss (ss (ss (ss (ss (ss (ss (ss (ss (ss (sn)))))))))))) (wn rfl) rfl (y_load_box 7 Tryz.isAgg3 rfl rfl rfl) ?_
       refine any_all [1] (by kernel_rfl) rfl (anyo_cons ?_ anyo_nil)
       obtain ⟨r102, hr103, h⟩ := obind_some h
       refine any_t rfl (wn rfl) rfl (t_callx (vs := [.agg #[.int .i64 x_18, v24, .bool x_20]]) (cs := []) [(6, 0)] rfl Tryz.call27 rfl (playlist_Next_ok (S_api_Playlist.mk x_18 x_19 x_20) v24 hr103) (showsX_view 6 rfl views_ro showsX_nil) rfl (.inl rfl)) ?_
       rintro _ _ ⟨_, ⟨rfl, rfl⟩, rfl⟩
       refine ⟨(ss (ss (ss (ss (ss (ss (ss (ss (ss (ss (ss (sn)))))))))))), ?_⟩
       refine any_y 4 rfl (by kernel_rfl) (by kernel_rfl) (by kernel_rfl) (ss (ss (ss (ss (ss (ss (ss (ss (ss (ss (ss (sn)))))))))))) (wn rfl) rfl (y_eql rfl rfl) ?_
       refine any_y 5 rfl (by kernel_rfl) (by kernel_rfl) (by kernel_rfl) (ss (ss (ss (ss (ss (ss (ss (ss (ss (ss (ss (sn)))))))))))) (wn rfl) rfl (y_move rfl) ?_
       obtain ⟨o105, h, ho106⟩ := bindJ_some h
       refine any_cut #[true, true, true, true, true, true, true, true, true, true, true, true, true, true, true] 0 Bool (fun σ => [(2, .int .i64 window_2), (6, boxP b3 0), (8, boxP b12 0), (9, boxP b14 0), (14, boxP b80 0), (108, .bool σ)]) (fun σ => [box b1 [.int .i64 a_0.First, a_0_Lv, .bool a_0.Done], ro a_0_Lv 20 (a_0.L.map S_api_Segment.enc), box b2 [.int .i64 b_1.First, b_1_Lv, .bool b_1.Done], ro b_1_Lv 20 (b_1.L.map S_api_Segment.enc), box b3 [.int .i64 0, .slice none 0 0, .bool false], box b12 [.int .i64 x_18, v24, .bool x_20], ro v24 20 (x_19.map S_api_Segment.enc), box b14 [.int .i64 x_21, v25, .bool x_23], ro v25 20 (x_22.map S_api_Segment.enc), row v73 20 (r67.map S_api_Segment.enc), box b80 [.int .i64 x_21, v73, .bool (a_0.Done || b_1.Done)]]) (fun σ => o105 = .go σ) (fun hL108 => ?_) ?_
       ·refine any_split 99 (decide (r102 = x_21)) rfl (fun hg109 => ?_) (fun hg109 => ?_)
        ·replace h := cond_t h hg109
         refine any_y 6 rfl (by kernel_rfl) (by kernel_rfl) (by kernel_rfl) (ss (ss (ss (ss (ss (ss (ss (ss (ss (ss (ss (sn)))))))))))) (wg 5 true 99 rfl rfl rfl rfl) rfl (y_load_boxagg (c := [.int .i64 x_18, v24, .bool x_20]) 5 Tryz.isAgg24 Tryz.sizeOf24 rfl rfl rfl) ?_
         refine any_y 8 rfl (by kernel_rfl) (by kernel_rfl) (by kernel_rfl) (ss (ss (ss (ss (ss (ss (ss (ss (ss (ss (ss (sn)))))))))))) (wg 5 true 99 rfl rfl rfl rfl) rfl (y_fieldAddr_box (sz := 0) Tryz.runUnderlying24 rfl Tryz.sizeOf22 rfl) ?_
         refine any_y 9 rfl (by kernel_rfl) (by kernel_rfl) (by kernel_rfl) (ss (ss (ss (ss (ss (ss (ss (ss (ss (ss (ss (sn)))))))))))) (wg 5 true 99 rfl rfl rfl rfl) rfl (y_load_box 7 Tryz.isAgg22 rfl rfl rfl) ?_
         obtain ⟨x110, hzx110, hlx110, hxx110, h⟩ := idx_some h
         refine any_y 10 rfl (by kernel_rfl) (by kernel_rfl) (by kernel_rfl) (ss (ss (ss (ss (ss (ss (ss (ss (ss (ss (ss (sn)))))))))))) (wg 5 true 99 rfl rfl rfl rfl) rfl (y_indexAddrI (kd := .i64) (i := 0) 8 Tryz.runUnderlying22 Tryz.sizeOf57 rfl rfl rfl reads_ro hzx110 (map_lt hlx110)) ?_
         refine any_y 11 rfl (by kernel_rfl) (by kernel_rfl) (by kernel_rfl) (ss (ss (ss (ss (ss (ss (ss (ss (ss (ss (ss (sn)))))))))))) (wg 5 true 99 rfl rfl rfl rfl) rfl (y_fieldAddr_elem (sz := 0) Tryz.runUnderlying57 rfl Tryz.sizeOf3 rfl) ?_
         refine any_y 12 rfl (by kernel_rfl) (by kernel_rfl) (by kernel_rfl) (ss (ss (ss (ss (ss (ss (ss (ss (ss (ss (ss (sn)))))))))))) (wg 5 true 99 rfl rfl rfl rfl) rfl (y_load_field (i := (0 : Int).toNat) (j := 1) 8 Tryz.isAgg3 rfl rfl reads_ro (map_get hxx110) rfl) ?_
         refine any_all [7] (by kernel_rfl) rfl (anyo_cons ?_ anyo_nil)
         obtain ⟨r111, hr112, h⟩ := obind_some h
         refine any_t rfl (wg 5 true 99 rfl rfl rfl rfl) rfl (t_callx (vs := [.agg #[.int .i64 x_18, v24, .bool x_20]]) (cs := []) [(6, 0)] rfl Tryz.call29 rfl (playlist_Edge_ok (S_api_Playlist.mk x_18 x_19 x_20) v24 hr112) (showsX_view 6 rfl views_ro showsX_nil) rfl (.inl rfl)) ?_
         rintro _ _ ⟨_, ⟨rfl, rfl⟩, rfl⟩
         refine ⟨(ss (ss (ss (ss (ss (ss (ss (ss (ss (ss (ss (sn)))))))))))), ?_⟩
         refine any_y 13 rfl (by kernel_rfl) (by kernel_rfl) (by kernel_rfl) (ss (ss (ss (ss (ss (ss (ss (ss (ss (ss (ss (sn)))))))))))) (wg 5 true 99 rfl rfl rfl rfl) rfl (y_neq rfl rfl) ?_
         refine any_y 14 rfl (by kernel_rfl) (by kernel_rfl) (by kernel_rfl) (ss (ss (ss (ss (ss (ss (ss (ss (ss (ss (ss (sn)))))))))))) (wn rfl) rfl (y_pick (b := true) rfl rfl) ?_
         obtain rfl := some_eq h
         exact any_weak [(2, .int .i64 window_2), (6, boxP b3 0), (8, boxP b12 0), (9, boxP b14 0), (14, boxP b80 0), (108, .bool (decide (r111 ≠ x110.Begin)))] [0, 1, 2, 3, 4, 5, 6, 7, 8, 9, 10] [box b1 [.int .i64 a_0.First, a_0_Lv, .bool a_0.Done], ro a_0_Lv 20 (a_0.L.map S_api_Segment.enc), box b2 [.int .i64 b_1.First, b_1_Lv, .bool b_1.Done], ro b_1_Lv 20 (b_1.L.map S_api_Segment.enc), box b3 [.int .i64 0, .slice none 0 0, .bool false], box b12 [.int .i64 x_18, v24, .bool x_20], ro v24 20 (x_19.map S_api_Segment.enc), box b14 [.int .i64 x_21, v25, .bool x_23], ro v25 20 (x_22.map S_api_Segment.enc), row v73 20 (r67.map S_api_Segment.enc), box b80 [.int .i64 x_21, v73, .bool (a_0.Done || b_1.Done)]] (by kernel_rfl) (qv6 rfl rfl rfl rfl rfl rfl) (by decide) rfl (hL108 (decide (r111 ≠ x110.Begin)) rfl)
        ·replace h := cond_f h hg109
         refine any_no 6 rfl (by kernel_rfl) (by kernel_rfl) (by kernel_rfl) (ss (ss (ss (ss (ss (ss (ss (ss (ss (ss (ss (sn)))))))))))) 5 true 99 rfl rfl rfl rfl rfl ?_
         refine any_no 8 rfl (by kernel_rfl) (by kernel_rfl) (by kernel_rfl) (ss (ss (ss (ss (ss (ss (ss (ss (ss (ss (ss (sn)))))))))))) 5 true 99 rfl rfl rfl rfl rfl ?_
         refine any_no 9 rfl (by kernel_rfl) (by kernel_rfl) (by kernel_rfl) (ss (ss (ss (ss (ss (ss (ss (ss (ss (ss (ss (sn)))))))))))) 5 true 99 rfl rfl rfl rfl rfl ?_
         refine any_no 10 rfl (by kernel_rfl) (by kernel_rfl) (by kernel_rfl) (ss (ss (ss (ss (ss (ss (ss (ss (ss (ss (ss (sn)))))))))))) 5 true 99 rfl rfl rfl rfl rfl ?_
         refine any_no 11 rfl (by kernel_rfl) (by kernel_rfl) (by kernel_rfl) (ss (ss (ss (ss (ss (ss (ss (ss (ss (ss (ss (sn)))))))))))) 5 true 99 rfl rfl rfl rfl rfl ?_
         refine any_no 12 rfl (by kernel_rfl) (by kernel_rfl) (by kernel_rfl) (ss (ss (ss (ss (ss (ss (ss (ss (ss (ss (ss (sn)))))))))))) 5 true 99 rfl rfl rfl rfl rfl ?_
         refine any_no 7 rfl (by kernel_rfl) (by kernel_rfl) (by kernel_rfl) (ss (ss (ss (ss (ss (ss (ss (ss (ss (ss (ss (sn)))))))))))) 5 true 99 rfl rfl rfl rfl rfl ?_
         refine any_no 13 rfl (by kernel_rfl) (by kernel_rfl) (by kernel_rfl) (ss (ss (ss (ss (ss (ss (ss (ss (ss (ss (ss (sn)))))))))))) 5 true 99 rfl rfl rfl rfl rfl ?_
         refine any_y 14 rfl (by kernel_rfl) (by kernel_rfl) (by kernel_rfl) (ss (ss (ss (ss (ss (ss (ss (ss (ss (ss (ss (sn)))))))))))) (wn rfl) rfl (y_pick (b := false) rfl rfl) ?_
         obtain rfl := some_eq h
         exact any_weak [(2, .int .i64 window_2), (6, boxP b3 0), (8, boxP b12 0), (9, boxP b14 0), (14, boxP b80 0), (108, .bool false)] [0, 1, 2, 3, 4, 5, 6, 7, 8, 9, 10] [box b1 [.int .i64 a_0.First, a_0_Lv, .bool a_0.Done], ro a_0_Lv 20 (a_0.L.map S_api_Segment.enc), box b2 [.int .i64 b_1.First, b_1_Lv, .bool b_1.Done], ro b_1_Lv 20 (b_1.L.map S_api_Segment.enc), box b3 [.int .i64 0, .slice none 0 0, .bool false], box b12 [.int .i64 x_18, v24, .bool x_20], ro v24 20 (x_19.map S_api_Segment.enc), box b14 [.int .i64 x_21, v25, .bool x_23], ro v25 20 (x_22.map S_api_Segment.enc), row v73 20 (r67.map S_api_Segment.enc), box b80 [.int .i64 x_21, v73, .bool (a_0.Done || b_1.Done)]] (by kernel_rfl) (qv6 rfl rfl rfl rfl rfl rfl) (by decide) rfl (hL108 false rfl)
       rintro b104 hj
       obtain rfl : o105 = _ := hj
       replace h := after_go ho106
       clear ho106
       refine any_nil (by kernel_rfl) ?_
       refine goes_code ?_
       refine run_cond b104 rfl (fun hc113 => ?_) (fun hc113 => ?_)
       ·replace h := cond_t h hc113
        refine run_seq ?_
        refine run_region' ?_
        refine oy rfl rfl (y_build_struct (cells := #[.int .i64 0, .slice none 0 0, .bool false]) [] [] Tryz.zeroValue24 Tryz.runUnderlying24 (fs_cons Tryz.sizeOf3 (fs_cons Tryz.sizeOf22 (fs_cons Tryz.sizeOf4 fs_nil))) rfl rfl rfl) ?_
        refine ot rfl rfl (t_store 4 Tryz.sizeOf24 rfl rfl rfl rfl (by simp [Value.cells, boxP]) (by simp [Value.cells, Value.oneCell', boxP])) ?_
        rintro _ _ ⟨rfl, rfl⟩
        refine ops_turn (retell 4 (g := box b3 [.int .i64 0, .slice none 0 0, .bool false]) rfl rfl) ?_
        refine oy rfl rfl (y_assign rfl) ?_
        refine ops_nil ?_
        refine goes_code ?_
        refine run_ret ?_
        refine fin_turn (nilro 20) ?_
        refine fin_turn (retell 11 (g := ro (.slice none 0 0) 20 (([] : List S_api_Segment).map S_api_Segment.enc)) rfl rfl) ?_
        obtain rfl := some_eq h
        obtain rfl := after_stop ho87
        refine fin_res [.cell 6 24, .tmp 7] [.agg #[.int .i64 0, (.slice none 0 0), .bool false], .int .i64 430] [11] [ro (.slice none 0 0) 20 (([] : List S_api_Segment).map S_api_Segment.enc)] Tryz.results9 rfl (rescons (res_box 4 Tryz.isAgg24 Tryz.sizeOf24 rfl rfl rfl) (rescons (res_tmp rfl) resnil)) (by decide) rfl ?_
        exact ⟨_, rfl, rfl⟩
       ·replace h := cond_f h hc113
        refine run_skip ?_
        refine goes_code ?_
        refine run_seq ?_
        refine run_region' ?_
        refine oy rfl rfl (y_fieldAddr_box (sz := 0) Tryz.runUnderlying24 rfl Tryz.sizeOf3 rfl) ?_
        refine oy rfl rfl (y_load_box 7 Tryz.isAgg3 rfl rfl rfl) ?_
        refine oy rfl rfl (y_fieldAddr_box (sz := 0) Tryz.runUnderlying24 rfl Tryz.sizeOf3 rfl) ?_
        refine oy rfl rfl (y_load_box 5 Tryz.isAgg3 rfl rfl rfl) ?_
        refine oy rfl rfl (y_sub rfl rfl) ?_
        refine oy rfl rfl (y_max rfl rfl) ?_
        refine oy rfl rfl (y_assign rfl) ?_
        refine ops_nil ?_
        refine goes_code ?_
        refine run_drawany [box b1 [.int .i64 a_0.First, a_0_Lv, .bool a_0.Done], ro a_0_Lv 20 (a_0.L.map S_api_Segment.enc), box b2 [.int .i64 b_1.First, b_1_Lv, .bool b_1.Done], ro b_1_Lv 20 (b_1.L.map S_api_Segment.enc), box b3 [.int .i64 0, .slice none 0 0, .bool false], box b12 [.int .i64 x_18, v24, .bool x_20], ro v24 20 (x_19.map S_api_Segment.enc), box b14 [.int .i64 x_21, v25, .bool x_23], ro v25 20 (x_22.map S_api_Segment.enc), row v73 20 (r67.map S_api_Segment.enc), HA.emp] (by kernel_rfl) ?_
        refine any_y 0 rfl (by kernel_rfl) (by kernel_rfl) (by kernel_rfl) (ss (ss (ss (ss (ss (ss (ss (ss (ss (ss (se (sn)))))))))))) (wn rfl) rfl (y_fieldAddr_box (sz := 0) Tryz.runUnderlying24 rfl Tryz.sizeOf3 rfl) ?_
        refine any_y 1 rfl (by kernel_rfl) (by kernel_rfl) (by kernel_rfl) (ss (ss (ss (ss (ss (ss (ss (ss (ss (ss (se (sn)))))))))))) (wn rfl) rfl (y_load_box 7 Tryz.isAgg3 rfl rfl rfl) ?_
        refine any_y 2 rfl (by kernel_rfl) (by kernel_rfl) (by kernel_rfl) (ss (ss (ss (ss (ss (ss (ss (ss (ss (ss (se (sn)))))))))))) (wn rfl) rfl (y_move rfl) ?_
        refine any_y 3 rfl (by kernel_rfl) (by kernel_rfl) (by kernel_rfl) (ss (ss (ss (ss (ss (ss (ss (ss (ss (ss (se (sn)))))))))))) (wn rfl) rfl (y_sub rfl rfl) ?_
        refine any_y 4 rfl (by kernel_rfl) (by kernel_rfl) (by kernel_rfl) (ss (ss (ss (ss (ss (ss (ss (ss (ss (ss (se (sn)))))))))))) (wn rfl) rfl (y_fieldAddr_box (sz := 0) Tryz.runUnderlying24 rfl Tryz.sizeOf22 rfl) ?_
        refine any_y 5 rfl (by kernel_rfl) (by kernel_rfl) (by kernel_rfl) (ss (ss (ss (ss (ss (ss (ss (ss (ss (ss (se (sn)))))))))))) (wn rfl) rfl (y_load_box 5 Tryz.isAgg22 rfl rfl rfl) ?_
        refine any_y 6 rfl (by kernel_rfl) (by kernel_rfl) (by kernel_rfl) (ss (ss (ss (ss (ss (ss (ss (ss (ss (ss (se (sn)))))))))))) (wn rfl) rfl (y_move rfl) ?_
        obtain ⟨hb114, h⟩ := need_some h
        refine any_y 7 rfl (by kernel_rfl) (by kernel_rfl) (by kernel_rfl) (ss (ss (ss (ss (ss (ss (ss (ss (ss (ss (se (sn)))))))))))) (wn rfl) rfl (y_slice (l := 0) (r := (max 0 (IntKind.i64.wrap (x_21 - x_18)))) 6 Tryz.runUnderlying22 Tryz.sizeOf57 rfl rfl reads_ro bi0 (bi1 (kd := .i64) rfl) hb114.1 hb114.2.1 (map_len_le hb114.2.2)) ?_
        refine any_turn (turn_sub (l := (0 : Int).toNat) (r := ((max 0 (IntKind.i64.wrap (x_21 - x_18)))).toNat) 6 rfl (by omega) (map_toNat_le hb114.2.2)) ?_
        refine any_turn (retell 11 (g := ro (subS v24 20 ((0 : Int).toNat) (((max 0 (IntKind.i64.wrap (x_21 - x_18)))).toNat)) 20 ((x_19.take (((max 0 (IntKind.i64.wrap (x_21 - x_18)))).toNat)).map S_api_Segment.enc)) rfl (congrArg (ro _ _) (sub_hi _ _ _))) ?_
        refine any_y 9 rfl (by kernel_rfl) (by kernel_rfl) (by kernel_rfl) (ss (ss (ss (ss (ss (ss (ss (ss (ss (ss (se (sn)))))))))))) (wn rfl) rfl (y_fieldAddr_box (sz := 0) Tryz.runUnderlying24 rfl Tryz.sizeOf22 rfl) ?_
        refine any_y 10 rfl (by kernel_rfl) (by kernel_rfl) (by kernel_rfl) (ss (ss (ss (ss (ss (ss (ss (ss (ss (ss (se (sn)))))))))))) (wn rfl) rfl (y_load_box 7 Tryz.isAgg22 rfl rfl rfl) ?_
        refine any_y 12 rfl (by kernel_rfl) (by kernel_rfl) (by kernel_rfl) (ss (ss (ss (ss (ss (ss (ss (ss (ss (ss (se (sn)))))))))))) (wn rfl) rfl (y_fieldAddr_box (sz := 0) Tryz.runUnderlying24 rfl Tryz.sizeOf3 rfl) ?_
        refine any_all [8] (by kernel_rfl) rfl (anyo_cons ?_ anyo_nil)
        obtain ⟨r115, hr116, h⟩ := obind_some h
        refine any_t rfl (wn rfl) rfl (t_callx (vs := [(subS v24 20 ((0 : Int).toNat) (((max 0 (IntKind.i64.wrap (x_21 - x_18)))).toNat))]) (cs := []) [(11, 0)] rfl Tryz.call40 rfl (slices_Clone_weirgate_api_Segment_weirgate_api_Segment_40_ok (x_19.take (((max 0 (IntKind.i64.wrap (x_21 - x_18)))).toNat)) (subS v24 20 ((0 : Int).toNat) (((max 0 (IntKind.i64.wrap (x_21 - x_18)))).toNat)) hr116) (showsX_view 11 rfl views_ro showsX_nil) rfl (.inl rfl)) ?_
        rintro v117 _ ⟨_, ⟨_, rfl, rfl⟩, rfl⟩
        refine ⟨(ss (ss (ss (ss (ss (ss (ss (ss (ss (ss (se (sn)))))))))))), ?_⟩
        refine any_all [11] (by kernel_rfl) rfl (anyo_cons ?_ anyo_nil)
        obtain ⟨hr119, h⟩ := need_some h
        refine any_t rfl (wn rfl) rfl (t_append (es := 20) 12 rfl Tryz.runUnderlying22 rfl Tryz.runUnderlying22 (.inr ⟨_, rfl⟩) Tryz.typeInfo57 rfl (by decide) Tryz.zeroValue57 rfl rfl rfl rfl (src_reads 8 rfl reads_ro (map_ok S_api_Segment.enc_ok _)) (map_room hr119 (by decide)) (map_fit hr119)) ?_
        rintro v118 _ rfl
        refine ⟨(ss (ss (ss (ss (ss (ss (ss (ss (ss (ss (se (sn)))))))))))), ?_⟩
        refine any_turn (retell 12 (g := row v118 20 ((r115 ++ x_22).map S_api_Segment.enc)) rfl (congrArg (row _ _) List.map_append.symm)) ?_
        refine any_all [13] (by kernel_rfl) rfl (anyo_cons ?_ anyo_nil)
        refine any_t rfl (wn rfl) rfl (t_store 10 Tryz.sizeOf3 rfl rfl rfl rfl (by simp [Value.cells, boxP]) (by simp [Value.cells, Value.oneCell', boxP])) ?_
        rintro _ _ ⟨rfl, rfl⟩
        refine ⟨(ss (ss (ss (ss (ss (ss (ss (ss (ss (ss (se (sn)))))))))))), ?_⟩
        refine any_turn (retell 10 (g := box b80 [.int .i64 (IntKind.i64.wrap (x_21 - (max 0 (IntKind.i64.wrap (x_21 - x_18))))), v73, .bool (a_0.Done || b_1.Done)]) rfl rfl) ?_
        refine any_y 14 rfl (by kernel_rfl) (by kernel_rfl) (by kernel_rfl) (ss (ss (ss (ss (ss (ss (ss (ss (ss (ss (se (sn)))))))))))) (wn rfl) rfl (y_fieldAddr_box (sz := 0) Tryz.runUnderlying24 rfl Tryz.sizeOf22 rfl) ?_
        refine any_all [15] (by kernel_rfl) rfl (anyo_cons ?_ anyo_nil)
        refine anyo_slc 12 rfl reads_row (fun hs120 hs120o => ?_)
        refine any_t rfl (wn rfl) rfl (t_store 10 Tryz.sizeOf22 rfl rfl rfl (by rw [hs120]; rfl) (by simp [Value.cells, boxP]) (by rw [hs120]; exact allL_cons hs120o (allL_nil))) ?_
        rintro _ _ ⟨rfl, rfl⟩
        refine ⟨(ss (ss (ss (ss (ss (ss (ss (ss (ss (ss (se (sn)))))))))))), ?_⟩
        refine any_turn (retell 10 (g := box b80 [.int .i64 (IntKind.i64.wrap (x_21 - (max 0 (IntKind.i64.wrap (x_21 - x_18))))), v118, .bool (a_0.Done || b_1.Done)]) rfl (by rw [hs120]; rfl)) ?_
        refine any_nil (by kernel_rfl) ?_
        obtain rfl := some_eq h
        exact goes_cut hL88 (((IntKind.i64.wrap (x_21 - (max 0 (IntKind.i64.wrap (x_21 - x_18))))), (r115 ++ x_22)), v118) [4, 10, 12] (qv3 rfl rfl rfl) (by decide) rfl rfl
      ·replace h := cond_f h hc101
       refine run_skip ?_
       obtain rfl := some_eq h
       exact goes_cut hL88 ((x_21, r67), v73) [4, 10, 9] (qv3 rfl rfl rfl) (by decide) rfl rfl
     rintro ⟨⟨x_83, x_84⟩, v85⟩ hj
     obtain rfl : o86 = _ := hj
     replace h := after_go ho87
     clear ho87
     change Run _ _ _ (VF.of [(2, .int .i64 window_2), (6, boxP b3 0), (14, boxP b80 0)]) [box b3 [.int .i64 0, .slice none 0 0, .bool false], box b80 [.int .i64 x_83, v85, .bool (a_0.Done || b_1.Done)], row v85 20 (x_84.map S_api_Segment.enc)]
     refine run_seq ?_
     refine run_region' ?_
     refine oy rfl rfl (y_load_boxagg (c := [.int .i64 x_83, v85, .bool (a_0.Done || b_1.Done)]) 1 Tryz.isAgg24 Tryz.sizeOf24 rfl rfl rfl) ?_
     refine oy rfl rfl (y_move rfl) ?_
     refine ops_turn (Go.Abs.freeze 2 rfl) ?_
     obtain ⟨r121, hr122, h⟩ := obind_some h
     refine ot rfl rfl (t_callx (vs := [.agg #[.int .i64 x_83, v85, .bool (a_0.Done || b_1.Done)], .int .i64 window_2]) (cs := []) [(2, 0)] rfl Tryz.call41 rfl (playlist_cut_ok (S_api_Playlist.mk x_83 x_84 (a_0.Done || b_1.Done)) window_2 v85 hr122) (showsX_view 2 rfl views_ro showsX_nil) rfl (.inl rfl)) ?_
     rintro _ _ ⟨_, ⟨v123, rfl, rfl⟩, rfl⟩
     refine ops_slc 3 rfl reads_ro (fun hs124 hs124o => ?_)
     refine ot rfl rfl (t_store 0 Tryz.sizeOf24 rfl rfl rfl rfl (by simp [Value.cells, boxP]) (allL_cons rfl (allL_cons hs124o (allL_cons rfl (allL_nil))))) ?_
     rintro _ _ ⟨rfl, rfl⟩
     refine ops_turn (retell 0 (g := box b3 [.int .i64 r121.First, v123, .bool r121.Done]) rfl rfl) ?_
     refine oy rfl rfl (y_assign rfl) ?_
     refine ops_nil ?_
     refine goes_code ?_
     refine run_ret ?_
     obtain rfl := some_eq h
     refine fin_res [.cell 6 24, .tmp 7] [.agg #[.int .i64 r121.First, v123, .bool r121.Done], .int .i64 0] [3] [ro v123 20 (r121.L.map S_api_Segment.enc)] Tryz.results9 rfl (rescons (res_box 0 Tryz.isAgg24 Tryz.sizeOf24 rfl rfl rfl) (rescons (res_tmp rfl) resnil)) (by decide) rfl ?_
     exact ⟨_, rfl, rfl⟩
    refine any_cut2 #[true, true, true, true, true, true, true, true, true, true, true, true, true, false] 1 (Value × Nat) (fun σ => [(2, .int .i64 window_2), (6, boxP b3 0), (8, boxP b12 0), (9, boxP b14 0), (76, .agg #[.int .i64 x_21, σ.1, .bool (a_0.Done || b_1.Done)]), (14, boxP σ.2 0)]) (fun σ => [box b1 [.int .i64 a_0.First, a_0_Lv, .bool a_0.Done], ro a_0_Lv 20 (a_0.L.map S_api_Segment.enc), box b2 [.int .i64 b_1.First, b_1_Lv, .bool b_1.Done], ro b_1_Lv 20 (b_1.L.map S_api_Segment.enc), box b3 [.int .i64 0, .slice none 0 0, .bool false], box b12 [.int .i64 x_18, v24, .bool x_20], ro v24 20 (x_19.map S_api_Segment.enc), box b14 [.int .i64 x_21, v25, .bool x_23], ro v25 20 (x_22.map S_api_Segment.enc), row σ.1 20 (r67.map S_api_Segment.enc), box σ.2 [.int .i64 0, .slice none 0 0, .bool false]]) ?_ (fun hK125 => ?_)
    ·rintro ⟨v73, b80⟩
     change AnyL _ _ _ _ _ (VF.of [(2, .int .i64 window_2), (6, boxP b3 0), (8, boxP b12 0), (9, boxP b14 0), (76, .agg #[.int .i64 x_21, v73, .bool (a_0.Done || b_1.Done)]), (14, boxP b80 0)]) [box b1 [.int .i64 a_0.First, a_0_Lv, .bool a_0.Done], ro a_0_Lv 20 (a_0.L.map S_api_Segment.enc), box b2 [.int .i64 b_1.First, b_1_Lv, .bool b_1.Done], ro b_1_Lv 20 (b_1.L.map S_api_Segment.enc), box b3 [.int .i64 0, .slice none 0 0, .bool false], box b12 [.int .i64 x_18, v24, .bool x_20], ro v24 20 (x_19.map S_api_Segment.enc), box b14 [.int .i64 x_21, v25, .bool x_23], ro v25 20 (x_22.map S_api_Segment.enc), row v73 20 (r67.map S_api_Segment.enc), box b80 [.int .i64 0, .slice none 0 0, .bool false]] _
     refine any_all [13] (by kernel_rfl) rfl ?_
     refine anyo_cons ?_ ?_
     ·
      refine anyo_slc 9 rfl reads_row (fun hs126 hs126o => ?_)
      refine any_t rfl (wn rfl) rfl (t_store 10 Tryz.sizeOf24 rfl rfl rfl rfl (by simp [Value.cells, boxP]) (allL_cons rfl (allL_cons hs126o (allL_cons rfl (allL_nil))))) ?_
      rintro _ _ ⟨rfl, rfl⟩
      refine ⟨(ss (ss (ss (ss (ss (ss (ss (ss (ss (sn)))))))))), ?_⟩
      refine any_turn (retell 10 (g := box b80 [.int .i64 x_21, v73, .bool (a_0.Done || b_1.Done)]) rfl rfl) ?_
      exact any_weak2 (hK82 (b80, v73)) [0, 1, 2, 3, 4, 5, 6, 7, 8, 9, 10] (by kernel_rfl) (qv5 rfl rfl rfl rfl rfl) (by decide) rfl
     exact anyo_nil
    refine any_cut2 #[true, true, true, true, true, true, true, true, true, true, true, true, false, false] 2 (Value) (fun σ => [(2, .int .i64 window_2), (6, boxP b3 0), (8, boxP b12 0), (9, boxP b14 0), (76, .agg #[.int .i64 x_21, σ, .bool (a_0.Done || b_1.Done)])]) (fun σ => [box b1 [.int .i64 a_0.First, a_0_Lv, .bool a_0.Done], ro a_0_Lv 20 (a_0.L.map S_api_Segment.enc), box b2 [.int .i64 b_1.First, b_1_Lv, .bool b_1.Done], ro b_1_Lv 20 (b_1.L.map S_api_Segment.enc), box b3 [.int .i64 0, .slice none 0 0, .bool false], box b12 [.int .i64 x_18, v24, .bool x_20], ro v24 20 (x_19.map S_api_Segment.enc), box b14 [.int .i64 x_21, v25, .bool x_23], ro v25 20 (x_22.map S_api_Segment.enc), row σ 20 (r67.map S_api_Segment.enc)]) ?_ (fun hK127 => ?_)
    ·rintro v73
     change AnyL _ _ _ _ _ (VF.of [(2, .int .i64 window_2), (6, boxP b3 0), (8, boxP b12 0), (9, boxP b14 0), (76, .agg #[.int .i64 x_21, v73, .bool (a_0.Done || b_1.Done)])]) [box b1 [.int .i64 a_0.First, a_0_Lv, .bool a_0.Done], ro a_0_Lv 20 (a_0.L.map S_api_Segment.enc), box b2 [.int .i64 b_1.First, b_1_Lv, .bool b_1.Done], ro b_1_Lv 20 (b_1.L.map S_api_Segment.enc), box b3 [.int .i64 0, .slice none 0 0, .bool false], box b12 [.int .i64 x_18, v24, .bool x_20], ro v24 20 (x_19.map S_api_Segment.enc), box b14 [.int .i64 x_21, v25, .bool x_23], ro v25 20 (x_22.map S_api_Segment.enc), row v73 20 (r67.map S_api_Segment.enc)] _
     refine any_all [12] (by kernel_rfl) rfl ?_
     refine anyo_cons ?_ ?_
     ·
      refine any_t rfl (wn rfl) rfl (t_alloc Tryz.zeroValue24) ?_
      rintro _ _ ⟨b128, rfl, rfl⟩
      refine ⟨(ss (ss (ss (ss (ss (ss (ss (ss (ss (sn)))))))))), ?_⟩
      exact any_weak2 (hK125 (v73, b128)) [0, 1, 2, 3, 4, 5, 6, 7, 8, 9, 10] (by kernel_rfl) (qv6 rfl rfl rfl rfl rfl rfl) (by decide) rfl
     exact anyo_nil
    refine any_cut2 #[true, true, true, true, true, true, true, true, true, true, true, false, true, false] 2 (Value × Nat) (fun σ => [(2, .int .i64 window_2), (6, boxP b3 0), (8, boxP b12 0), (9, boxP b14 0), (66, .int .i64 x_21), (69, σ.1), (75, .bool (a_0.Done || b_1.Done)), (14, boxP σ.2 0)]) (fun σ => [box b1 [.int .i64 a_0.First, a_0_Lv, .bool a_0.Done], ro a_0_Lv 20 (a_0.L.map S_api_Segment.enc), box b2 [.int .i64 b_1.First, b_1_Lv, .bool b_1.Done], ro b_1_Lv 20 (b_1.L.map S_api_Segment.enc), box b3 [.int .i64 0, .slice none 0 0, .bool false], box b12 [.int .i64 x_18, v24, .bool x_20], ro v24 20 (x_19.map S_api_Segment.enc), box b14 [.int .i64 x_21, v25, .bool x_23], ro v25 20 (x_22.map S_api_Segment.enc), row σ.1 20 (r67.map S_api_Segment.enc), box σ.2 [.int .i64 0, .slice none 0 0, .bool false]]) ?_ (fun hK129 => ?_)
    ·rintro ⟨v73, b79⟩
     change AnyL _ _ _ _ _ (VF.of [(2, .int .i64 window_2), (6, boxP b3 0), (8, boxP b12 0), (9, boxP b14 0), (66, .int .i64 x_21), (69, v73), (75, .bool (a_0.Done || b_1.Done)), (14, boxP b79 0)]) [box b1 [.int .i64 a_0.First, a_0_Lv, .bool a_0.Done], ro a_0_Lv 20 (a_0.L.map S_api_Segment.enc), box b2 [.int .i64 b_1.First, b_1_Lv, .bool b_1.Done], ro b_1_Lv 20 (b_1.L.map S_api_Segment.enc), box b3 [.int .i64 0, .slice none 0 0, .bool false], box b12 [.int .i64 x_18, v24, .bool x_20], ro v24 20 (x_19.map S_api_Segment.enc), box b14 [.int .i64 x_21, v25, .bool x_23], ro v25 20 (x_22.map S_api_Segment.enc), row v73 20 (r67.map S_api_Segment.enc), box b79 [.int .i64 0, .slice none 0 0, .bool false]] _
     refine any_all [11] (by kernel_rfl) rfl ?_
     refine anyo_cons ?_ ?_
     ·
      refine anyo_slc 9 rfl reads_row (fun hs130 hs130o => ?_)
      refine any_ty rfl (wn rfl) rfl (y_build_struct (cells := #[.int .i64 x_21, v73, .bool (a_0.Done || b_1.Done)]) [(0, .int .i64 x_21), (1, v73), (2, .bool (a_0.Done || b_1.Done))] [(0, [.int .i64 x_21]), (1, [v73]), (2, [.bool (a_0.Done || b_1.Done)])] Tryz.zeroValue24 Tryz.runUnderlying24 (fs_cons Tryz.sizeOf3 (fs_cons Tryz.sizeOf22 (fs_cons Tryz.sizeOf4 fs_nil))) rfl (by first | (simp only [List.map_cons, List.map_nil, hs130]; done) | (simp only [List.map_cons, List.map_nil, hs130]; rfl)) rfl) ⟨(ss (ss (ss (ss (ss (ss (ss (ss (ss (sn)))))))))), ?_⟩
      exact any_weak2 (hK125 (v73, b79)) [0, 1, 2, 3, 4, 5, 6, 7, 8, 9, 10] (by kernel_rfl) (qv6 rfl rfl rfl rfl rfl rfl) (by decide) rfl
     exact anyo_nil
    refine any_cut2 #[true, true, true, true, true, true, true, true, true, true, true, false, false, false] 3 (Value) (fun σ => [(2, .int .i64 window_2), (6, boxP b3 0), (8, boxP b12 0), (9, boxP b14 0), (66, .int .i64 x_21), (69, σ), (75, .bool (a_0.Done || b_1.Done))]) (fun σ => [box b1 [.int .i64 a_0.First, a_0_Lv, .bool a_0.Done], ro a_0_Lv 20 (a_0.L.map S_api_Segment.enc), box b2 [.int .i64 b_1.First, b_1_Lv, .bool b_1.Done], ro b_1_Lv 20 (b_1.L.map S_api_Segment.enc), box b3 [.int .i64 0, .slice none 0 0, .bool false], box b12 [.int .i64 x_18, v24, .bool x_20], ro v24 20 (x_19.map S_api_Segment.enc), box b14 [.int .i64 x_21, v25, .bool x_23], ro v25 20 (x_22.map S_api_Segment.enc), row σ 20 (r67.map S_api_Segment.enc)]) ?_ (fun hK131 => ?_)
    ·rintro v73
     change AnyL _ _ _ _ _ (VF.of [(2, .int .i64 window_2), (6, boxP b3 0), (8, boxP b12 0), (9, boxP b14 0), (66, .int .i64 x_21), (69, v73), (75, .bool (a_0.Done || b_1.Done))]) [box b1 [.int .i64 a_0.First, a_0_Lv, .bool a_0.Done], ro a_0_Lv 20 (a_0.L.map S_api_Segment.enc), box b2 [.int .i64 b_1.First, b_1_Lv, .bool b_1.Done], ro b_1_Lv 20 (b_1.L.map S_api_Segment.enc), box b3 [.int .i64 0, .slice none 0 0, .bool false], box b12 [.int .i64 x_18, v24, .bool x_20], ro v24 20 (x_19.map S_api_Segment.enc), box b14 [.int .i64 x_21, v25, .bool x_23], ro v25 20 (x_22.map S_api_Segment.enc), row v73 20 (r67.map S_api_Segment.enc)] _
     refine any_all [11, 12] (by kernel_rfl) rfl ?_
     refine anyo_cons ?_ ?_
     ·
      refine anyo_slc 9 rfl reads_row (fun hs132 hs132o => ?_)
      refine any_ty rfl (wn rfl) rfl (y_build_struct (cells := #[.int .i64 x_21, v73, .bool (a_0.Done || b_1.Done)]) [(0, .int .i64 x_21), (1, v73), (2, .bool (a_0.Done || b_1.Done))] [(0, [.int .i64 x_21]), (1, [v73]), (2, [.bool (a_0.Done || b_1.Done)])] Tryz.zeroValue24 Tryz.runUnderlying24 (fs_cons Tryz.sizeOf3 (fs_cons Tryz.sizeOf22 (fs_cons Tryz.sizeOf4 fs_nil))) rfl (by first | (simp only [List.map_cons, List.map_nil, hs132]; done) | (simp only [List.map_cons, List.map_nil, hs132]; rfl)) rfl) ⟨(ss (ss (ss (ss (ss (ss (ss (ss (ss (sn)))))))))), ?_⟩
      exact any_weak2 (hK127 v73) [0, 1, 2, 3, 4, 5, 6, 7, 8, 9] (by kernel_rfl) (qv5 rfl rfl rfl rfl rfl) (by decide) rfl
     refine anyo_cons ?_ ?_
     ·
      refine any_t rfl (wn rfl) rfl (t_alloc Tryz.zeroValue24) ?_
      rintro _ _ ⟨b133, rfl, rfl⟩
      refine ⟨(ss (ss (ss (ss (ss (ss (ss (ss (ss (sn)))))))))), ?_⟩
      exact any_weak2 (hK129 (v73, b133)) [0, 1, 2, 3, 4, 5, 6, 7, 8, 9, 10] (by kernel_rfl) (qv8 rfl rfl rfl rfl rfl rfl rfl rfl) (by decide) rfl
     exact anyo_nil
    refine any_cut2 #[true, true, true, true, false, true, true, false, false, false, false, false, true, false] 7 (Nat) (fun σ => [(2, .int .i64 window_2), (4, boxP b2 0), (6, boxP b3 0), (8, boxP b12 0), (9, boxP b14 0), (66, .int .i64 x_21), (68, v25), (71, .bool a_0.Done), (14, boxP σ 0)]) (fun σ => [box b1 [.int .i64 a_0.First, a_0_Lv, .bool a_0.Done], ro a_0_Lv 20 (a_0.L.map S_api_Segment.enc), box b2 [.int .i64 b_1.First, b_1_Lv, .bool b_1.Done], ro b_1_Lv 20 (b_1.L.map S_api_Segment.enc), box b3 [.int .i64 0, .slice none 0 0, .bool false], box b12 [.int .i64 x_18, v24, .bool x_20], ro v24 20 (x_19.map S_api_Segment.enc), box b14 [.int .i64 x_21, v25, .bool x_23], ro v25 20 (x_22.map S_api_Segment.enc), box σ [.int .i64 0, .slice none 0 0, .bool false]]) ?_ (fun hK134 => ?_)
    ·rintro b77
     change AnyL _ _ _ _ _ (VF.of [(2, .int .i64 window_2), (4, boxP b2 0), (6, boxP b3 0), (8, boxP b12 0), (9, boxP b14 0), (66, .int .i64 x_21), (68, v25), (71, .bool a_0.Done), (14, boxP b77 0)]) [box b1 [.int .i64 a_0.First, a_0_Lv, .bool a_0.Done], ro a_0_Lv 20 (a_0.L.map S_api_Segment.enc), box b2 [.int .i64 b_1.First, b_1_Lv, .bool b_1.Done], ro b_1_Lv 20 (b_1.L.map S_api_Segment.enc), box b3 [.int .i64 0, .slice none 0 0, .bool false], box b12 [.int .i64 x_18, v24, .bool x_20], ro v24 20 (x_19.map S_api_Segment.enc), box b14 [.int .i64 x_21, v25, .bool x_23], ro v25 20 (x_22.map S_api_Segment.enc), box b77 [.int .i64 0, .slice none 0 0, .bool false]] _
     refine any_all [4] (by kernel_rfl) rfl ?_
     refine anyo_cons ?_ ?_
     ·
      refine any_t rfl (wn rfl) rfl (t_callx (vs := [v25]) (cs := []) [(8, 0)] rfl Tryz.call40 rfl (slices_Clone_weirgate_api_Segment_weirgate_api_Segment_40_ok x_22 v25 hr68) (showsX_view 8 rfl views_ro showsX_nil) rfl (.inl rfl)) ?_
      rintro v135 _ ⟨_, ⟨_, rfl, rfl⟩, rfl⟩
      refine ⟨(ss (ss (ss (ss (ss (ss (ss (ss (ss (sn)))))))))), ?_⟩
      refine any_y 7 rfl (by kernel_rfl) (by kernel_rfl) (by kernel_rfl) (ss (ss (ss (ss (ss (ss (ss (ss (ss (sn)))))))))) (wn rfl) rfl (y_move rfl) ?_
      refine any_cut #[true, true, true, true, true, true, true, true, true, true, true, false, true, false] 2 Bool (fun σ => [(2, .int .i64 window_2), (6, boxP b3 0), (8, boxP b12 0), (9, boxP b14 0), (66, .int .i64 x_21), (14, boxP b77 0), (69, v135), (75, .bool σ)]) (fun σ => [box b1 [.int .i64 a_0.First, a_0_Lv, .bool a_0.Done], ro a_0_Lv 20 (a_0.L.map S_api_Segment.enc), box b2 [.int .i64 b_1.First, b_1_Lv, .bool b_1.Done], ro b_1_Lv 20 (b_1.L.map S_api_Segment.enc), box b3 [.int .i64 0, .slice none 0 0, .bool false], box b12 [.int .i64 x_18, v24, .bool x_20], ro v24 20 (x_19.map S_api_Segment.enc), box b14 [.int .i64 x_21, v25, .bool x_23], ro v25 20 (x_22.map S_api_Segment.enc), box b77 [.int .i64 0, .slice none 0 0, .bool false], row v135 20 (r67.map S_api_Segment.enc)]) (fun σ => σ = (a_0.Done || b_1.Done)) (fun hL137 => ?_) ?_
      ·refine any_split 72 a_0.Done rfl (fun hg138 => ?_) (fun hg138 => ?_)
       ·skip
        refine any_no 8 rfl (by kernel_rfl) (by kernel_rfl) (by kernel_rfl) (ss (ss (ss (ss (ss (ss (ss (ss (ss (sn)))))))))) 7 false 72 rfl rfl rfl rfl rfl ?_
        refine any_no 9 rfl (by kernel_rfl) (by kernel_rfl) (by kernel_rfl) (ss (ss (ss (ss (ss (ss (ss (ss (ss (sn)))))))))) 7 false 72 rfl rfl rfl rfl rfl ?_
        refine any_y 10 rfl (by kernel_rfl) (by kernel_rfl) (by kernel_rfl) (ss (ss (ss (ss (ss (ss (ss (ss (ss (sn)))))))))) (wn rfl) rfl (y_pick (b := true) rfl rfl) ?_
        exact any_weak [(2, .int .i64 window_2), (6, boxP b3 0), (8, boxP b12 0), (9, boxP b14 0), (66, .int .i64 x_21), (14, boxP b77 0), (69, v135), (75, .bool true)] [0, 1, 2, 3, 4, 5, 6, 7, 8, 9, 10] [box b1 [.int .i64 a_0.First, a_0_Lv, .bool a_0.Done], ro a_0_Lv 20 (a_0.L.map S_api_Segment.enc), box b2 [.int .i64 b_1.First, b_1_Lv, .bool b_1.Done], ro b_1_Lv 20 (b_1.L.map S_api_Segment.enc), box b3 [.int .i64 0, .slice none 0 0, .bool false], box b12 [.int .i64 x_18, v24, .bool x_20], ro v24 20 (x_19.map S_api_Segment.enc), box b14 [.int .i64 x_21, v25, .bool x_23], ro v25 20 (x_22.map S_api_Segment.enc), box b77 [.int .i64 0, .slice none 0 0, .bool false], row v135 20 (r67.map S_api_Segment.enc)] (by kernel_rfl) (qv8 rfl rfl rfl rfl rfl rfl rfl rfl) (by decide) rfl (hL137 true (by rw [hg138]; simp))
       ·skip
        refine any_y 8 rfl (by kernel_rfl) (by kernel_rfl) (by kernel_rfl) (ss (ss (ss (ss (ss (ss (ss (ss (ss (sn)))))))))) (wg 7 false 72 rfl rfl rfl rfl) rfl (y_fieldAddr_box (sz := 0) Tryz.runUnderlying24 rfl Tryz.sizeOf4 rfl) ?_
        refine any_y 9 rfl (by kernel_rfl) (by kernel_rfl) (by kernel_rfl) (ss (ss (ss (ss (ss (ss (ss (ss (ss (sn)))))))))) (wg 7 false 72 rfl rfl rfl rfl) rfl (y_load_box 2 Tryz.isAgg4 rfl rfl rfl) ?_
        refine any_y 10 rfl (by kernel_rfl) (by kernel_rfl) (by kernel_rfl) (ss (ss (ss (ss (ss (ss (ss (ss (ss (sn)))))))))) (wn rfl) rfl (y_pick (b := false) rfl rfl) ?_
        exact any_weak [(2, .int .i64 window_2), (6, boxP b3 0), (8, boxP b12 0), (9, boxP b14 0), (66, .int .i64 x_21), (14, boxP b77 0), (69, v135), (75, .bool b_1.Done)] [0, 1, 2, 3, 4, 5, 6, 7, 8, 9, 10] [box b1 [.int .i64 a_0.First, a_0_Lv, .bool a_0.Done], ro a_0_Lv 20 (a_0.L.map S_api_Segment.enc), box b2 [.int .i64 b_1.First, b_1_Lv, .bool b_1.Done], ro b_1_Lv 20 (b_1.L.map S_api_Segment.enc), box b3 [.int .i64 0, .slice none 0 0, .bool false], box b12 [.int .i64 x_18, v24, .bool x_20], ro v24 20 (x_19.map S_api_Segment.enc), box b14 [.int .i64 x_21, v25, .bool x_23], ro v25 20 (x_22.map S_api_Segment.enc), box b77 [.int .i64 0, .slice none 0 0, .bool false], row v135 20 (r67.map S_api_Segment.enc)] (by kernel_rfl) (qv8 rfl rfl rfl rfl rfl rfl rfl rfl) (by decide) rfl (hL137 b_1.Done (by rw [hg138]; simp))
      rintro _ rfl
      exact any_weak2 (hK129 (v135, b77)) [0, 1, 2, 3, 4, 5, 6, 7, 8, 10, 9] (by kernel_rfl) (qv8 rfl rfl rfl rfl rfl rfl rfl rfl) (by decide) rfl
     exact anyo_nil
    refine any_all [4, 12] (by kernel_rfl) rfl ?_
    refine anyo_cons ?_ ?_
    ·
     refine any_t rfl (wn rfl) rfl (t_callx (vs := [v25]) (cs := []) [(8, 0)] rfl Tryz.call40 rfl (slices_Clone_weirgate_api_Segment_weirgate_api_Segment_40_ok x_22 v25 hr68) (showsX_view 8 rfl views_ro showsX_nil) rfl (.inl rfl)) ?_
     rintro v139 _ ⟨_, ⟨_, rfl, rfl⟩, rfl⟩
     refine ⟨(ss (ss (ss (ss (ss (ss (ss (ss (ss (sn)))))))))), ?_⟩
     refine any_y 7 rfl (by kernel_rfl) (by kernel_rfl) (by kernel_rfl) (ss (ss (ss (ss (ss (ss (ss (ss (ss (sn)))))))))) (wn rfl) rfl (y_move rfl) ?_
     refine any_cut #[true, true, true, true, true, true, true, true, true, true, true, false, false, false] 3 Bool (fun σ => [(2, .int .i64 window_2), (6, boxP b3 0), (8, boxP b12 0), (9, boxP b14 0), (66, .int .i64 x_21), (69, v139), (75, .bool σ)]) (fun σ => [box b1 [.int .i64 a_0.First, a_0_Lv, .bool a_0.Done], ro a_0_Lv 20 (a_0.L.map S_api_Segment.enc), box b2 [.int .i64 b_1.First, b_1_Lv, .bool b_1.Done], ro b_1_Lv 20 (b_1.L.map S_api_Segment.enc), box b3 [.int .i64 0, .slice none 0 0, .bool false], box b12 [.int .i64 x_18, v24, .bool x_20], ro v24 20 (x_19.map S_api_Segment.enc), box b14 [.int .i64 x_21, v25, .bool x_23], ro v25 20 (x_22.map S_api_Segment.enc), row v139 20 (r67.map S_api_Segment.enc)]) (fun σ => σ = (a_0.Done || b_1.Done)) (fun hL141 => ?_) ?_
     ·refine any_split 72 a_0.Done rfl (fun hg142 => ?_) (fun hg142 => ?_)
      ·skip
       refine any_no 8 rfl (by kernel_rfl) (by kernel_rfl) (by kernel_rfl) (ss (ss (ss (ss (ss (ss (ss (ss (ss (sn)))))))))) 7 false 72 rfl rfl rfl rfl rfl ?_
       refine any_no 9 rfl (by kernel_rfl) (by kernel_rfl) (by kernel_rfl) (ss (ss (ss (ss (ss (ss (ss (ss (ss (sn)))))))))) 7 false 72 rfl rfl rfl rfl rfl ?_
       refine any_y 10 rfl (by kernel_rfl) (by kernel_rfl) (by kernel_rfl) (ss (ss (ss (ss (ss (ss (ss (ss (ss (sn)))))))))) (wn rfl) rfl (y_pick (b := true) rfl rfl) ?_
       exact any_weak [(2, .int .i64 window_2), (6, boxP b3 0), (8, boxP b12 0), (9, boxP b14 0), (66, .int .i64 x_21), (69, v139), (75, .bool true)] [0, 1, 2, 3, 4, 5, 6, 7, 8, 9] [box b1 [.int .i64 a_0.First, a_0_Lv, .bool a_0.Done], ro a_0_Lv 20 (a_0.L.map S_api_Segment.enc), box b2 [.int .i64 b_1.First, b_1_Lv, .bool b_1.Done], ro b_1_Lv 20 (b_1.L.map S_api_Segment.enc), box b3 [.int .i64 0, .slice none 0 0, .bool false], box b12 [.int .i64 x_18, v24, .bool x_20], ro v24 20 (x_19.map S_api_Segment.enc), box b14 [.int .i64 x_21, v25, .bool x_23], ro v25 20 (x_22.map S_api_Segment.enc), row v139 20 (r67.map S_api_Segment.enc)] (by kernel_rfl) (qv7 rfl rfl rfl rfl rfl rfl rfl) (by decide) rfl (hL141 true (by rw [hg142]; simp))
      ·skip
       refine any_y 8 rfl (by kernel_rfl) (by kernel_rfl) (by kernel_rfl) (ss (ss (ss (ss (ss (ss (ss (ss (ss (sn)))))))))) (wg 7 false 72 rfl rfl rfl rfl) rfl (y_fieldAddr_box (sz := 0) Tryz.runUnderlying24 rfl Tryz.sizeOf4 rfl) ?_
       refine any_y 9 rfl (by kernel_rfl) (by kernel_rfl) (by kernel_rfl) (ss (ss (ss (ss (ss (ss (ss (ss (ss (sn)))))))))) (wg 7 false 72 rfl rfl rfl rfl) rfl (y_load_box 2 Tryz.isAgg4 rfl rfl rfl) ?_
       refine any_y 10 rfl (by kernel_rfl) (by kernel_rfl) (by kernel_rfl) (ss (ss (ss (ss (ss (ss (ss (ss (ss (sn)))))))))) (wn rfl) rfl (y_pick (b := false) rfl rfl) ?_
       exact any_weak [(2, .int .i64 window_2), (6, boxP b3 0), (8, boxP b12 0), (9, boxP b14 0), (66, .int .i64 x_21), (69, v139), (75, .bool b_1.Done)] [0, 1, 2, 3, 4, 5, 6, 7, 8, 9] [box b1 [.int .i64 a_0.First, a_0_Lv, .bool a_0.Done], ro a_0_Lv 20 (a_0.L.map S_api_Segment.enc), box b2 [.int .i64 b_1.First, b_1_Lv, .bool b_1.Done], ro b_1_Lv 20 (b_1.L.map S_api_Segment.enc), box b3 [.int .i64 0, .slice none 0 0, .bool false], box b12 [.int .i64 x_18, v24, .bool x_20], ro v24 20 (x_19.map S_api_Segment.enc), box b14 [.int .i64 x_21, v25, .bool x_23], ro v25 20 (x_22.map S_api_Segment.enc), row v139 20 (r67.map S_api_Segment.enc)] (by kernel_rfl) (qv7 rfl rfl rfl rfl rfl rfl rfl) (by decide) rfl (hL141 b_1.Done (by rw [hg142]; simp))
     rintro _ rfl
     exact any_weak2 (hK131 v139) [0, 1, 2, 3, 4, 5, 6, 7, 8, 9] (by kernel_rfl) (qv7 rfl rfl rfl rfl rfl rfl rfl) (by decide) rfl
    refine anyo_cons ?_ ?_
    ·
     refine any_t rfl (wn rfl) rfl (t_alloc Tryz.zeroValue24) ?_
     rintro _ _ ⟨b143, rfl, rfl⟩
     refine ⟨(ss (ss (ss (ss (ss (ss (ss (ss (ss (sn)))))))))), ?_⟩
     exact any_weak2 (hK134 b143) [0, 1, 2, 3, 4, 5, 6, 7, 8, 9] (by kernel_rfl) (qv9 rfl rfl rfl rfl rfl rfl rfl rfl rfl) (by decide) rfl
    exact anyo_nil
  refine any_cut2 #[true, true, true, true, true, false] 1 (Nat × Nat) (fun σ => [(2, .int .i64 window_2), (3, boxP b1 0), (4, boxP b2 0), (6, boxP b3 0), (24, .agg #[.int .i64 a_0.First, a_0_Lv, .bool a_0.Done]), (8, boxP σ.1 0), (9, boxP σ.2 0)]) (fun σ => [ro a_0_Lv 20 (a_0.L.map S_api_Segment.enc), ro b_1_Lv 20 (b_1.L.map S_api_Segment.enc), box b1 [.int .i64 a_0.First, a_0_Lv, .bool a_0.Done], box b2 [.int .i64 b_1.First, b_1_Lv, .bool b_1.Done], box b3 [.int .i64 0, .slice none 0 0, .bool false], box σ.1 [.int .i64 b_1.First, b_1_Lv, .bool b_1.Done], box σ.2 [.int .i64 0, .slice none 0 0, .bool false]]) ?_ (fun hK144 => ?_)
  ·rintro ⟨b12, b14⟩
   change AnyL _ _ _ _ _ (VF.of [(2, .int .i64 window_2), (3, boxP b1 0), (4, boxP b2 0), (6, boxP b3 0), (24, .agg #[.int .i64 a_0.First, a_0_Lv, .bool a_0.Done]), (8, boxP b12 0), (9, boxP b14 0)]) [ro a_0_Lv 20 (a_0.L.map S_api_Segment.enc), ro b_1_Lv 20 (b_1.L.map S_api_Segment.enc), box b1 [.int .i64 a_0.First, a_0_Lv, .bool a_0.Done], box b2 [.int .i64 b_1.First, b_1_Lv, .bool b_1.Done], box b3 [.int .i64 0, .slice none 0 0, .bool false], box b12 [.int .i64 b_1.First, b_1_Lv, .bool b_1.Done], box b14 [.int .i64 0, .slice none 0 0, .bool false]] _
   refine any_all [5] (by kernel_rfl) rfl ?_
   refine anyo_cons ?_ ?_
   ·
    refine anyo_slc 0 rfl reads_ro (fun hs145 hs145o => ?_)
    refine any_t rfl (wn rfl) rfl (t_store 6 Tryz.sizeOf24 rfl rfl rfl rfl (by simp [Value.cells, boxP]) (allL_cons rfl (allL_cons hs145o (allL_cons rfl (allL_nil))))) ?_
    rintro _ _ ⟨rfl, rfl⟩
    refine ⟨(ss (ss (ss (ss (ss (sn)))))), ?_⟩
    refine any_turn (retell 6 (g := box b14 [.int .i64 a_0.First, a_0_Lv, .bool a_0.Done]) rfl rfl) ?_
    exact any_weak2 (hK17 (b12, b14)) [0, 1, 2, 3, 4, 5, 6] (by kernel_rfl) (qv6 rfl rfl rfl rfl rfl rfl) (by decide) rfl
   exact anyo_nil
  refine any_cut2 #[true, true, true, true, false, false] 2 (Nat × Nat) (fun σ => [(2, .int .i64 window_2), (3, boxP b1 0), (4, boxP b2 0), (6, boxP b3 0), (23, .agg #[.int .i64 b_1.First, b_1_Lv, .bool b_1.Done]), (24, .agg #[.int .i64 a_0.First, a_0_Lv, .bool a_0.Done]), (8, boxP σ.1 0), (9, boxP σ.2 0)]) (fun σ => [ro a_0_Lv 20 (a_0.L.map S_api_Segment.enc), ro b_1_Lv 20 (b_1.L.map S_api_Segment.enc), box b1 [.int .i64 a_0.First, a_0_Lv, .bool a_0.Done], box b2 [.int .i64 b_1.First, b_1_Lv, .bool b_1.Done], box b3 [.int .i64 0, .slice none 0 0, .bool false], box σ.1 [.int .i64 0, .slice none 0 0, .bool false], box σ.2 [.int .i64 0, .slice none 0 0, .bool false]]) ?_ (fun hK146 => ?_)
  ·rintro ⟨b12, b14⟩
   change AnyL _ _ _ _ _ (VF.of [(2, .int .i64 window_2), (3, boxP b1 0), (4, boxP b2 0), (6, boxP b3 0), (23, .agg #[.int .i64 b_1.First, b_1_Lv, .bool b_1.Done]), (24, .agg #[.int .i64 a_0.First, a_0_Lv, .bool a_0.Done]), (8, boxP b12 0), (9, boxP b14 0)]) [ro a_0_Lv 20 (a_0.L.map S_api_Segment.enc), ro b_1_Lv 20 (b_1.L.map S_api_Segment.enc), box b1 [.int .i64 a_0.First, a_0_Lv, .bool a_0.Done], box b2 [.int .i64 b_1.First, b_1_Lv, .bool b_1.Done], box b3 [.int .i64 0, .slice none 0 0, .bool false], box b12 [.int .i64 0, .slice none 0 0, .bool false], box b14 [.int .i64 0, .slice none 0 0, .bool false]] _
   refine any_all [4] (by kernel_rfl) rfl ?_
   refine anyo_cons ?_ ?_
   ·
    refine anyo_slc 1 rfl reads_ro (fun hs147 hs147o => ?_)
    refine any_t rfl (wn rfl) rfl (t_store 5 Tryz.sizeOf24 rfl rfl rfl rfl (by simp [Value.cells, boxP]) (allL_cons rfl (allL_cons hs147o (allL_cons rfl (allL_nil))))) ?_
    rintro _ _ ⟨rfl, rfl⟩
    refine ⟨(ss (ss (ss (ss (ss (sn)))))), ?_⟩
    refine any_turn (retell 5 (g := box b12 [.int .i64 b_1.First, b_1_Lv, .bool b_1.Done]) rfl rfl) ?_
    exact any_weak2 (hK144 (b12, b14)) [0, 1, 2, 3, 4, 5, 6] (by kernel_rfl) (qv7 rfl rfl rfl rfl rfl rfl rfl) (by decide) rfl
   exact anyo_nil
  refine any_cut2 #[true, true, true, false, false, false] 3 (Nat) (fun σ => [(2, .int .i64 window_2), (3, boxP b1 0), (4, boxP b2 0), (6, boxP b3 0), (23, .agg #[.int .i64 b_1.First, b_1_Lv, .bool b_1.Done]), (24, .agg #[.int .i64 a_0.First, a_0_Lv, .bool a_0.Done]), (8, boxP σ 0)]) (fun σ => [ro a_0_Lv 20 (a_0.L.map S_api_Segment.enc), ro b_1_Lv 20 (b_1.L.map S_api_Segment.enc), box b1 [.int .i64 a_0.First, a_0_Lv, .bool a_0.Done], box b2 [.int .i64 b_1.First, b_1_Lv, .bool b_1.Done], box b3 [.int .i64 0, .slice none 0 0, .bool false], box σ [.int .i64 0, .slice none 0 0, .bool false]]) ?_ (fun hK148 => ?_)
  ·rintro b12
   change AnyL _ _ _ _ _ (VF.of [(2, .int .i64 window_2), (3, boxP b1 0), (4, boxP b2 0), (6, boxP b3 0), (23, .agg #[.int .i64 b_1.First, b_1_Lv, .bool b_1.Done]), (24, .agg #[.int .i64 a_0.First, a_0_Lv, .bool a_0.Done]), (8, boxP b12 0)]) [ro a_0_Lv 20 (a_0.L.map S_api_Segment.enc), ro b_1_Lv 20 (b_1.L.map S_api_Segment.enc), box b1 [.int .i64 a_0.First, a_0_Lv, .bool a_0.Done], box b2 [.int .i64 b_1.First, b_1_Lv, .bool b_1.Done], box b3 [.int .i64 0, .slice none 0 0, .bool false], box b12 [.int .i64 0, .slice none 0 0, .bool false]] _
   refine any_all [3] (by kernel_rfl) rfl ?_
   refine anyo_cons ?_ ?_
   ·
    refine any_t rfl (wn rfl) rfl (t_alloc Tryz.zeroValue24) ?_
    rintro _ _ ⟨b149, rfl, rfl⟩
    refine ⟨(ss (ss (ss (ss (ss (sn)))))), ?_⟩
    exact any_weak2 (hK146 (b12, b149)) [0, 1, 2, 3, 4, 5, 6] (by kernel_rfl) (qv8 rfl rfl rfl rfl rfl rfl rfl rfl) (by decide) rfl
   exact anyo_nil
  refine any_cut2 #[true, true, false, true, false, false] 3 (Nat) (fun σ => [(2, .int .i64 window_2), (3, boxP b1 0), (4, boxP b2 0), (6, boxP b3 0), (23, .agg #[.int .i64 b_1.First, b_1_Lv, .bool b_1.Done]), (24, .agg #[.int .i64 a_0.First, a_0_Lv, .bool a_0.Done]), (9, boxP σ 0)]) (fun σ => [ro a_0_Lv 20 (a_0.L.map S_api_Segment.enc), ro b_1_Lv 20 (b_1.L.map S_api_Segment.enc), box b1 [.int .i64 a_0.First, a_0_Lv, .bool a_0.Done], box b2 [.int .i64 b_1.First, b_1_Lv, .bool b_1.Done], box b3 [.int .i64 0, .slice none 0 0, .bool false], box σ [.int .i64 0, .slice none 0 0, .bool false]]) ?_ (fun hK150 => ?_)
  ·rintro b13
   change AnyL _ _ _ _ _ (VF.of [(2, .int .i64 window_2), (3, boxP b1 0), (4, boxP b2 0), (6, boxP b3 0), (23, .agg #[.int .i64 b_1.First, b_1_Lv, .bool b_1.Done]), (24, .agg #[.int .i64 a_0.First, a_0_Lv, .bool a_0.Done]), (9, boxP b13 0)]) [ro a_0_Lv 20 (a_0.L.map S_api_Segment.enc), ro b_1_Lv 20 (b_1.L.map S_api_Segment.enc), box b1 [.int .i64 a_0.First, a_0_Lv, .bool a_0.Done], box b2 [.int .i64 b_1.First, b_1_Lv, .bool b_1.Done], box b3 [.int .i64 0, .slice none 0 0, .bool false], box b13 [.int .i64 0, .slice none 0 0, .bool false]] _
   refine any_all [2] (by kernel_rfl) rfl ?_
   refine anyo_cons ?_ ?_
   ·
    refine any_t rfl (wn rfl) rfl (t_alloc Tryz.zeroValue24) ?_
    rintro _ _ ⟨b151, rfl, rfl⟩
    refine ⟨(ss (ss (ss (ss (ss (sn)))))), ?_⟩
    exact any_weak2 (hK146 (b151, b13)) [0, 1, 2, 3, 4, 6, 5] (by kernel_rfl) (qv8 rfl rfl rfl rfl rfl rfl rfl rfl) (by decide) rfl
   exact anyo_nil
  refine any_all [2, 3] (by kernel_rfl) rfl ?_
  refine anyo_cons ?_ ?_
  ·
   refine any_t rfl (wn rfl) rfl (t_alloc Tryz.zeroValue24) ?_
   rintro _ _ ⟨b152, rfl, rfl⟩
   refine ⟨(ss (ss (ss (ss (ss (sn)))))), ?_⟩
   exact any_weak2 (hK148 b152) [0, 1, 2, 3, 4, 5] (by kernel_rfl) (qv7 rfl rfl rfl rfl rfl rfl rfl) (by decide) rfl
  refine anyo_cons ?_ ?_
  ·
   refine any_t rfl (wn rfl) rfl (t_alloc Tryz.zeroValue24) ?_
   rintro _ _ ⟨b153, rfl, rfl⟩
   refine ⟨(ss (ss (ss (ss (ss (sn)))))), ?_⟩
   exact any_weak2 (hK150 b153) [0, 1, 2, 3, 4, 5] (by kernel_rfl) (qv7 rfl rfl rfl rfl rfl rfl rfl) (by decide) rfl
  exact anyo_nil

def playlist_Spread_2_59 (i_0 : Int) (a_1 : (List S_api_Segment)) : Option (Int) :=
 idx a_1 i_0 fun x1 =>
 obind (playlist_end x1) fun r2 =>
 some r2
theorem playlist_Spread_2_59_ok (i_0 : Int) (a_1 : (List S_api_Segment)) (a_1b : Nat) (a_1v : Value) {r : Int} (h : playlist_Spread_2_59 i_0 a_1 = some r) :
  Meets Tryz.prog 59 [.int .i64 i_0, boxP a_1b 0] [ro a_1v 20 (a_1.map S_api_Segment.enc), box a_1b [a_1v]] (fun v G => v = .int .i64 r ∧ G = [box a_1b [a_1v]]) := by
 refine fn_of_run Tryz.func59 rfl Tryz.ntmps59 rfl (fun w0 o0 => ?_)
 refine run_seq ?_
 refine run_region' ?_
 refine oy rfl rfl (y_assign rfl) ?_
 refine ops_nil ?_
 refine goes_code ?_
 refine run_seq ?_
 refine run_region' ?_
 refine oy rfl rfl (y_load_box 1 Tryz.isAgg22 rfl rfl rfl) ?_
 refine oy rfl rfl (y_move rfl) ?_
 obtain ⟨x1, hzx1, hlx1, hxx1, h⟩ := idx_some h
 refine oy rfl rfl (y_indexAddrI (kd := .i64) (i := i_0) 0 Tryz.runUnderlying22 Tryz.sizeOf57 rfl rfl rfl reads_ro hzx1 (map_lt hlx1)) ?_
 refine oy rfl rfl (y_load_agg (i := i_0.toNat) (c := [.int .i64 x1.Num, .int .i64 x1.Begin, .int .i64 x1.Len, .int .u8 x1.Body.a0_, .int .u8 x1.Body.a1_, .int .u8 x1.Body.a2_, .int .u8 x1.Body.a3_, .int .u8 x1.Body.a4_, .int .u8 x1.Body.a5_, .int .u8 x1.Body.a6_, .int .u8 x1.Body.a7_, .int .u8 x1.Body.a8_, .int .u8 x1.Body.a9_, .int .u8 x1.Body.a10_, .int .u8 x1.Body.a11_, .int .u8 x1.Body.a12_, .int .u8 x1.Body.a13_, .int .u8 x1.Body.a14_, .int .u8 x1.Body.a15_, .int .i64 x1.Size]) 0 Tryz.isAgg57 Tryz.sizeOf57 rfl rfl reads_ro (map_get hxx1)) ?_
 obtain ⟨r2, hr3, h⟩ := obind_some h
 refine ot rfl rfl (t_callx (vs := [.agg #[.int .i64 x1.Num, .int .i64 x1.Begin, .int .i64 x1.Len, .int .u8 x1.Body.a0_, .int .u8 x1.Body.a1_, .int .u8 x1.Body.a2_, .int .u8 x1.Body.a3_, .int .u8 x1.Body.a4_, .int .u8 x1.Body.a5_, .int .u8 x1.Body.a6_, .int .u8 x1.Body.a7_, .int .u8 x1.Body.a8_, .int .u8 x1.Body.a9_, .int .u8 x1.Body.a10_, .int .u8 x1.Body.a11_, .int .u8 x1.Body.a12_, .int .u8 x1.Body.a13_, .int .u8 x1.Body.a14_, .int .u8 x1.Body.a15_, .int .i64 x1.Size]]) (cs := []) [] rfl Tryz.call60 rfl (playlist_end_ok x1  hr3) showsX_nil rfl (.inl rfl)) ?_
 rintro _ _ ⟨_, ⟨rfl, rfl⟩, rfl⟩
 refine oy rfl rfl (y_assign rfl) ?_
 refine ops_nil ?_
 refine goes_code ?_
 refine run_ret ?_
 obtain rfl := some_eq h
 refine fin_slots [3] [.int .i64 r2] [1] [box a_1b [a_1v]] Tryz.results59 rfl (by decide) rfl ?_
 exact ⟨rfl, rfl⟩

end Go.Proofs.YtbgpojdmdnkeaaaGreatDoor
