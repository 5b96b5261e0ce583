/-
  Functions that the law PlaylistSpreadsAsSpecified needs, lifted.
-/
import Derived.Test.YtbgpojdmdnkeaaaGreatDoorM8
namespace Go.Proofs.YtbgpojdmdnkeaaaGreatDoor
open Go.Abs
set_option linter.unusedVariables false
set_option linter.unusedSimpArgs false
set_option maxRecDepth 20000
set_option maxHeartbeats 4000000

def law43_small_L1 (delays_2 : (List (List Int))) : (Int) → Option (Lp (Int) (Lp (Unit) (Bool))) :=
 fun s_5 =>
  cond (decide (s_5 < (delays_2.length : Int)))
   (idx delays_2 s_5 fun x11 =>
   cond (decide (60 < (x11.length : Int)))
    (some (.stop (.stop false)))
    (some (.go (IntKind.i64.wrap (s_5 + 1)))))
   (some (.stop (.go ())))
def law43_small (n : Nat) (l_0 : (List S_api_Segment)) (parents_1 : (List Int)) (delays_2 : (List (List Int))) : Option (Bool) :=
 bindJ (S := Unit)
  (iter (law43_small_L1 delays_2) n 0)
 (fun _ =>
  some ((decide ((l_0.length : Int) ≤ 60) && decide ((parents_1.length : Int) ≤ 12)) && decide ((delays_2.length : Int) ≤ 12)))
theorem law43_small_ok (n : Nat) (l_0 : (List S_api_Segment)) (parents_1 : (List Int)) (delays_2 : (List (List Int))) (l_0v : Value) (parents_1v : Value) (delays_2v : Value) {r : Bool} (h : law43_small n l_0 parents_1 delays_2 = some r) :
  Meets Tryz.prog 16 [l_0v, parents_1v, delays_2v] [ro l_0v 20 (l_0.map S_api_Segment.enc), ro parents_1v 1 (parents_1.map (eInt .i64)), nro delays_2v NC_L_int_43 delays_2] (fun v G => v = .bool r ∧ G = []) := by
 refine fn_of_run Tryz.func16 rfl Tryz.ntmps16 rfl (fun w0 o0 => ?_)
 refine run_seq ?_
 refine run_region' ?_
 refine oy rfl rfl (y_assign rfl) ?_
 refine ops_nil ?_
 refine goes_code ?_
 obtain ⟨o1, h, ho2⟩ := bindJ_some h
 refine run_cut ((Unit) × (Unit)) (fun σ => [(0, l_0v), (1, parents_1v), (2, delays_2v)]) (fun σ => [ro l_0v 20 (l_0.map S_api_Segment.enc), ro parents_1v 1 (parents_1.map (eInt .i64)), nro delays_2v NC_L_int_43 delays_2]) (fun σ => o1 = .go σ.1) (fun L4 hL3 => ?_) ?_
 ·
  refine run_seq ?_
  refine run_region' ?_
  refine oy rfl rfl (y_move rfl) ?_
  refine oy rfl rfl (y_lenN 2 rfl Tryz.runUnderlying44 rfl rfl readsN_ro) ?_
  refine oy rfl rfl (y_move rfl) ?_
  refine ops_nil ?_
  refine goes_code ?_
  refine run_block ?_
  refine run_iter (step := law43_small_L1 delays_2) (n := n) (s0 := 0) h (G := Unit) () (fun σ γ => [(11, .int .i64 σ), (0, l_0v), (1, parents_1v), (2, delays_2v), (9, delays_2v), (10, .int .i64 (delays_2.length : Int))]) (fun σ γ => [ro l_0v 20 (l_0.map S_api_Segment.enc), ro parents_1v 1 (parents_1.map (eInt .i64)), nro delays_2v NC_L_int_43 delays_2]) [0, 1, 2] (qv6 rfl rfl rfl rfl rfl rfl) (by decide) rfl ?_
  rintro s_5 _ o6 h L9 hgo7 hstop8
  change Run _ _ _ (VF.of [(11, .int .i64 s_5), (0, l_0v), (1, parents_1v), (2, delays_2v), (9, delays_2v), (10, .int .i64 (delays_2.length : Int))]) [ro l_0v 20 (l_0.map S_api_Segment.enc), ro parents_1v 1 (parents_1.map (eInt .i64)), nro delays_2v NC_L_int_43 delays_2]
  refine run_seq ?_
  refine run_region' ?_
  refine oy rfl rfl (y_lss rfl rfl) ?_
  refine ops_nil ?_
  refine goes_code ?_
  refine run_seq ?_
  refine run_cond (decide (s_5 < (delays_2.length : Int))) rfl (fun hc10 => ?_) (fun hc10 => ?_)
  ·replace h := cond_t h hc10
   refine run_skip ?_
   refine goes_code ?_
   refine run_seq ?_
   refine run_block ?_
   refine run_seq ?_
   refine run_region' ?_
   obtain ⟨x11, hzx11, hlx11, hxx11, h⟩ := idx_some h
   refine oy rfl rfl (y_indexAddrN (kd := .i64) (i := s_5) 2 Tryz.runUnderlying44 Tryz.sizeOf43 rfl rfl rfl readsN_ro hzx11 hlx11) ?_
   refine ops_ex (exAt (C := NC_L_int_43) (i := s_5.toNat) 2 rfl hxx11) ?_
   rintro g12
   refine oy rfl rfl (y_load_at (n := s_5.toNat * 1) (j := 0) 3 Tryz.isAgg43 rfl rfl rfl) ?_
   refine oy rfl rfl (y_assign rfl) ?_
   refine ops_nil ?_
   refine goes_code ?_
   refine run_seq ?_
   refine run_region' ?_
   refine oy rfl rfl (y_move rfl) ?_
   refine oy rfl rfl ((y_len 4 rfl Tryz.runUnderlying43 rfl rfl reads_ro).to (v_len (eInt .i64) _)) ?_
   refine oy rfl rfl (y_gtr rfl rfl) ?_
   refine ops_nil ?_
   refine goes_code ?_
   refine run_cond (decide (60 < (x11.length : Int))) rfl (fun hc13 => ?_) (fun hc13 => ?_)
   ·replace h := cond_t h hc13
    refine run_seq ?_
    refine run_region' ?_
    refine oy rfl rfl (y_assign rfl) ?_
    refine ops_nil ?_
    refine goes_code ?_
    refine run_ret ?_
    obtain rfl := some_eq h
    obtain rfl := hstop8 _ rfl
    skip
    obtain rfl := after_stop ho2
    refine fin_slots [6] [.bool false] [] [] Tryz.results16 rfl (by decide) rfl ?_
    exact ⟨rfl, rfl⟩
   ·replace h := cond_f h hc13
    refine run_skip ?_
    refine goes_blk ?_
    refine goes_code ?_
    refine run_region' ?_
    refine oy rfl rfl (y_add rfl rfl) ?_
    refine oy rfl rfl (y_move rfl) ?_
    refine ops_nil ?_
    obtain rfl := some_eq h
    exact goes_iter hgo7 (IntKind.i64.wrap (s_5 + 1)) () [0, 1, 2] rfl (qv6 rfl rfl rfl rfl rfl rfl) (by decide) rfl
  ·replace h := cond_f h hc10
   refine run_exit _ rfl ?_
   obtain rfl := some_eq h
   obtain rfl := hstop8 _ rfl
   exact goes_cut hL3 ((), ()) [0, 1, 2] (qv3 rfl rfl rfl) (by decide) rfl rfl
 rintro ⟨_, _⟩ hj
 obtain rfl : o1 = _ := hj
 replace h := after_go ho2
 clear ho2
 change Run _ _ _ (VF.of [(0, l_0v), (1, parents_1v), (2, delays_2v)]) [ro l_0v 20 (l_0.map S_api_Segment.enc), ro parents_1v 1 (parents_1.map (eInt .i64)), nro delays_2v NC_L_int_43 delays_2]
 refine run_seq ?_
 refine run_region' ?_
 refine oy rfl rfl (y_move rfl) ?_
 refine oy rfl rfl ((y_len 0 rfl Tryz.runUnderlying22 rfl rfl reads_ro).to (v_len S_api_Segment.enc _)) ?_
 refine oy rfl rfl (y_leq rfl rfl) ?_
 refine oy rfl rfl (y_move rfl) ?_
 refine ops_cut 4 (Bool) (fun σ => [(2, delays_2v), (26, .bool σ)]) (fun σ => [nro delays_2v NC_L_int_43 delays_2]) (fun σ => σ = (decide ((l_0.length : Int) ≤ 60) && decide ((parents_1.length : Int) ≤ 12))) (fun L14 hL15 => ?_) ?_
 ·refine ops_split 22 (decide ((l_0.length : Int) ≤ 60)) rfl (fun hg16 => ?_) (fun hg16 => ?_)
  ·skip
   refine ops_y (wg 3 true 22 rfl rfl rfl rfl) rfl (y_move rfl) ?_
   refine ops_y (wg 3 true 22 rfl rfl rfl rfl) rfl ((y_len 1 rfl Tryz.runUnderlying43 rfl rfl reads_ro).to (v_len (eInt .i64) _)) ?_
   refine ops_y (wg 3 true 22 rfl rfl rfl rfl) rfl (y_leq rfl rfl) ?_
   refine oy rfl rfl (y_pick (b := true) rfl rfl) ?_
   refine ops_nil ?_
   exact goes_cut hL15 (decide ((parents_1.length : Int) ≤ 12)) [2] (qv2 rfl rfl) (by decide) rfl (by rw [hg16]; simp)
  ·skip
   refine ops_no 3 true 22 rfl rfl rfl rfl rfl ?_
   refine ops_no 3 true 22 rfl rfl rfl rfl rfl ?_
   refine ops_no 3 true 22 rfl rfl rfl rfl rfl ?_
   refine oy rfl rfl (y_pick (b := false) rfl rfl) ?_
   refine ops_nil ?_
   exact goes_cut hL15 false [2] (qv2 rfl rfl) (by decide) rfl (by rw [hg16]; simp)
 rintro _ rfl
 refine oy rfl rfl (y_move rfl) ?_
 refine ops_cut 4 (Bool) (fun σ => [(31, .bool σ)]) (fun σ => []) (fun σ => σ = ((decide ((l_0.length : Int) ≤ 60) && decide ((parents_1.length : Int) ≤ 12)) && decide ((delays_2.length : Int) ≤ 12))) (fun L17 hL18 => ?_) ?_
 ·refine ops_split 27 (decide ((l_0.length : Int) ≤ 60) && decide ((parents_1.length : Int) ≤ 12)) rfl (fun hg19 => ?_) (fun hg19 => ?_)
  ·skip
   refine ops_y (wg 8 true 27 rfl rfl rfl rfl) rfl (y_move rfl) ?_
   refine ops_y (wg 8 true 27 rfl rfl rfl rfl) rfl (y_lenN 0 rfl Tryz.runUnderlying44 rfl rfl readsN_ro) ?_
   refine ops_y (wg 8 true 27 rfl rfl rfl rfl) rfl (y_leq rfl rfl) ?_
   refine oy rfl rfl (y_pick (b := true) rfl rfl) ?_
   refine ops_nil ?_
   exact goes_cut hL18 (decide ((delays_2.length : Int) ≤ 12)) [] (qv1 rfl) (by decide) rfl (by rw [hg19]; simp)
  ·skip
   refine ops_no 8 true 27 rfl rfl rfl rfl rfl ?_
   refine ops_no 8 true 27 rfl rfl rfl rfl rfl ?_
   refine ops_no 8 true 27 rfl rfl rfl rfl rfl ?_
   refine oy rfl rfl (y_pick (b := false) rfl rfl) ?_
   refine ops_nil ?_
   exact goes_cut hL18 false [] (qv1 rfl) (by decide) rfl (by rw [hg19]; simp)
 rintro _ rfl
 refine oy rfl rfl (y_assign rfl) ?_
 refine ops_nil ?_
 refine goes_code ?_
 refine run_ret ?_
 obtain rfl := some_eq h
 refine fin_slots [6] [.bool ((decide ((l_0.length : Int) ≤ 60) && decide ((parents_1.length : Int) ≤ 12)) && decide ((delays_2.length : Int) ≤ 12))] [] [] Tryz.results16 rfl (by decide) rfl ?_
 exact ⟨rfl, rfl⟩

def ref43_tree_L2 (n_0 : Int) (delays_2 : (List (List Int))) (k_12 : Int) : (Int) → Option (Lp (Int) (Lp (Unit) (Lp (Int) (Lp (Unit) (Bool))))) :=
 fun i_35 =>
  cond (decide (i_35 < n_0))
   (idx delays_2 k_12 fun x41 =>
   idx x41 i_35 fun x43 =>
   cond (decide (x43 < 0) || decide (1099511627776 < x43))
    (some (.stop (.stop (.stop (.stop false)))))
    (some (.go (IntKind.i64.wrap (i_35 + 1)))))
   (some (.stop (.go ())))
def ref43_tree_L1 (n : Nat) (n_0 : Int) (parents_1 : (List Int)) (delays_2 : (List (List Int))) : (Int) → Option (Lp (Int) (Lp (Unit) (Bool))) :=
 fun k_12 =>
  cond (decide (k_12 < (parents_1.length : Int)))
   (bindJ (S := Unit)
    (idx parents_1 k_12 fun x22 =>
    bindJ (S := Bool)
     (cond (decide (x22 < 0) || decide (k_12 ≤ x22))
      (some (.go true))
      (idx delays_2 k_12 fun x32 =>
      some (.go (decide ((x32.length : Int) ≠ n_0)))))
    (fun b26 =>
     cond b26
      (some (.stop (.stop (.stop false))))
      (iter (ref43_tree_L2 n_0 delays_2 k_12) n 0)))
   (fun _ =>
    some (.go (IntKind.i64.wrap (k_12 + 1)))))
   (some (.stop (.go ())))
def ref43_tree (n : Nat) (n_0 : Int) (parents_1 : (List Int)) (delays_2 : (List (List Int))) : Option (Bool) :=
 cond ((decide ((parents_1.length : Int) < 1) || decide (100 < (parents_1.length : Int))) || decide ((delays_2.length : Int) ≠ (parents_1.length : Int)))
  (some false)
  (bindJ (S := Unit)
   (iter (ref43_tree_L1 n n_0 parents_1 delays_2) n 1)
  (fun _ =>
   some true))
theorem ref43_tree_ok (n : Nat) (n_0 : Int) (parents_1 : (List Int)) (delays_2 : (List (List Int))) (parents_1v : Value) (delays_2v : Value) {r : Bool} (h : ref43_tree n n_0 parents_1 delays_2 = some r) :
  Meets Tryz.prog 64 [.int .i64 n_0, parents_1v, delays_2v] [ro parents_1v 1 (parents_1.map (eInt .i64)), nro delays_2v NC_L_int_43 delays_2] (fun v G => v = .bool r ∧ G = []) := by
 refine fn_of_run Tryz.func64 rfl Tryz.ntmps64 rfl (fun w0 o0 => ?_)
 refine run_seq ?_
 refine run_region' ?_
 refine oy rfl rfl (y_assign rfl) ?_
 refine ops_nil ?_
 refine goes_code ?_
 refine run_seq ?_
 refine run_seq ?_
 refine run_region' ?_
 refine oy rfl rfl (y_move rfl) ?_
 refine oy rfl rfl ((y_len 0 rfl Tryz.runUnderlying43 rfl rfl reads_ro).to (v_len (eInt .i64) _)) ?_
 refine oy rfl rfl (y_lss rfl rfl) ?_
 refine oy rfl rfl (y_move rfl) ?_
 refine ops_cut 4 (Bool) (fun σ => [(0, .int .i64 n_0), (1, parents_1v), (2, delays_2v), (16, .bool σ)]) (fun σ => [ro parents_1v 1 (parents_1.map (eInt .i64)), nro delays_2v NC_L_int_43 delays_2]) (fun σ => σ = (decide ((parents_1.length : Int) < 1) || decide (100 < (parents_1.length : Int)))) (fun L1 hL2 => ?_) ?_
 ·refine ops_split 12 (decide ((parents_1.length : Int) < 1)) rfl (fun hg3 => ?_) (fun hg3 => ?_)
  ·skip
   refine ops_no 3 false 12 rfl rfl rfl rfl rfl ?_
   refine ops_no 3 false 12 rfl rfl rfl rfl rfl ?_
   refine ops_no 3 false 12 rfl rfl rfl rfl rfl ?_
   refine oy rfl rfl (y_pick (b := true) rfl rfl) ?_
   refine ops_nil ?_
   exact goes_cut hL2 true [0, 1] (qv4 rfl rfl rfl rfl) (by decide) rfl (by rw [hg3]; simp)
  ·skip
   refine ops_y (wg 3 false 12 rfl rfl rfl rfl) rfl (y_move rfl) ?_
   refine ops_y (wg 3 false 12 rfl rfl rfl rfl) rfl ((y_len 0 rfl Tryz.runUnderlying43 rfl rfl reads_ro).to (v_len (eInt .i64) _)) ?_
   refine ops_y (wg 3 false 12 rfl rfl rfl rfl) rfl (y_gtr rfl rfl) ?_
   refine oy rfl rfl (y_pick (b := false) rfl rfl) ?_
   refine ops_nil ?_
   exact goes_cut hL2 (decide (100 < (parents_1.length : Int))) [0, 1] (qv4 rfl rfl rfl rfl) (by decide) rfl (by rw [hg3]; simp)
 rintro _ rfl
 refine oy rfl rfl (y_move rfl) ?_
 refine ops_cut 6 (Bool) (fun σ => [(0, .int .i64 n_0), (1, parents_1v), (2, delays_2v), (23, .bool σ)]) (fun σ => [ro parents_1v 1 (parents_1.map (eInt .i64)), nro delays_2v NC_L_int_43 delays_2]) (fun σ => σ = ((decide ((parents_1.length : Int) < 1) || decide (100 < (parents_1.length : Int))) || decide ((delays_2.length : Int) ≠ (parents_1.length : Int)))) (fun L4 hL5 => ?_) ?_
 ·refine ops_split 17 (decide ((parents_1.length : Int) < 1) || decide (100 < (parents_1.length : Int))) rfl (fun hg6 => ?_) (fun hg6 => ?_)
  ·skip
   refine ops_no 8 false 17 rfl rfl rfl rfl rfl ?_
   refine ops_no 8 false 17 rfl rfl rfl rfl rfl ?_
   refine ops_no 8 false 17 rfl rfl rfl rfl rfl ?_
   refine ops_no 8 false 17 rfl rfl rfl rfl rfl ?_
   refine ops_no 8 false 17 rfl rfl rfl rfl rfl ?_
   refine oy rfl rfl (y_pick (b := true) rfl rfl) ?_
   refine ops_nil ?_
   exact goes_cut hL5 true [0, 1] (qv4 rfl rfl rfl rfl) (by decide) rfl (by rw [hg6]; simp)
  ·skip
   refine ops_y (wg 8 false 17 rfl rfl rfl rfl) rfl (y_move rfl) ?_
   refine ops_y (wg 8 false 17 rfl rfl rfl rfl) rfl (y_lenN 1 rfl Tryz.runUnderlying44 rfl rfl readsN_ro) ?_
   refine ops_y (wg 8 false 17 rfl rfl rfl rfl) rfl (y_move rfl) ?_
   refine ops_y (wg 8 false 17 rfl rfl rfl rfl) rfl ((y_len 0 rfl Tryz.runUnderlying43 rfl rfl reads_ro).to (v_len (eInt .i64) _)) ?_
   refine ops_y (wg 8 false 17 rfl rfl rfl rfl) rfl (y_neq rfl rfl) ?_
   refine oy rfl rfl (y_pick (b := false) rfl rfl) ?_
   refine ops_nil ?_
   exact goes_cut hL5 (decide ((delays_2.length : Int) ≠ (parents_1.length : Int))) [0, 1] (qv4 rfl rfl rfl rfl) (by decide) rfl (by rw [hg6]; simp)
 rintro _ rfl
 refine ops_nil ?_
 refine goes_code ?_
 refine run_cond ((decide ((parents_1.length : Int) < 1) || decide (100 < (parents_1.length : Int))) || decide ((delays_2.length : Int) ≠ (parents_1.length : Int))) rfl (fun hc7 => ?_) (fun hc7 => ?_)
 ·replace h := cond_t h hc7
  refine run_seq ?_
  refine run_region' ?_
  refine oy rfl rfl (y_assign rfl) ?_
  refine ops_nil ?_
  refine goes_code ?_
  refine run_ret ?_
  obtain rfl := some_eq h
  refine fin_slots [6] [.bool false] [] [] Tryz.results64 rfl (by decide) rfl ?_
  exact ⟨rfl, rfl⟩
 ·replace h := cond_f h hc7
  refine run_skip ?_
  refine goes_code ?_
  obtain ⟨o8, h, ho9⟩ := bindJ_some h
  refine run_cut ((Unit) × (Unit)) (fun σ => []) (fun σ => []) (fun σ => o8 = .go σ.1) (fun L11 hL10 => ?_) ?_
  ·
   refine run_seq ?_
   refine run_region' ?_
   refine oy rfl rfl (y_assign rfl) ?_
   refine ops_nil ?_
   refine goes_code ?_
   refine run_block ?_
   refine run_iter (step := ref43_tree_L1 n n_0 parents_1 delays_2) (n := n) (s0 := 1) h (G := Unit) () (fun σ γ => [(7, .int .i64 σ), (0, .int .i64 n_0), (1, parents_1v), (2, delays_2v)]) (fun σ γ => [ro parents_1v 1 (parents_1.map (eInt .i64)), nro delays_2v NC_L_int_43 delays_2]) [0, 1] (qv4 rfl rfl rfl rfl) (by decide) rfl ?_
   rintro k_12 _ o13 h L16 hgo14 hstop15
   change Run _ _ _ (VF.of [(7, .int .i64 k_12), (0, .int .i64 n_0), (1, parents_1v), (2, delays_2v)]) [ro parents_1v 1 (parents_1.map (eInt .i64)), nro delays_2v NC_L_int_43 delays_2]
   refine run_seq ?_
   refine run_seq ?_
   refine run_region' ?_
   refine oy rfl rfl (y_move rfl) ?_
   refine oy rfl rfl (y_move rfl) ?_
   refine oy rfl rfl ((y_len 0 rfl Tryz.runUnderlying43 rfl rfl reads_ro).to (v_len (eInt .i64) _)) ?_
   refine oy rfl rfl (y_lss rfl rfl) ?_
   refine ops_nil ?_
   refine goes_code ?_
   refine run_cond (decide (k_12 < (parents_1.length : Int))) rfl (fun hc17 => ?_) (fun hc17 => ?_)
   ·replace h := cond_t h hc17
    refine run_skip ?_
    refine goes_code ?_
    obtain ⟨o18, h, ho19⟩ := bindJ_some h
    refine run_cut ((Unit) × (Unit)) (fun σ => [(0, .int .i64 n_0), (1, parents_1v), (2, delays_2v), (7, .int .i64 k_12)]) (fun σ => [ro parents_1v 1 (parents_1.map (eInt .i64)), nro delays_2v NC_L_int_43 delays_2]) (fun σ => o18 = .go σ.1) (fun L21 hL20 => ?_) ?_
    ·
     refine run_block ?_
     refine run_seq ?_
     refine run_seq ?_
     refine run_region' ?_
     refine oy rfl rfl (y_move rfl) ?_
     refine oy rfl rfl (y_move rfl) ?_
     obtain ⟨x22, hzx22, hlx22, hxx22, h⟩ := idx_some h
     refine oy rfl rfl (y_indexAddrI (kd := .i64) (i := k_12) 0 Tryz.runUnderlying43 Tryz.sizeOf3 rfl rfl rfl reads_ro hzx22 (map_lt hlx22)) ?_
     refine oy rfl rfl (y_load_elem (i := k_12.toNat) 0 Tryz.isAgg3 rfl rfl reads_ro (map_get hxx22)) ?_
     refine oy rfl rfl (y_lss rfl rfl) ?_
     refine oy rfl rfl (y_move rfl) ?_
     refine ops_cut 7 (Bool) (fun σ => [(7, .int .i64 k_12), (0, .int .i64 n_0), (1, parents_1v), (2, delays_2v), (42, .bool σ)]) (fun σ => [ro parents_1v 1 (parents_1.map (eInt .i64)), nro delays_2v NC_L_int_43 delays_2]) (fun σ => σ = (decide (x22 < 0) || decide (k_12 ≤ x22))) (fun L23 hL24 => ?_) ?_
     ·refine ops_split 35 (decide (x22 < 0)) rfl (fun hg25 => ?_) (fun hg25 => ?_)
      ·skip
       refine ops_no 5 false 35 rfl rfl rfl rfl rfl ?_
       refine ops_no 5 false 35 rfl rfl rfl rfl rfl ?_
       refine ops_no 5 false 35 rfl rfl rfl rfl rfl ?_
       refine ops_no 5 false 35 rfl rfl rfl rfl rfl ?_
       refine ops_no 5 false 35 rfl rfl rfl rfl rfl ?_
       refine ops_weak [(7, .int .i64 k_12), (0, .int .i64 n_0), (1, parents_1v), (2, delays_2v), (35, .bool true), (39, undef), (40, undef)] [0, 1] [ro parents_1v 1 (parents_1.map (eInt .i64)), nro delays_2v NC_L_int_43 delays_2] (qv7 rfl rfl rfl rfl rfl rfl rfl) (by decide) rfl ?_
       refine ops_no 5 false 35 rfl rfl rfl rfl rfl ?_
       refine oy rfl rfl (y_pick (b := true) rfl rfl) ?_
       refine ops_nil ?_
       exact goes_cut hL24 true [0, 1] (qv5 rfl rfl rfl rfl rfl) (by decide) rfl (by rw [hg25]; simp)
      ·skip
       refine ops_y (wg 5 false 35 rfl rfl rfl rfl) rfl (y_move rfl) ?_
       refine ops_y (wg 5 false 35 rfl rfl rfl rfl) rfl (y_move rfl) ?_
       refine ops_y (wg 5 false 35 rfl rfl rfl rfl) rfl (y_indexAddrI (kd := .i64) (i := k_12) 0 Tryz.runUnderlying43 Tryz.sizeOf3 rfl rfl rfl reads_ro hzx22 (map_lt hlx22)) ?_
       refine ops_y (wg 5 false 35 rfl rfl rfl rfl) rfl (y_load_elem (i := k_12.toNat) 0 Tryz.isAgg3 rfl rfl reads_ro (map_get hxx22)) ?_
       refine ops_y (wg 5 false 35 rfl rfl rfl rfl) rfl (y_move rfl) ?_
       refine ops_weak [(7, .int .i64 k_12), (0, .int .i64 n_0), (1, parents_1v), (2, delays_2v), (35, .bool false), (39, .int .i64 x22), (40, .int .i64 k_12)] [0, 1] [ro parents_1v 1 (parents_1.map (eInt .i64)), nro delays_2v NC_L_int_43 delays_2] (qv7 rfl rfl rfl rfl rfl rfl rfl) (by decide) rfl ?_
       refine ops_y (wg 5 false 35 rfl rfl rfl rfl) rfl (y_geq rfl rfl) ?_
       refine oy rfl rfl (y_pick (b := false) rfl rfl) ?_
       refine ops_nil ?_
       exact goes_cut hL24 (decide (k_12 ≤ x22)) [0, 1] (qv5 rfl rfl rfl rfl rfl) (by decide) rfl (by rw [hg25]; simp)
     rintro _ rfl
     refine oy rfl rfl (y_move rfl) ?_
     obtain ⟨o27, h, ho28⟩ := bindJ_some h
     refine ops_cut 8 (Bool) (fun σ => [(7, .int .i64 k_12), (0, .int .i64 n_0), (1, parents_1v), (2, delays_2v), (51, .bool σ)]) (fun σ => [ro parents_1v 1 (parents_1.map (eInt .i64)), nro delays_2v NC_L_int_43 delays_2]) (fun σ => o27 = .go σ) (fun L29 hL30 => ?_) ?_
     ·refine ops_split 43 (decide (x22 < 0) || decide (k_12 ≤ x22)) rfl (fun hg31 => ?_) (fun hg31 => ?_)
      ·replace h := cond_t h hg31
       refine ops_no 13 false 43 rfl rfl rfl rfl rfl ?_
       refine ops_no 13 false 43 rfl rfl rfl rfl rfl ?_
       refine ops_no 13 false 43 rfl rfl rfl rfl rfl ?_
       refine ops_no 13 false 43 rfl rfl rfl rfl rfl ?_
       refine ops_no 13 false 43 rfl rfl rfl rfl rfl ?_
       refine ops_no 13 false 43 rfl rfl rfl rfl rfl ?_
       refine ops_no 13 false 43 rfl rfl rfl rfl rfl ?_
       refine oy rfl rfl (y_pick (b := true) rfl rfl) ?_
       refine ops_nil ?_
       obtain rfl := some_eq h
       exact goes_cut hL30 true [0, 1] (qv5 rfl rfl rfl rfl rfl) (by decide) rfl rfl
      ·replace h := cond_f h hg31
       refine ops_y (wg 13 false 43 rfl rfl rfl rfl) rfl (y_move rfl) ?_
       refine ops_y (wg 13 false 43 rfl rfl rfl rfl) rfl (y_move rfl) ?_
       obtain ⟨x32, hzx32, hlx32, hxx32, h⟩ := idx_some h
       refine ops_y (wg 13 false 43 rfl rfl rfl rfl) rfl (y_indexAddrN (kd := .i64) (i := k_12) 1 Tryz.runUnderlying44 Tryz.sizeOf43 rfl rfl rfl readsN_ro hzx32 hlx32) ?_
       refine ops_ex (exAt (C := NC_L_int_43) (i := k_12.toNat) 1 rfl hxx32) ?_
       rintro g33
       refine ops_y (wg 13 false 43 rfl rfl rfl rfl) rfl (y_load_at (n := k_12.toNat * 1) (j := 0) 2 Tryz.isAgg43 rfl rfl rfl) ?_
       refine ops_y (wg 13 false 43 rfl rfl rfl rfl) rfl ((y_len 3 rfl Tryz.runUnderlying43 rfl rfl reads_ro).to (v_len (eInt .i64) _)) ?_
       refine ops_y (wg 13 false 43 rfl rfl rfl rfl) rfl (y_move rfl) ?_
       refine ops_y (wg 13 false 43 rfl rfl rfl rfl) rfl (y_neq rfl rfl) ?_
       refine oy rfl rfl (y_pick (b := false) rfl rfl) ?_
       refine ops_nil ?_
       obtain rfl := some_eq h
       exact goes_cut hL30 (decide ((x32.length : Int) ≠ n_0)) [0, 1] (qv5 rfl rfl rfl rfl rfl) (by decide) rfl rfl
     rintro b26 hj
     obtain rfl : o27 = _ := hj
     replace h := after_go ho28
     clear ho28
     refine ops_nil ?_
     refine goes_code ?_
     refine run_cond b26 rfl (fun hc34 => ?_) (fun hc34 => ?_)
     ·replace h := cond_t h hc34
      refine run_seq ?_
      refine run_region' ?_
      refine oy rfl rfl (y_assign rfl) ?_
      refine ops_nil ?_
      refine goes_code ?_
      refine run_ret ?_
      obtain rfl := some_eq h
      obtain rfl := after_stop ho19
      skip
      obtain rfl := hstop15 _ rfl
      skip
      obtain rfl := after_stop ho9
      refine fin_slots [6] [.bool false] [] [] Tryz.results64 rfl (by decide) rfl ?_
      exact ⟨rfl, rfl⟩
     ·replace h := cond_f h hc34
      refine run_skip ?_
      refine goes_code ?_
      refine run_seq ?_
      refine run_region' ?_
      refine oy rfl rfl (y_assign rfl) ?_
      refine ops_nil ?_
      refine goes_code ?_
      refine run_block ?_
      refine run_iter (step := ref43_tree_L2 n_0 delays_2 k_12) (n := n) (s0 := 0) h (G := Unit) () (fun σ γ => [(8, .int .i64 σ), (0, .int .i64 n_0), (1, parents_1v), (2, delays_2v), (7, .int .i64 k_12)]) (fun σ γ => [ro parents_1v 1 (parents_1.map (eInt .i64)), nro delays_2v NC_L_int_43 delays_2]) [0, 1] (qv5 rfl rfl rfl rfl rfl) (by decide) rfl ?_
      rintro i_35 _ o36 h L39 hgo37 hstop38
      change Run _ _ _ (VF.of [(8, .int .i64 i_35), (0, .int .i64 n_0), (1, parents_1v), (2, delays_2v), (7, .int .i64 k_12)]) [ro parents_1v 1 (parents_1.map (eInt .i64)), nro delays_2v NC_L_int_43 delays_2]
      refine run_seq ?_
      refine run_seq ?_
      refine run_region' ?_
      refine oy rfl rfl (y_move rfl) ?_
      refine oy rfl rfl (y_move rfl) ?_
      refine oy rfl rfl (y_lss rfl rfl) ?_
      refine ops_nil ?_
      refine goes_code ?_
      refine run_cond (decide (i_35 < n_0)) rfl (fun hc40 => ?_) (fun hc40 => ?_)
      ·replace h := cond_t h hc40
       refine run_skip ?_
       refine goes_code ?_
       refine run_seq ?_
       refine run_block ?_
       refine run_seq ?_
       refine run_region' ?_
       refine oy rfl rfl (y_move rfl) ?_
       refine oy rfl rfl (y_move rfl) ?_
       obtain ⟨x41, hzx41, hlx41, hxx41, h⟩ := idx_some h
       refine oy rfl rfl (y_indexAddrN (kd := .i64) (i := k_12) 1 Tryz.runUnderlying44 Tryz.sizeOf43 rfl rfl rfl readsN_ro hzx41 hlx41) ?_
       refine ops_ex (exAt (C := NC_L_int_43) (i := k_12.toNat) 1 rfl hxx41) ?_
       rintro g42
       refine oy rfl rfl (y_load_at (n := k_12.toNat * 1) (j := 0) 2 Tryz.isAgg43 rfl rfl rfl) ?_
       refine oy rfl rfl (y_move rfl) ?_
       obtain ⟨x43, hzx43, hlx43, hxx43, h⟩ := idx_some h
       refine oy rfl rfl (y_indexAddrI (kd := .i64) (i := i_35) 3 Tryz.runUnderlying43 Tryz.sizeOf3 rfl rfl rfl reads_ro hzx43 (map_lt hlx43)) ?_
       refine oy rfl rfl (y_load_elem (i := i_35.toNat) 3 Tryz.isAgg3 rfl rfl reads_ro (map_get hxx43)) ?_
       refine oy rfl rfl (y_lss rfl rfl) ?_
       refine oy rfl rfl (y_move rfl) ?_
       refine ops_cut 9 (Bool) (fun σ => [(8, .int .i64 i_35), (0, .int .i64 n_0), (1, parents_1v), (2, delays_2v), (7, .int .i64 k_12), (74, .bool σ)]) (fun σ => [ro parents_1v 1 (parents_1.map (eInt .i64)), nro delays_2v NC_L_int_43 delays_2]) (fun σ => σ = (decide (x43 < 0) || decide (1099511627776 < x43))) (fun L44 hL45 => ?_) ?_
       ·refine ops_split 65 (decide (x43 < 0)) rfl (fun hg46 => ?_) (fun hg46 => ?_)
        ·skip
         refine ops_no 8 false 65 rfl rfl rfl rfl rfl ?_
         refine ops_no 8 false 65 rfl rfl rfl rfl rfl ?_
         refine ops_no 8 false 65 rfl rfl rfl rfl rfl ?_
         refine ops_weak [(8, .int .i64 i_35), (0, .int .i64 n_0), (1, parents_1v), (2, delays_2v), (7, .int .i64 k_12), (65, .bool true), (68, undef)] [0, 1] [ro parents_1v 1 (parents_1.map (eInt .i64)), nro delays_2v NC_L_int_43 delays_2] (qv7 rfl rfl rfl rfl rfl rfl rfl) (by decide) rfl ?_
         refine ops_no 8 false 65 rfl rfl rfl rfl rfl ?_
         refine ops_no 8 false 65 rfl rfl rfl rfl rfl ?_
         refine ops_no 8 false 65 rfl rfl rfl rfl rfl ?_
         refine ops_no 8 false 65 rfl rfl rfl rfl rfl ?_
         refine ops_no 8 false 65 rfl rfl rfl rfl rfl ?_
         refine oy rfl rfl (y_pick (b := true) rfl rfl) ?_
         refine ops_nil ?_
         exact goes_cut hL45 true [0, 1] (qv6 rfl rfl rfl rfl rfl rfl) (by decide) rfl (by rw [hg46]; simp)
        ·skip
         refine ops_y (wg 8 false 65 rfl rfl rfl rfl) rfl (y_move rfl) ?_
         refine ops_y (wg 8 false 65 rfl rfl rfl rfl) rfl (y_move rfl) ?_
         refine ops_y (wg 8 false 65 rfl rfl rfl rfl) rfl (y_indexAddrN (kd := .i64) (i := k_12) 1 Tryz.runUnderlying44 Tryz.sizeOf43 rfl rfl rfl readsN_ro hzx41 hlx41) ?_
         refine ops_weak [(8, .int .i64 i_35), (0, .int .i64 n_0), (1, parents_1v), (2, delays_2v), (7, .int .i64 k_12), (65, .bool false), (68, elemP delays_2v (k_12.toNat * 1))] [0, 1, 2, 3] [ro parents_1v 1 (parents_1.map (eInt .i64)), nro delays_2v NC_L_int_43 delays_2, atc delays_2v (k_12.toNat * 1) [g42], ro g42 1 (x41.map (eInt .i64))] (qv7 rfl rfl rfl rfl rfl rfl rfl) (by decide) rfl ?_
         refine ops_y (wg 8 false 65 rfl rfl rfl rfl) rfl (y_load_at (n := k_12.toNat * 1) (j := 0) 2 Tryz.isAgg43 rfl rfl rfl) ?_
         refine ops_y (wg 8 false 65 rfl rfl rfl rfl) rfl (y_move rfl) ?_
         refine ops_y (wg 8 false 65 rfl rfl rfl rfl) rfl (y_indexAddrI (kd := .i64) (i := i_35) 3 Tryz.runUnderlying43 Tryz.sizeOf3 rfl rfl rfl reads_ro hzx43 (map_lt hlx43)) ?_
         refine ops_y (wg 8 false 65 rfl rfl rfl rfl) rfl (y_load_elem (i := i_35.toNat) 3 Tryz.isAgg3 rfl rfl reads_ro (map_get hxx43)) ?_
         refine ops_y (wg 8 false 65 rfl rfl rfl rfl) rfl (y_gtr rfl rfl) ?_
         refine oy rfl rfl (y_pick (b := false) rfl rfl) ?_
         refine ops_nil ?_
         exact goes_cut hL45 (decide (1099511627776 < x43)) [0, 1] (qv6 rfl rfl rfl rfl rfl rfl) (by decide) rfl (by rw [hg46]; simp)
       rintro _ rfl
       refine ops_nil ?_
       refine goes_code ?_
       refine run_cond (decide (x43 < 0) || decide (1099511627776 < x43)) rfl (fun hc47 => ?_) (fun hc47 => ?_)
       ·replace h := cond_t h hc47
        refine run_seq ?_
        refine run_region' ?_
        refine oy rfl rfl (y_assign rfl) ?_
        refine ops_nil ?_
        refine goes_code ?_
        refine run_ret ?_
        obtain rfl := some_eq h
        obtain rfl := hstop38 _ rfl
        skip
        obtain rfl := after_stop ho19
        skip
        obtain rfl := hstop15 _ rfl
        skip
        obtain rfl := after_stop ho9
        refine fin_slots [6] [.bool false] [] [] Tryz.results64 rfl (by decide) rfl ?_
        exact ⟨rfl, rfl⟩
       ·replace h := cond_f h hc47
        refine run_skip ?_
        refine goes_blk ?_
        refine goes_code ?_
        refine run_region' ?_
        refine oy rfl rfl (y_move rfl) ?_
        refine oy rfl rfl (y_add rfl rfl) ?_
        refine oy rfl rfl (y_assign rfl) ?_
        refine ops_nil ?_
        obtain rfl := some_eq h
        exact goes_iter hgo37 (IntKind.i64.wrap (i_35 + 1)) () [0, 1] rfl (qv5 rfl rfl rfl rfl rfl) (by decide) rfl
      ·replace h := cond_f h hc40
       refine run_exit _ rfl ?_
       refine goes_blk ?_
       obtain rfl := some_eq h
       obtain rfl := hstop38 _ rfl
       exact goes_cut hL20 ((), ()) [0, 1] (qv4 rfl rfl rfl rfl) (by decide) rfl rfl
    rintro ⟨_, _⟩ hj
    obtain rfl : o18 = _ := hj
    replace h := after_go ho19
    clear ho19
    change Run _ _ _ (VF.of [(0, .int .i64 n_0), (1, parents_1v), (2, delays_2v), (7, .int .i64 k_12)]) [ro parents_1v 1 (parents_1.map (eInt .i64)), nro delays_2v NC_L_int_43 delays_2]
    refine run_region' ?_
    refine oy rfl rfl (y_move rfl) ?_
    refine oy rfl rfl (y_add rfl rfl) ?_
    refine oy rfl rfl (y_assign rfl) ?_
    refine ops_nil ?_
    obtain rfl := some_eq h
    exact goes_iter hgo14 (IntKind.i64.wrap (k_12 + 1)) () [0, 1] rfl (qv4 rfl rfl rfl rfl) (by decide) rfl
   ·replace h := cond_f h hc17
    refine run_exit _ rfl ?_
    obtain rfl := some_eq h
    obtain rfl := hstop15 _ rfl
    exact goes_cut hL10 ((), ()) [] vnil (by decide) rfl rfl
  rintro ⟨_, _⟩ hj
  obtain rfl : o8 = _ := hj
  replace h := after_go ho9
  clear ho9
  change Run _ _ _ (VF.of []) []
  refine run_seq ?_
  refine run_region' ?_
  refine oy rfl rfl (y_assign rfl) ?_
  refine ops_nil ?_
  refine goes_code ?_
  refine run_ret ?_
  obtain rfl := some_eq h
  refine fin_slots [6] [.bool true] [] [] Tryz.results64 rfl (by decide) rfl ?_
  exact ⟨rfl, rfl⟩

def ref43_Spread_L2 (l_0 : (List S_api_Segment)) (parents_1 : (List Int)) (delays_2 : (List (List Int))) (k_20 : Int) (x_21 : (List (List Int))) : ((List Int) × Int) → Option (Lp ((List Int) × Int) (Lp ((List Int)) (Lp (Int × (List (List Int))) (Lp ((List (List Int))) (S_ref43_Times))))) :=
 fun (at_34, i_35) =>
  cond (decide (i_35 < (l_0.length : Int)))
   (idx l_0 i_35 fun x42 =>
   bindJ (S := Int)
    (cond (decide (0 < k_20))
     (idx parents_1 k_20 fun x51 =>
     idx x_21 x51 fun x52 =>
     idx x52 i_35 fun x54 =>
     idx delays_2 k_20 fun x55 =>
     idx x55 i_35 fun x57 =>
     some (.go (IntKind.i64.wrap (x54 + x57))))
     (some (.go (IntKind.i64.wrap (x42.Begin + x42.Len)))))
   (fun t_43 =>
    bindJ (S := Int)
     (cond (decide (0 < i_35))
      (idx at_34 (IntKind.i64.wrap (i_35 - 1)) fun x64 =>
      some (.go (max t_43 x64)))
      (some (.go t_43)))
    (fun t_58 =>
     need (at_34.length + ([t_58] : List Int).length ≤ 4294967296) (
     some (.go ((at_34 ++ ([t_58] : List Int)), (IntKind.i64.wrap (i_35 + 1))))))))
   (some (.stop (.go at_34)))
def ref43_Spread_L1 (n : Nat) (l_0 : (List S_api_Segment)) (parents_1 : (List Int)) (delays_2 : (List (List Int))) : (Int × (List (List Int))) → Option (Lp (Int × (List (List Int))) (Lp ((List (List Int))) (S_ref43_Times))) :=
 fun (k_20, x_21) =>
  cond (decide (k_20 < (parents_1.length : Int)))
   (bindJ (S := (List Int))
    (iter (ref43_Spread_L2 l_0 parents_1 delays_2 k_20 x_21) n (([] : List Int), 0))
   (fun at_28 =>
    need (x_21.length + ([at_28] : List (List Int)).length ≤ 4294967296) (
    some (.go ((IntKind.i64.wrap (k_20 + 1)), (x_21 ++ ([at_28] : List (List Int))))))))
   (some (.stop (.go x_21)))
def ref43_Spread (n : Nat) (l_0 : (List S_api_Segment)) (parents_1 : (List Int)) (delays_2 : (List (List Int))) : Option (S_ref43_Times) :=
 obind (ref43_Stream n l_0) fun r2 =>
 bindJ (S := Bool)
  (cond (!r2)
   (some (.go true))
   (obind (ref43_tree n (l_0.length : Int) parents_1 delays_2) fun r10 =>
   some (.go (!r10))))
 (fun b4 =>
  cond b4
   (some (S_ref43_Times.mk ([] : List (List Int)) 1))
   (bindJ (S := (List (List Int)))
    (iter (ref43_Spread_L1 n l_0 parents_1 delays_2) n (0, ([] : List (List Int))))
   (fun x_14 =>
    some (S_ref43_Times.mk x_14 0))))
theorem ref43_Spread_ok (n : Nat) (l_0 : (List S_api_Segment)) (parents_1 : (List Int)) (delays_2 : (List (List Int))) (l_0v : Value) (parents_1v : Value) (delays_2v : Value) {r : S_ref43_Times} (h : ref43_Spread n l_0 parents_1 delays_2 = some r) :
  Meets Tryz.prog 18 [l_0v, parents_1v, delays_2v] [ro l_0v 20 (l_0.map S_api_Segment.enc), ro parents_1v 1 (parents_1.map (eInt .i64)), nro delays_2v NC_L_int_43 delays_2] (fun v G => ∃ v0, v = .agg #[v0, .int .i64 r.E] ∧ G = [nrow v0 NC_L_int_43 r.L]) := by
 refine fn_of_run Tryz.func18 rfl Tryz.ntmps18 rfl (fun w0 o0 => ?_)
 refine run_seq ?_
 refine run_region' ?_
 refine ot rfl rfl (t_alloc Tryz.zeroValue49) ?_
 rintro _ _ ⟨b1, rfl, rfl⟩
 refine ops_nil ?_
 refine goes_code ?_
 refine run_seq ?_
 refine run_region' ?_
 refine oy rfl rfl (y_move rfl) ?_
 obtain ⟨r2, hr3, h⟩ := obind_some h
 refine ot rfl rfl (t_callx (vs := [l_0v]) (cs := []) [(0, 0)] rfl Tryz.call35 rfl (ref43_Stream_ok n l_0 l_0v hr3) (showsX_view 0 rfl views_ro showsX_nil) rfl (.inl rfl)) ?_
 rintro _ _ ⟨_, ⟨rfl, rfl⟩, rfl⟩
 refine oy rfl rfl (y_assign rfl) ?_
 refine ops_nil ?_
 refine goes_code ?_
 refine run_seq ?_
 refine run_seq ?_
 refine run_region' ?_
 refine oy rfl rfl (y_move rfl) ?_
 refine oy rfl rfl (y_not rfl) ?_
 refine oy rfl rfl (y_move rfl) ?_
 obtain ⟨o5, h, ho6⟩ := bindJ_some h
 refine ops_cut 7 (Bool) (fun σ => [(0, l_0v), (1, parents_1v), (2, delays_2v), (6, boxP b1 0), (24, .bool σ)]) (fun σ => [ro l_0v 20 (l_0.map S_api_Segment.enc), ro parents_1v 1 (parents_1.map (eInt .i64)), nro delays_2v NC_L_int_43 delays_2, box b1 [.slice none 0 0, .int .i64 0]]) (fun σ => o5 = .go σ) (fun L7 hL8 => ?_) ?_
 ·refine ops_split 17 (!r2) rfl (fun hg9 => ?_) (fun hg9 => ?_)
  ·replace h := cond_t h hg9
   refine ops_no 2 false 17 rfl rfl rfl rfl rfl ?_
   refine ops_no 2 false 17 rfl rfl rfl rfl rfl ?_
   refine ops_no 2 false 17 rfl rfl rfl rfl rfl ?_
   refine ops_no 2 false 17 rfl rfl rfl rfl rfl ?_
   refine ops_no 2 false 17 rfl rfl rfl rfl rfl ?_
   refine ops_no 2 false 17 rfl rfl rfl rfl rfl ?_
   refine oy rfl rfl (y_pick (b := true) rfl rfl) ?_
   refine ops_nil ?_
   obtain rfl := some_eq h
   exact goes_cut hL8 true [0, 1, 2, 3] (qv5 rfl rfl rfl rfl rfl) (by decide) rfl rfl
  ·replace h := cond_f h hg9
   refine ops_y (wg 2 false 17 rfl rfl rfl rfl) rfl (y_move rfl) ?_
   refine ops_y (wg 2 false 17 rfl rfl rfl rfl) rfl ((y_len 0 rfl Tryz.runUnderlying22 rfl rfl reads_ro).to (v_len S_api_Segment.enc _)) ?_
   refine ops_y (wg 2 false 17 rfl rfl rfl rfl) rfl (y_move rfl) ?_
   refine ops_y (wg 2 false 17 rfl rfl rfl rfl) rfl (y_move rfl) ?_
   obtain ⟨r10, hr11, h⟩ := obind_some h
   refine ops_t (wg 2 false 17 rfl rfl rfl rfl) rfl (t_callx (vs := [.int .i64 (l_0.length : Int), parents_1v, delays_2v]) (cs := []) [(1, 0), (2, 0)] rfl Tryz.call64 rfl (ref43_tree_ok n (l_0.length : Int) parents_1 delays_2 parents_1v delays_2v hr11) (showsX_view 1 rfl views_ro (showsX_view 2 rfl views_nro showsX_nil)) rfl (.inl rfl)) ?_
   rintro _ _ ⟨_, ⟨rfl, rfl⟩, rfl⟩
   refine ops_y (wg 2 false 17 rfl rfl rfl rfl) rfl (y_not rfl) ?_
   refine oy rfl rfl (y_pick (b := false) rfl rfl) ?_
   refine ops_nil ?_
   obtain rfl := some_eq h
   exact goes_cut hL8 (!r10) [0, 1, 2, 3] (qv5 rfl rfl rfl rfl rfl) (by decide) rfl rfl
 rintro b4 hj
 obtain rfl : o5 = _ := hj
 replace h := after_go ho6
 clear ho6
 refine ops_nil ?_
 refine goes_code ?_
 refine run_cond b4 rfl (fun hc12 => ?_) (fun hc12 => ?_)
 ·replace h := cond_t h hc12
  refine run_seq ?_
  refine run_region' ?_
  refine oy rfl rfl (y_build_struct (cells := #[.slice none 0 0, .int .i64 1]) [(1, .int .i64 1)] [(1, [.int .i64 1])] Tryz.zeroValue49 Tryz.runUnderlying49 (fs_cons Tryz.sizeOf44 (fs_cons Tryz.sizeOf27 fs_nil)) rfl rfl rfl) ?_
  refine ot rfl rfl (t_store 3 Tryz.sizeOf49 rfl rfl rfl rfl (by simp [Value.cells, boxP]) (by simp [Value.cells, Value.oneCell', boxP])) ?_
  rintro _ _ ⟨rfl, rfl⟩
  refine ops_turn (retell 3 (g := box b1 [.slice none 0 0, .int .i64 1]) rfl rfl) ?_
  refine ops_nil ?_
  refine goes_code ?_
  refine run_ret ?_
  refine fin_turn (nilrowN NC_L_int_43) ?_
  obtain rfl := some_eq h
  refine fin_res [.cell 6 49] [.agg #[(.slice none 0 0), .int .i64 1]] [4] [nrow (.slice none 0 0) NC_L_int_43 ([] : List (List Int))] Tryz.results18 rfl (rescons (res_box 3 Tryz.isAgg49 Tryz.sizeOf49 rfl rfl rfl) resnil) (by decide) rfl ?_
  exact ⟨_, rfl, rfl⟩
 ·replace h := cond_f h hc12
  refine run_skip ?_
  refine goes_code ?_
  refine run_seq ?_
  refine run_region' ?_
  refine ot rfl rfl (t_alloc Tryz.zeroValue49) ?_
  rintro _ _ ⟨b13, rfl, rfl⟩
  refine ops_nil ?_
  refine goes_code ?_
  obtain ⟨o16, h, ho17⟩ := bindJ_some h
  refine run_cut (((List (List Int))) × (Value)) (fun σ => [(6, boxP b1 0), (8, boxP b13 0)]) (fun σ => [box b1 [.slice none 0 0, .int .i64 0], box b13 [σ.2, .int .i64 0], nrow σ.2 NC_L_int_43 σ.1]) (fun σ => o16 = .go σ.1) (fun L19 hL18 => ?_) ?_
  ·
   refine run_seq ?_
   refine run_region' ?_
   refine oy rfl rfl (y_assign rfl) ?_
   refine ops_nil ?_
   refine goes_code ?_
   refine run_block ?_
   refine run_turn (nilrowN NC_L_int_43) ?_
   refine run_iter (step := ref43_Spread_L1 n l_0 parents_1 delays_2) (n := n) (s0 := (0, ([] : List (List Int)))) h (G := Value) (.slice none 0 0) (fun σ γ => [(9, .int .i64 σ.1), (0, l_0v), (1, parents_1v), (2, delays_2v), (6, boxP b1 0), (8, boxP b13 0)]) (fun σ γ => [ro l_0v 20 (l_0.map S_api_Segment.enc), ro parents_1v 1 (parents_1.map (eInt .i64)), nro delays_2v NC_L_int_43 delays_2, box b1 [.slice none 0 0, .int .i64 0], box b13 [γ, .int .i64 0], nrow γ NC_L_int_43 σ.2]) [0, 1, 2, 3, 4, 5] (qv6 rfl rfl rfl rfl rfl rfl) (by decide) rfl ?_
   rintro ⟨k_20, x_21⟩ v22 o23 h L26 hgo24 hstop25
   change Run _ _ _ (VF.of [(9, .int .i64 k_20), (0, l_0v), (1, parents_1v), (2, delays_2v), (6, boxP b1 0), (8, boxP b13 0)]) [ro l_0v 20 (l_0.map S_api_Segment.enc), ro parents_1v 1 (parents_1.map (eInt .i64)), nro delays_2v NC_L_int_43 delays_2, box b1 [.slice none 0 0, .int .i64 0], box b13 [v22, .int .i64 0], nrow v22 NC_L_int_43 x_21]
   refine run_seq ?_
   refine run_seq ?_
   refine run_region' ?_
   refine oy rfl rfl (y_move rfl) ?_
   refine oy rfl rfl (y_move rfl) ?_
   refine oy rfl rfl ((y_len 1 rfl Tryz.runUnderlying43 rfl rfl reads_ro).to (v_len (eInt .i64) _)) ?_
   refine oy rfl rfl (y_lss rfl rfl) ?_
   refine ops_nil ?_
   refine goes_code ?_
   refine run_cond (decide (k_20 < (parents_1.length : Int))) rfl (fun hc27 => ?_) (fun hc27 => ?_)
   ·replace h := cond_t h hc27
    refine run_skip ?_
    refine goes_code ?_
    refine run_seq ?_
    refine run_block ?_
    refine run_seq ?_
    refine run_region' ?_
    refine oy rfl rfl (y_assign rfl) ?_
    refine ops_nil ?_
    refine goes_code ?_
    obtain ⟨o30, h, ho31⟩ := bindJ_some h
    refine run_cut (((List Int)) × (Value)) (fun σ => [(10, σ.2), (0, l_0v), (1, parents_1v), (2, delays_2v), (6, boxP b1 0), (8, boxP b13 0), (9, .int .i64 k_20)]) (fun σ => [row σ.2 1 (σ.1.map (eInt .i64)), ro l_0v 20 (l_0.map S_api_Segment.enc), ro parents_1v 1 (parents_1.map (eInt .i64)), nro delays_2v NC_L_int_43 delays_2, box b1 [.slice none 0 0, .int .i64 0], box b13 [v22, .int .i64 0], nrow v22 NC_L_int_43 x_21]) (fun σ => o30 = .go σ.1) (fun L33 hL32 => ?_) ?_
    ·
     refine run_seq ?_
     refine run_region' ?_
     refine oy rfl rfl (y_assign rfl) ?_
     refine ops_nil ?_
     refine goes_code ?_
     refine run_block ?_
     refine run_turn (nilrow 1) ?_
     refine run_turn (retell 6 (g := row (.slice none 0 0) 1 (([] : List Int).map (eInt .i64))) rfl rfl) ?_
     refine run_iter (step := ref43_Spread_L2 l_0 parents_1 delays_2 k_20 x_21) (n := n) (s0 := (([] : List Int), 0)) h (G := Value) (.slice none 0 0) (fun σ γ => [(10, γ), (11, .int .i64 σ.2), (0, l_0v), (1, parents_1v), (2, delays_2v), (6, boxP b1 0), (8, boxP b13 0), (9, .int .i64 k_20)]) (fun σ γ => [row γ 1 (σ.1.map (eInt .i64)), ro l_0v 20 (l_0.map S_api_Segment.enc), ro parents_1v 1 (parents_1.map (eInt .i64)), nro delays_2v NC_L_int_43 delays_2, box b1 [.slice none 0 0, .int .i64 0], box b13 [v22, .int .i64 0], nrow v22 NC_L_int_43 x_21]) [6, 0, 1, 2, 3, 4, 5] (qv8 rfl rfl rfl rfl rfl rfl rfl rfl) (by decide) rfl ?_
     rintro ⟨at_34, i_35⟩ v36 o37 h L40 hgo38 hstop39
     change Run _ _ _ (VF.of [(10, v36), (11, .int .i64 i_35), (0, l_0v), (1, parents_1v), (2, delays_2v), (6, boxP b1 0), (8, boxP b13 0), (9, .int .i64 k_20)]) [row v36 1 (at_34.map (eInt .i64)), ro l_0v 20 (l_0.map S_api_Segment.enc), ro parents_1v 1 (parents_1.map (eInt .i64)), nro delays_2v NC_L_int_43 delays_2, box b1 [.slice none 0 0, .int .i64 0], box b13 [v22, .int .i64 0], nrow v22 NC_L_int_43 x_21]
     refine run_seq ?_
     refine run_seq ?_
     refine run_region' ?_
     refine oy rfl rfl (y_move rfl) ?_
     refine oy rfl rfl (y_move rfl) ?_
     refine oy rfl rfl ((y_len 1 rfl Tryz.runUnderlying22 rfl rfl reads_ro).to (v_len S_api_Segment.enc _)) ?_
     refine oy rfl rfl (y_lss rfl rfl) ?_
     refine ops_nil ?_
     refine goes_code ?_
     refine run_cond (decide (i_35 < (l_0.length : Int))) rfl (fun hc41 => ?_) (fun hc41 => ?_)
     ·replace h := cond_t h hc41
      refine run_skip ?_
      refine goes_code ?_
      refine run_seq ?_
      refine run_block ?_
      refine run_seq ?_
      refine run_draw (by kernel_rfl) (by kernel_rfl) ?_
      refine sy rfl rfl (y_move rfl) ?_
      refine sy rfl rfl (y_move rfl) ?_
      obtain ⟨x42, hzx42, hlx42, hxx42, h⟩ := idx_some h
      refine sy rfl rfl (y_indexAddrI (kd := .i64) (i := i_35) 1 Tryz.runUnderlying22 Tryz.sizeOf57 rfl rfl rfl reads_ro hzx42 (map_lt hlx42)) ?_
      refine sy rfl rfl (y_fieldAddr_elem (sz := 0) Tryz.runUnderlying57 rfl Tryz.sizeOf3 rfl) ?_
      refine sy rfl rfl (y_load_field (i := i_35.toNat) (j := 1) 1 Tryz.isAgg3 rfl rfl reads_ro (map_get hxx42) rfl) ?_
      refine sy rfl rfl (y_move rfl) ?_
      refine sy rfl rfl (y_move rfl) ?_
      refine sy rfl rfl (y_indexAddrI (kd := .i64) (i := i_35) 1 Tryz.runUnderlying22 Tryz.sizeOf57 rfl rfl rfl reads_ro hzx42 (map_lt hlx42)) ?_
      refine sy rfl rfl (y_fieldAddr_elem (sz := 0) Tryz.runUnderlying57 rfl Tryz.sizeOf3 rfl) ?_
      refine sy rfl rfl (y_load_field (i := i_35.toNat) (j := 2) 1 Tryz.isAgg3 rfl rfl reads_ro (map_get hxx42) rfl) ?_
      refine sy rfl rfl (y_add rfl rfl) ?_
      refine sy rfl rfl (y_assign rfl) ?_
      refine still_nil ?_
      refine goes_code ?_
      obtain ⟨o44, h, ho45⟩ := bindJ_some h
      refine run_cut ((Int) × (Unit)) (fun σ => [(12, .int .i64 σ.1), (0, l_0v), (1, parents_1v), (2, delays_2v), (6, boxP b1 0), (8, boxP b13 0), (9, .int .i64 k_20), (10, v36), (11, .int .i64 i_35)]) (fun σ => [ro l_0v 20 (l_0.map S_api_Segment.enc), ro parents_1v 1 (parents_1.map (eInt .i64)), nro delays_2v NC_L_int_43 delays_2, box b1 [.slice none 0 0, .int .i64 0], box b13 [v22, .int .i64 0], nrow v22 NC_L_int_43 x_21, row v36 1 (at_34.map (eInt .i64))]) (fun σ => o44 = .go σ.1) (fun L47 hL46 => ?_) ?_
      ·
       refine run_seq ?_
       refine run_weak [(10, v36), (11, .int .i64 i_35), (0, l_0v), (1, parents_1v), (2, delays_2v), (6, boxP b1 0), (8, boxP b13 0), (9, .int .i64 k_20), (12, .int .i64 (IntKind.i64.wrap (x42.Begin + x42.Len)))] [0, 1, 2, 3, 4, 5, 6] [row v36 1 (at_34.map (eInt .i64)), ro l_0v 20 (l_0.map S_api_Segment.enc), ro parents_1v 1 (parents_1.map (eInt .i64)), nro delays_2v NC_L_int_43 delays_2, box b1 [.slice none 0 0, .int .i64 0], box b13 [v22, .int .i64 0], nrow v22 NC_L_int_43 x_21] (qv9 rfl rfl rfl rfl rfl rfl rfl rfl rfl) (by decide) rfl ?_
       refine run_region' ?_
       refine oy rfl rfl (y_move rfl) ?_
       refine oy rfl rfl (y_gtr rfl rfl) ?_
       refine ops_nil ?_
       refine goes_code ?_
       refine run_cond (decide (0 < k_20)) rfl (fun hc48 => ?_) (fun hc48 => ?_)
       ·replace h := cond_t h hc48
        refine run_draw (by kernel_rfl) (by kernel_rfl) ?_
        refine still_view (freezeN 6 rfl) (fun L49 hL50 => ?_)
        refine sy rfl rfl (y_fieldAddr_box (sz := 0) Tryz.runUnderlying49 rfl Tryz.sizeOf44 rfl) ?_
        refine sy rfl rfl (y_load_box 5 Tryz.isAgg44 rfl rfl rfl) ?_
        refine sy rfl rfl (y_move rfl) ?_
        refine sy rfl rfl (y_move rfl) ?_
        obtain ⟨x51, hzx51, hlx51, hxx51, h⟩ := idx_some h
        refine sy rfl rfl (y_indexAddrI (kd := .i64) (i := k_20) 2 Tryz.runUnderlying43 Tryz.sizeOf3 rfl rfl rfl reads_ro hzx51 (map_lt hlx51)) ?_
        refine sy rfl rfl (y_load_elem (i := k_20.toNat) 2 Tryz.isAgg3 rfl rfl reads_ro (map_get hxx51)) ?_
        obtain ⟨x52, hzx52, hlx52, hxx52, h⟩ := idx_some h
        refine sy rfl rfl (y_indexAddrN (kd := .i64) (i := x51) 6 Tryz.runUnderlying44 Tryz.sizeOf43 rfl rfl rfl readsN_ro hzx52 hlx52) ?_
        refine still_ex (exAt (C := NC_L_int_43) (i := x51.toNat) 6 rfl hxx52) ?_
        rintro g53
        refine sy rfl rfl (y_load_at (n := x51.toNat * 1) (j := 0) 7 Tryz.isAgg43 rfl rfl rfl) ?_
        refine sy rfl rfl (y_move rfl) ?_
        obtain ⟨x54, hzx54, hlx54, hxx54, h⟩ := idx_some h
        refine sy rfl rfl (y_indexAddrI (kd := .i64) (i := i_35) 8 Tryz.runUnderlying43 Tryz.sizeOf3 rfl rfl rfl reads_ro hzx54 (map_lt hlx54)) ?_
        refine sy rfl rfl (y_load_elem (i := i_35.toNat) 8 Tryz.isAgg3 rfl rfl reads_ro (map_get hxx54)) ?_
        refine sy rfl rfl (y_move rfl) ?_
        refine sy rfl rfl (y_move rfl) ?_
        obtain ⟨x55, hzx55, hlx55, hxx55, h⟩ := idx_some h
        refine sy rfl rfl (y_indexAddrN (kd := .i64) (i := k_20) 3 Tryz.runUnderlying44 Tryz.sizeOf43 rfl rfl rfl readsN_ro hzx55 hlx55) ?_
        refine still_ex (exAt (C := NC_L_int_43) (i := k_20.toNat) 3 rfl hxx55) ?_
        rintro g56
        refine sy rfl rfl (y_load_at (n := k_20.toNat * 1) (j := 0) 9 Tryz.isAgg43 rfl rfl rfl) ?_
        refine sy rfl rfl (y_move rfl) ?_
        obtain ⟨x57, hzx57, hlx57, hxx57, h⟩ := idx_some h
        refine sy rfl rfl (y_indexAddrI (kd := .i64) (i := i_35) 10 Tryz.runUnderlying43 Tryz.sizeOf3 rfl rfl rfl reads_ro hzx57 (map_lt hlx57)) ?_
        refine sy rfl rfl (y_load_elem (i := i_35.toNat) 10 Tryz.isAgg3 rfl rfl reads_ro (map_get hxx57)) ?_
        refine sy rfl rfl (y_add rfl rfl) ?_
        refine sy rfl rfl (y_assign rfl) ?_
        refine still_nil ?_
        refine goes_view hL50 [(10, v36), (11, .int .i64 i_35), (0, l_0v), (1, parents_1v), (2, delays_2v), (6, boxP b1 0), (8, boxP b13 0), (9, .int .i64 k_20), (12, .int .i64 (IntKind.i64.wrap (x54 + x57)))] [0, 1, 2, 3, 4, 5, 6] (qv9 rfl rfl rfl rfl rfl rfl rfl rfl rfl) (by decide) rfl ?_
        obtain rfl := some_eq h
        exact goes_cut hL46 ((IntKind.i64.wrap (x54 + x57)), ()) [1, 2, 3, 4, 5, 6, 0] (qv9 rfl rfl rfl rfl rfl rfl rfl rfl rfl) (by decide) rfl rfl
       ·replace h := cond_f h hc48
        refine run_skip ?_
        obtain rfl := some_eq h
        exact goes_cut hL46 ((IntKind.i64.wrap (x42.Begin + x42.Len)), ()) [1, 2, 3, 4, 5, 6, 0] (qv9 rfl rfl rfl rfl rfl rfl rfl rfl rfl) (by decide) rfl rfl
      rintro ⟨t_43, _⟩ hj
      obtain rfl : o44 = _ := hj
      replace h := after_go ho45
      clear ho45
      change Run _ _ _ (VF.of [(12, .int .i64 t_43), (0, l_0v), (1, parents_1v), (2, delays_2v), (6, boxP b1 0), (8, boxP b13 0), (9, .int .i64 k_20), (10, v36), (11, .int .i64 i_35)]) [ro l_0v 20 (l_0.map S_api_Segment.enc), ro parents_1v 1 (parents_1.map (eInt .i64)), nro delays_2v NC_L_int_43 delays_2, box b1 [.slice none 0 0, .int .i64 0], box b13 [v22, .int .i64 0], nrow v22 NC_L_int_43 x_21, row v36 1 (at_34.map (eInt .i64))]
      obtain ⟨o59, h, ho60⟩ := bindJ_some h
      refine run_cut ((Int) × (Unit)) (fun σ => [(12, .int .i64 σ.1), (0, l_0v), (1, parents_1v), (2, delays_2v), (6, boxP b1 0), (8, boxP b13 0), (9, .int .i64 k_20), (10, v36), (11, .int .i64 i_35)]) (fun σ => [ro l_0v 20 (l_0.map S_api_Segment.enc), ro parents_1v 1 (parents_1.map (eInt .i64)), nro delays_2v NC_L_int_43 delays_2, box b1 [.slice none 0 0, .int .i64 0], box b13 [v22, .int .i64 0], nrow v22 NC_L_int_43 x_21, row v36 1 (at_34.map (eInt .i64))]) (fun σ => o59 = .go σ.1) (fun L62 hL61 => ?_) ?_
      ·
       refine run_seq ?_
       refine run_region' ?_
       refine oy rfl rfl (y_move rfl) ?_
       refine oy rfl rfl (y_gtr rfl rfl) ?_
       refine ops_nil ?_
       refine goes_code ?_
       refine run_cond (decide (0 < i_35)) rfl (fun hc63 => ?_) (fun hc63 => ?_)
       ·replace h := cond_t h hc63
        refine run_region' ?_
        refine oy rfl rfl (y_move rfl) ?_
        refine oy rfl rfl (y_move rfl) ?_
        refine oy rfl rfl (y_move rfl) ?_
        refine oy rfl rfl (y_sub rfl rfl) ?_
        obtain ⟨x64, hzx64, hlx64, hxx64, h⟩ := idx_some h
        refine oy rfl rfl (y_indexAddrI (kd := .i64) (i := (IntKind.i64.wrap (i_35 - 1))) 6 Tryz.runUnderlying43 Tryz.sizeOf3 rfl rfl rfl reads_row hzx64 (map_lt hlx64)) ?_
        refine oy rfl rfl (y_load_elem (i := ((IntKind.i64.wrap (i_35 - 1))).toNat) 6 Tryz.isAgg3 rfl rfl reads_row (map_get hxx64)) ?_
        refine oy rfl rfl (y_max rfl rfl) ?_
        refine oy rfl rfl (y_assign rfl) ?_
        refine ops_nil ?_
        obtain rfl := some_eq h
        exact goes_cut hL61 ((max t_43 x64), ()) [0, 1, 2, 3, 4, 5, 6] (qv9 rfl rfl rfl rfl rfl rfl rfl rfl rfl) (by decide) rfl rfl
       ·replace h := cond_f h hc63
        refine run_skip ?_
        obtain rfl := some_eq h
        exact goes_cut hL61 (t_43, ()) [0, 1, 2, 3, 4, 5, 6] (qv9 rfl rfl rfl rfl rfl rfl rfl rfl rfl) (by decide) rfl rfl
      rintro ⟨t_58, _⟩ hj
      obtain rfl : o59 = _ := hj
      replace h := after_go ho60
      clear ho60
      change Run _ _ _ (VF.of [(12, .int .i64 t_58), (0, l_0v), (1, parents_1v), (2, delays_2v), (6, boxP b1 0), (8, boxP b13 0), (9, .int .i64 k_20), (10, v36), (11, .int .i64 i_35)]) [ro l_0v 20 (l_0.map S_api_Segment.enc), ro parents_1v 1 (parents_1.map (eInt .i64)), nro delays_2v NC_L_int_43 delays_2, box b1 [.slice none 0 0, .int .i64 0], box b13 [v22, .int .i64 0], nrow v22 NC_L_int_43 x_21, row v36 1 (at_34.map (eInt .i64))]
      refine run_region' ?_
      refine oy rfl rfl (y_move rfl) ?_
      refine oy rfl rfl (y_move rfl) ?_
      refine ot rfl rfl (t_lit [.int .i64 t_58] Tryz.runUnderlying43 Tryz.sizeOf3 Tryz.zeroValue3 rfl (by decide) (by decide) rfl (by simp [Value.cells, boxP])) ?_
      rintro v65 _ ⟨rfl, _⟩
      refine ops_turn (retell 7 (g := row v65 1 (([t_58] : List Int).map (eInt .i64))) rfl rfl) ?_
      obtain ⟨hr67, h⟩ := need_some h
      refine ot rfl rfl (t_append (es := 1) 6 rfl Tryz.runUnderlying43 rfl Tryz.runUnderlying43 (.inr ⟨_, rfl⟩) Tryz.typeInfo3 rfl (by decide) Tryz.zeroValue3 rfl rfl rfl rfl (src_reads 7 rfl reads_row (map_ok (eInt_ok _) _)) (map_room hr67 (by decide)) (map_fit hr67)) ?_
      rintro v66 _ rfl
      refine ops_turn (retell 6 (g := row v66 1 ((at_34 ++ ([t_58] : List Int)).map (eInt .i64))) rfl (congrArg (row _ _) List.map_append.symm)) ?_
      refine oy rfl rfl (y_assign rfl) ?_
      refine ops_nil ?_
      refine goes_blk ?_
      refine goes_code ?_
      refine run_region' ?_
      refine oy rfl rfl (y_move rfl) ?_
      refine oy rfl rfl (y_add rfl rfl) ?_
      refine oy rfl rfl (y_assign rfl) ?_
      refine ops_nil ?_
      obtain rfl := some_eq h
      exact goes_iter hgo38 ((at_34 ++ ([t_58] : List Int)), (IntKind.i64.wrap (i_35 + 1))) v66 [6, 0, 1, 2, 3, 4, 5] rfl (qv8 rfl rfl rfl rfl rfl rfl rfl rfl) (by decide) rfl
     ·replace h := cond_f h hc41
      refine run_exit _ rfl ?_
      obtain rfl := some_eq h
      obtain rfl := hstop39 _ rfl
      exact goes_cut hL32 (at_34, v36) [0, 1, 2, 3, 4, 5, 6] (qv7 rfl rfl rfl rfl rfl rfl rfl) (by decide) rfl rfl
    rintro ⟨at_28, v29⟩ hj
    obtain rfl : o30 = _ := hj
    replace h := after_go ho31
    clear ho31
    change Run _ _ _ (VF.of [(10, v29), (0, l_0v), (1, parents_1v), (2, delays_2v), (6, boxP b1 0), (8, boxP b13 0), (9, .int .i64 k_20)]) [row v29 1 (at_28.map (eInt .i64)), ro l_0v 20 (l_0.map S_api_Segment.enc), ro parents_1v 1 (parents_1.map (eInt .i64)), nro delays_2v NC_L_int_43 delays_2, box b1 [.slice none 0 0, .int .i64 0], box b13 [v22, .int .i64 0], nrow v22 NC_L_int_43 x_21]
    refine run_region' ?_
    refine oy rfl rfl (y_fieldAddr_box (sz := 0) Tryz.runUnderlying49 rfl Tryz.sizeOf44 rfl) ?_
    refine oy rfl rfl (y_load_box 5 Tryz.isAgg44 rfl rfl rfl) ?_
    refine oy rfl rfl (y_move rfl) ?_
    refine ops_turn (Go.Abs.freeze 0 rfl) ?_
    refine ops_slc 0 rfl reads_ro (fun hs69 hs69o => ?_)
    refine ot rfl rfl (t_lit [v29] Tryz.runUnderlying44 Tryz.sizeOf43 Tryz.zeroValue43 rfl (by decide) (by decide) rfl (by intro q hq; simp only [List.mem_cons, List.not_mem_nil, or_false] at hq; rcases hq with rfl <;> first | rfl | (rw [hs69]; rfl))) ?_
    rintro v68 _ ⟨rfl, _⟩
    refine ops_turn (turn_closeR (C := NC_L_int_43) (l := ([at_28] : List (List Int))) 7 [(at_28, v29)] rfl (by simp only [List.map_cons, List.map_nil, hs69]; rfl) rfl (hasall_cons (has_cons 0 rfl has_nil) hasall_nil)) ?_
    obtain ⟨hr71, h⟩ := need_some h
    refine ot rfl rfl (t_appendN (C := NC_L_int_43) 6 7 (by decide) rfl Tryz.runUnderlying44 rfl Tryz.runUnderlying44 Tryz.typeInfo43 rfl (by decide) (by decide) Tryz.zeroValue43 rfl rfl rfl rfl (srcN_row 7 rfl) hr71) ?_
    rintro v70 _ rfl
    refine oy rfl rfl (y_fieldAddr_box (sz := 0) Tryz.runUnderlying49 rfl Tryz.sizeOf44 rfl) ?_
    refine ops_slcN 6 rfl readsN_row (fun hs72 hs72o => ?_)
    refine ot rfl rfl (t_store 5 Tryz.sizeOf44 rfl rfl rfl (by rw [hs72]; rfl) (by simp [Value.cells, boxP]) (by rw [hs72]; exact allL_cons hs72o (allL_nil))) ?_
    rintro _ _ ⟨rfl, rfl⟩
    refine ops_turn (retell 5 (g := box b13 [v70, .int .i64 0]) rfl (by rw [hs72]; rfl)) ?_
    refine ops_nil ?_
    refine goes_blk ?_
    refine goes_code ?_
    refine run_region' ?_
    refine oy rfl rfl (y_move rfl) ?_
    refine oy rfl rfl (y_add rfl rfl) ?_
    refine oy rfl rfl (y_assign rfl) ?_
    refine ops_nil ?_
    obtain rfl := some_eq h
    exact goes_iter hgo24 ((IntKind.i64.wrap (k_20 + 1)), (x_21 ++ ([at_28] : List (List Int)))) v70 [1, 2, 3, 4, 5, 6] rfl (qv6 rfl rfl rfl rfl rfl rfl) (by decide) rfl
   ·replace h := cond_f h hc27
    refine run_exit _ rfl ?_
    obtain rfl := some_eq h
    obtain rfl := hstop25 _ rfl
    exact goes_cut hL18 (x_21, v22) [3, 4, 5] (qv2 rfl rfl) (by decide) rfl rfl
  rintro ⟨x_14, v15⟩ hj
  obtain rfl : o16 = _ := hj
  replace h := after_go ho17
  clear ho17
  change Run _ _ _ (VF.of [(6, boxP b1 0), (8, boxP b13 0)]) [box b1 [.slice none 0 0, .int .i64 0], box b13 [v15, .int .i64 0], nrow v15 NC_L_int_43 x_14]
  refine run_seq ?_
  refine run_region' ?_
  refine oy rfl rfl (y_load_boxagg (c := [v15, .int .i64 0]) 1 Tryz.isAgg49 Tryz.sizeOf49 rfl rfl rfl) ?_
  refine ops_slcN 2 rfl readsN_row (fun hs73 hs73o => ?_)
  refine ot rfl rfl (t_store 0 Tryz.sizeOf49 rfl rfl rfl rfl (by simp [Value.cells, boxP]) (allL_cons hs73o (allL_cons rfl (allL_nil)))) ?_
  rintro _ _ ⟨rfl, rfl⟩
  refine ops_turn (retell 0 (g := box b1 [v15, .int .i64 0]) rfl rfl) ?_
  refine ops_nil ?_
  refine goes_code ?_
  refine run_ret ?_
  obtain rfl := some_eq h
  refine fin_res [.cell 6 49] [.agg #[v15, .int .i64 0]] [2] [nrow v15 NC_L_int_43 x_14] Tryz.results18 rfl (rescons (res_box 0 Tryz.isAgg49 Tryz.sizeOf49 rfl rfl rfl) resnil) (by decide) rfl ?_
  exact ⟨_, rfl, rfl⟩

def ref43_Seen_L1 (l_0 : (List S_api_Segment)) (arrived_1 : (List Int)) (t_2 : Int) : (Int × (List S_api_Segment)) → Option (Lp (Int × (List S_api_Segment)) (Lp ((List S_api_Segment)) (S_api_Playlist))) :=
 fun (i_16, x_17) =>
  bindJ (S := Bool)
   (cond (decide (i_16 < (l_0.length : Int)))
    (idx arrived_1 i_16 fun x29 =>
    some (.go (decide (x29 ≤ t_2))))
    (some (.go false)))
  (fun b23 =>
   cond b23
    (idx l_0 i_16 fun x31 =>
    need (x_17.length + ([x31] : List S_api_Segment).length ≤ 4294967296) (
    some (.go ((IntKind.i64.wrap (i_16 + 1)), (x_17 ++ ([x31] : List S_api_Segment))))))
    (some (.stop (.go x_17))))
def ref43_Seen (n : Nat) (l_0 : (List S_api_Segment)) (arrived_1 : (List Int)) (t_2 : Int) (window_3 : Int) : Option (S_api_Playlist) :=
 bindJ (S := Int)
  (cond (decide (0 < (l_0.length : Int)))
   (idx l_0 0 fun x9 =>
   some (.go x9.Num))
   (some (.go 0)))
 (fun x_3 =>
  bindJ (S := (List S_api_Segment))
   (iter (ref43_Seen_L1 l_0 arrived_1 t_2) n (0, ([] : List S_api_Segment)))
  (fun x_10 =>
   obind (ref43_cut (S_api_Playlist.mk x_3 x_10 false) window_3) fun r49 =>
   some r49))
theorem ref43_Seen_ok (n : Nat) (l_0 : (List S_api_Segment)) (arrived_1 : (List Int)) (t_2 : Int) (window_3 : Int) (l_0v : Value) (arrived_1v : Value) {r : S_api_Playlist} (h : ref43_Seen n l_0 arrived_1 t_2 window_3 = some r) :
  Meets Tryz.prog 21 [l_0v, arrived_1v, .int .i64 t_2, .int .i64 window_3] [ro l_0v 20 (l_0.map S_api_Segment.enc), ro arrived_1v 1 (arrived_1.map (eInt .i64))] (fun v G => ∃ v0, v = .agg #[.int .i64 r.First, v0, .bool r.Done] ∧ G = [ro v0 20 (r.L.map S_api_Segment.enc)]) := by
 refine fn_of_run Tryz.func21 rfl Tryz.ntmps21 rfl (fun w0 o0 => ?_)
 refine run_seq ?_
 refine run_region' ?_
 refine ot rfl rfl (t_alloc Tryz.zeroValue24) ?_
 rintro _ _ ⟨b1, rfl, rfl⟩
 refine ops_nil ?_
 refine goes_code ?_
 refine run_seq ?_
 refine run_region' ?_
 refine ot rfl rfl (t_alloc Tryz.zeroValue24) ?_
 rintro _ _ ⟨b2, rfl, rfl⟩
 refine ops_nil ?_
 refine goes_code ?_
 obtain ⟨o4, h, ho5⟩ := bindJ_some h
 refine run_cut ((Int) × (Unit)) (fun σ => [(0, l_0v), (1, arrived_1v), (2, .int .i64 t_2), (3, .int .i64 window_3), (8, boxP b1 0), (9, boxP b2 0)]) (fun σ => [ro l_0v 20 (l_0.map S_api_Segment.enc), ro arrived_1v 1 (arrived_1.map (eInt .i64)), box b1 [.int .i64 0, .slice none 0 0, .bool false], box b2 [.int .i64 σ.1, .slice none 0 0, .bool false]]) (fun σ => o4 = .go σ.1) (fun L7 hL6 => ?_) ?_
 ·
  refine run_seq ?_
  refine run_region' ?_
  refine oy rfl rfl (y_move rfl) ?_
  refine oy rfl rfl ((y_len 0 rfl Tryz.runUnderlying22 rfl rfl reads_ro).to (v_len S_api_Segment.enc _)) ?_
  refine oy rfl rfl (y_gtr rfl rfl) ?_
  refine ops_nil ?_
  refine goes_code ?_
  refine run_cond (decide (0 < (l_0.length : Int))) rfl (fun hc8 => ?_) (fun hc8 => ?_)
  ·replace h := cond_t h hc8
   refine run_region' ?_
   refine oy rfl rfl (y_move rfl) ?_
   obtain ⟨x9, hzx9, hlx9, hxx9, h⟩ := idx_some h
   refine oy rfl rfl (y_indexAddrI (kd := .i64) (i := 0) 0 Tryz.runUnderlying22 Tryz.sizeOf57 rfl rfl rfl reads_ro hzx9 (map_lt hlx9)) ?_
   refine oy rfl rfl (y_fieldAddr_elem (sz := 0) Tryz.runUnderlying57 rfl Tryz.sizeOf3 rfl) ?_
   refine oy rfl rfl (y_load_field (i := (0 : Int).toNat) (j := 0) 0 Tryz.isAgg3 rfl rfl reads_ro (map_get hxx9) rfl) ?_
   refine oy rfl rfl (y_fieldAddr_box (sz := 0) Tryz.runUnderlying24 rfl Tryz.sizeOf3 rfl) ?_
   refine ot rfl rfl (t_store 3 Tryz.sizeOf3 rfl rfl rfl rfl (by simp [Value.cells, boxP]) (by simp [Value.cells, Value.oneCell', boxP])) ?_
   rintro _ _ ⟨rfl, rfl⟩
   refine ops_turn (retell 3 (g := box b2 [.int .i64 x9.Num, .slice none 0 0, .bool false]) rfl rfl) ?_
   refine ops_nil ?_
   obtain rfl := some_eq h
   exact goes_cut hL6 (x9.Num, ()) [0, 1, 2, 3] (qv6 rfl rfl rfl rfl rfl rfl) (by decide) rfl rfl
  ·replace h := cond_f h hc8
   refine run_skip ?_
   obtain rfl := some_eq h
   exact goes_cut hL6 (0, ()) [0, 1, 2, 3] (qv6 rfl rfl rfl rfl rfl rfl) (by decide) rfl rfl
 rintro ⟨x_3, _⟩ hj
 obtain rfl : o4 = _ := hj
 replace h := after_go ho5
 clear ho5
 change Run _ _ _ (VF.of [(0, l_0v), (1, arrived_1v), (2, .int .i64 t_2), (3, .int .i64 window_3), (8, boxP b1 0), (9, boxP b2 0)]) [ro l_0v 20 (l_0.map S_api_Segment.enc), ro arrived_1v 1 (arrived_1.map (eInt .i64)), box b1 [.int .i64 0, .slice none 0 0, .bool false], box b2 [.int .i64 x_3, .slice none 0 0, .bool false]]
 obtain ⟨o12, h, ho13⟩ := bindJ_some h
 refine run_cut (((List S_api_Segment)) × (Value)) (fun σ => [(3, .int .i64 window_3), (8, boxP b1 0), (9, boxP b2 0)]) (fun σ => [box b1 [.int .i64 0, .slice none 0 0, .bool false], box b2 [.int .i64 x_3, σ.2, .bool false], row σ.2 20 (σ.1.map S_api_Segment.enc)]) (fun σ => o12 = .go σ.1) (fun L15 hL14 => ?_) ?_
 ·
  refine run_seq ?_
  refine run_region' ?_
  refine oy rfl rfl (y_assign rfl) ?_
  refine ops_nil ?_
  refine goes_code ?_
  refine run_block ?_
  refine run_turn (nilrow 20) ?_
  refine run_turn (retell 4 (g := row (.slice none 0 0) 20 (([] : List S_api_Segment).map S_api_Segment.enc)) rfl rfl) ?_
  refine run_iter (step := ref43_Seen_L1 l_0 arrived_1 t_2) (n := n) (s0 := (0, ([] : List S_api_Segment))) h (G := Value) (.slice none 0 0) (fun σ γ => [(10, .int .i64 σ.1), (0, l_0v), (1, arrived_1v), (2, .int .i64 t_2), (3, .int .i64 window_3), (8, boxP b1 0), (9, boxP b2 0)]) (fun σ γ => [ro l_0v 20 (l_0.map S_api_Segment.enc), ro arrived_1v 1 (arrived_1.map (eInt .i64)), box b1 [.int .i64 0, .slice none 0 0, .bool false], box b2 [.int .i64 x_3, γ, .bool false], row γ 20 (σ.2.map S_api_Segment.enc)]) [0, 1, 2, 3, 4] (qv7 rfl rfl rfl rfl rfl rfl rfl) (by decide) rfl ?_
  rintro ⟨i_16, x_17⟩ v18 o19 h L22 hgo20 hstop21
  change Run _ _ _ (VF.of [(10, .int .i64 i_16), (0, l_0v), (1, arrived_1v), (2, .int .i64 t_2), (3, .int .i64 window_3), (8, boxP b1 0), (9, boxP b2 0)]) [ro l_0v 20 (l_0.map S_api_Segment.enc), ro arrived_1v 1 (arrived_1.map (eInt .i64)), box b1 [.int .i64 0, .slice none 0 0, .bool false], box b2 [.int .i64 x_3, v18, .bool false], row v18 20 (x_17.map S_api_Segment.enc)]
  refine run_seq ?_
  refine run_seq ?_
  refine run_region' ?_
  refine oy rfl rfl (y_move rfl) ?_
  refine oy rfl rfl (y_move rfl) ?_
  refine oy rfl rfl ((y_len 0 rfl Tryz.runUnderlying22 rfl rfl reads_ro).to (v_len S_api_Segment.enc _)) ?_
  refine oy rfl rfl (y_lss rfl rfl) ?_
  refine oy rfl rfl (y_move rfl) ?_
  obtain ⟨o24, h, ho25⟩ := bindJ_some h
  refine ops_cut 7 (Bool) (fun σ => [(10, .int .i64 i_16), (0, l_0v), (1, arrived_1v), (2, .int .i64 t_2), (3, .int .i64 window_3), (8, boxP b1 0), (9, boxP b2 0), (30, .bool σ)]) (fun σ => [ro l_0v 20 (l_0.map S_api_Segment.enc), ro arrived_1v 1 (arrived_1.map (eInt .i64)), box b1 [.int .i64 0, .slice none 0 0, .bool false], box b2 [.int .i64 x_3, v18, .bool false], row v18 20 (x_17.map S_api_Segment.enc)]) (fun σ => o24 = .go σ) (fun L26 hL27 => ?_) ?_
  ·refine ops_split 23 (decide (i_16 < (l_0.length : Int))) rfl (fun hg28 => ?_) (fun hg28 => ?_)
   ·replace h := cond_t h hg28
    refine ops_y (wg 4 true 23 rfl rfl rfl rfl) rfl (y_move rfl) ?_
    refine ops_y (wg 4 true 23 rfl rfl rfl rfl) rfl (y_move rfl) ?_
    obtain ⟨x29, hzx29, hlx29, hxx29, h⟩ := idx_some h
    refine ops_y (wg 4 true 23 rfl rfl rfl rfl) rfl (y_indexAddrI (kd := .i64) (i := i_16) 1 Tryz.runUnderlying43 Tryz.sizeOf3 rfl rfl rfl reads_ro hzx29 (map_lt hlx29)) ?_
    refine ops_y (wg 4 true 23 rfl rfl rfl rfl) rfl (y_load_elem (i := i_16.toNat) 1 Tryz.isAgg3 rfl rfl reads_ro (map_get hxx29)) ?_
    refine ops_y (wg 4 true 23 rfl rfl rfl rfl) rfl (y_move rfl) ?_
    refine ops_y (wg 4 true 23 rfl rfl rfl rfl) rfl (y_leq rfl rfl) ?_
    refine oy rfl rfl (y_pick (b := true) rfl rfl) ?_
    refine ops_nil ?_
    obtain rfl := some_eq h
    exact goes_cut hL27 (decide (x29 ≤ t_2)) [0, 1, 2, 3, 4] (qv8 rfl rfl rfl rfl rfl rfl rfl rfl) (by decide) rfl rfl
   ·replace h := cond_f h hg28
    refine ops_no 4 true 23 rfl rfl rfl rfl rfl ?_
    refine ops_no 4 true 23 rfl rfl rfl rfl rfl ?_
    refine ops_no 4 true 23 rfl rfl rfl rfl rfl ?_
    refine ops_no 4 true 23 rfl rfl rfl rfl rfl ?_
    refine ops_no 4 true 23 rfl rfl rfl rfl rfl ?_
    refine ops_no 4 true 23 rfl rfl rfl rfl rfl ?_
    refine oy rfl rfl (y_pick (b := false) rfl rfl) ?_
    refine ops_nil ?_
    obtain rfl := some_eq h
    exact goes_cut hL27 false [0, 1, 2, 3, 4] (qv8 rfl rfl rfl rfl rfl rfl rfl rfl) (by decide) rfl rfl
  rintro b23 hj
  obtain rfl : o24 = _ := hj
  replace h := after_go ho25
  clear ho25
  refine ops_nil ?_
  refine goes_code ?_
  refine run_cond b23 rfl (fun hc30 => ?_) (fun hc30 => ?_)
  ·replace h := cond_t h hc30
   refine run_skip ?_
   refine goes_code ?_
   refine run_seq ?_
   refine run_block ?_
   obtain ⟨x31, hzx31, hlx31, hxx31, h⟩ := idx_some h
   obtain ⟨hr34, h⟩ := need_some h
   refine run_drawany [ro l_0v 20 (l_0.map S_api_Segment.enc), ro arrived_1v 1 (arrived_1.map (eInt .i64)), box b1 [.int .i64 0, .slice none 0 0, .bool false], HA.emp, HA.emp] (by kernel_rfl) ?_
   refine any_y 0 rfl (by kernel_rfl) (by kernel_rfl) (by kernel_rfl) (ss (ss (ss (se (se (sn)))))) (wn rfl) rfl (y_fieldAddr_box (sz := 0) Tryz.runUnderlying24 rfl Tryz.sizeOf22 rfl) ?_
   refine any_y 2 rfl (by kernel_rfl) (by kernel_rfl) (by kernel_rfl) (ss (ss (ss (se (se (sn)))))) (wn rfl) rfl (y_move rfl) ?_
   refine any_y 3 rfl (by kernel_rfl) (by kernel_rfl) (by kernel_rfl) (ss (ss (ss (se (se (sn)))))) (wn rfl) rfl (y_move rfl) ?_
   refine any_y 4 rfl (by kernel_rfl) (by kernel_rfl) (by kernel_rfl) (ss (ss (ss (se (se (sn)))))) (wn rfl) rfl (y_indexAddrI (kd := .i64) (i := i_16) 0 Tryz.runUnderlying22 Tryz.sizeOf57 rfl rfl rfl reads_ro hzx31 (map_lt hlx31)) ?_
   refine any_y 5 rfl (by kernel_rfl) (by kernel_rfl) (by kernel_rfl) (ss (ss (ss (se (se (sn)))))) (wn rfl) rfl (y_load_agg (i := i_16.toNat) (c := [.int .i64 x31.Num, .int .i64 x31.Begin, .int .i64 x31.Len, .int .u8 x31.Body.a0_, .int .u8 x31.Body.a1_, .int .u8 x31.Body.a2_, .int .u8 x31.Body.a3_, .int .u8 x31.Body.a4_, .int .u8 x31.Body.a5_, .int .u8 x31.Body.a6_, .int .u8 x31.Body.a7_, .int .u8 x31.Body.a8_, .int .u8 x31.Body.a9_, .int .u8 x31.Body.a10_, .int .u8 x31.Body.a11_, .int .u8 x31.Body.a12_, .int .u8 x31.Body.a13_, .int .u8 x31.Body.a14_, .int .u8 x31.Body.a15_, .int .i64 x31.Size]) 0 Tryz.isAgg57 Tryz.sizeOf57 rfl rfl reads_ro (map_get hxx31)) ?_
   refine any_cut2 #[true, true, true, true, true, true, true, true, true, true] 0 (Value × Value) (fun σ => [(10, .int .i64 i_16), (0, l_0v), (1, arrived_1v), (2, .int .i64 t_2), (3, .int .i64 window_3), (8, boxP b1 0), (9, boxP b2 0)]) (fun σ => [ro l_0v 20 (l_0.map S_api_Segment.enc), ro arrived_1v 1 (arrived_1.map (eInt .i64)), box b1 [.int .i64 0, .slice none 0 0, .bool false], box b2 [.int .i64 x_3, σ.1, .bool false], row σ.1 20 ((x_17 ++ ([x31] : List S_api_Segment)).map S_api_Segment.enc), row σ.2 20 (([x31] : List S_api_Segment).map S_api_Segment.enc)]) ?_ (fun hK40 => ?_)
   ·rintro ⟨v38, v37⟩
    change AnyL _ _ _ _ _ (VF.of [(10, .int .i64 i_16), (0, l_0v), (1, arrived_1v), (2, .int .i64 t_2), (3, .int .i64 window_3), (8, boxP b1 0), (9, boxP b2 0)]) [ro l_0v 20 (l_0.map S_api_Segment.enc), ro arrived_1v 1 (arrived_1.map (eInt .i64)), box b1 [.int .i64 0, .slice none 0 0, .bool false], box b2 [.int .i64 x_3, v38, .bool false], row v38 20 ((x_17 ++ ([x31] : List S_api_Segment)).map S_api_Segment.enc), row v37 20 (([x31] : List S_api_Segment).map S_api_Segment.enc)] _
    refine any_nil (by kernel_rfl) ?_
    refine goes_blk ?_
    refine goes_code ?_
    refine run_region' ?_
    refine oy rfl rfl (y_move rfl) ?_
    refine oy rfl rfl (y_add rfl rfl) ?_
    refine oy rfl rfl (y_assign rfl) ?_
    refine ops_nil ?_
    obtain rfl := some_eq h
    exact goes_iter hgo20 ((IntKind.i64.wrap (i_16 + 1)), (x_17 ++ ([x31] : List S_api_Segment))) v38 [0, 1, 2, 3, 4] rfl (qv7 rfl rfl rfl rfl rfl rfl rfl) (by decide) rfl
   refine any_cut2 #[true, true, true, true, true, true, true, true, true, false] 1 (Value × Value) (fun σ => [(10, .int .i64 i_16), (0, l_0v), (1, arrived_1v), (2, .int .i64 t_2), (3, .int .i64 window_3), (8, boxP b1 0), (9, boxP b2 0), (40, σ.1), (41, boxP b2 1)]) (fun σ => [ro l_0v 20 (l_0.map S_api_Segment.enc), ro arrived_1v 1 (arrived_1.map (eInt .i64)), box b1 [.int .i64 0, .slice none 0 0, .bool false], box b2 [.int .i64 x_3, v18, .bool false], row σ.1 20 ((x_17 ++ ([x31] : List S_api_Segment)).map S_api_Segment.enc), row σ.2 20 (([x31] : List S_api_Segment).map S_api_Segment.enc)]) ?_ (fun hK41 => ?_)
   ·rintro ⟨v38, v37⟩
    change AnyL _ _ _ _ _ (VF.of [(10, .int .i64 i_16), (0, l_0v), (1, arrived_1v), (2, .int .i64 t_2), (3, .int .i64 window_3), (8, boxP b1 0), (9, boxP b2 0), (40, v38), (41, boxP b2 1)]) [ro l_0v 20 (l_0.map S_api_Segment.enc), ro arrived_1v 1 (arrived_1.map (eInt .i64)), box b1 [.int .i64 0, .slice none 0 0, .bool false], box b2 [.int .i64 x_3, v18, .bool false], row v38 20 ((x_17 ++ ([x31] : List S_api_Segment)).map S_api_Segment.enc), row v37 20 (([x31] : List S_api_Segment).map S_api_Segment.enc)] _
    refine any_all [9] (by kernel_rfl) rfl ?_
    refine anyo_cons ?_ ?_
    ·
     refine anyo_slc 4 rfl reads_row (fun hs42 hs42o => ?_)
     refine any_t rfl (wn rfl) rfl (t_store 3 Tryz.sizeOf22 rfl rfl rfl (by rw [hs42]; rfl) (by simp [Value.cells, boxP]) (by rw [hs42]; exact allL_cons hs42o (allL_nil))) ?_
     rintro _ _ ⟨rfl, rfl⟩
     refine ⟨(ss (ss (ss (se (se (sn)))))), ?_⟩
     refine any_turn (retell 3 (g := box b2 [.int .i64 x_3, v38, .bool false]) rfl (by rw [hs42]; rfl)) ?_
     exact any_weak2 (hK40 (v38, v37)) [0, 1, 2, 3, 4, 5] (by kernel_rfl) (qv7 rfl rfl rfl rfl rfl rfl rfl) (by decide) rfl
    exact anyo_nil
   refine any_cut2 #[true, true, true, true, true, true, true, false, false, false] 3 (Value) (fun σ => [(10, .int .i64 i_16), (0, l_0v), (1, arrived_1v), (2, .int .i64 t_2), (3, .int .i64 window_3), (8, boxP b1 0), (9, boxP b2 0), (34, v18), (39, σ)]) (fun σ => [ro l_0v 20 (l_0.map S_api_Segment.enc), ro arrived_1v 1 (arrived_1.map (eInt .i64)), box b1 [.int .i64 0, .slice none 0 0, .bool false], box b2 [.int .i64 x_3, v18, .bool false], row v18 20 (x_17.map S_api_Segment.enc), row σ 20 (([x31] : List S_api_Segment).map S_api_Segment.enc)]) ?_ (fun hK43 => ?_)
   ·rintro v37
    change AnyL _ _ _ _ _ (VF.of [(10, .int .i64 i_16), (0, l_0v), (1, arrived_1v), (2, .int .i64 t_2), (3, .int .i64 window_3), (8, boxP b1 0), (9, boxP b2 0), (34, v18), (39, v37)]) [ro l_0v 20 (l_0.map S_api_Segment.enc), ro arrived_1v 1 (arrived_1.map (eInt .i64)), box b1 [.int .i64 0, .slice none 0 0, .bool false], box b2 [.int .i64 x_3, v18, .bool false], row v18 20 (x_17.map S_api_Segment.enc), row v37 20 (([x31] : List S_api_Segment).map S_api_Segment.enc)] _
    refine any_all [7] (by kernel_rfl) rfl ?_
    refine anyo_cons ?_ ?_
    ·
     refine any_t rfl (wn rfl) rfl (t_append (es := 20) 4 rfl Tryz.runUnderlying22 rfl Tryz.runUnderlying22 (.inr ⟨_, rfl⟩) Tryz.typeInfo57 rfl (by decide) Tryz.zeroValue57 rfl rfl rfl rfl (src_reads 5 rfl reads_row (map_ok S_api_Segment.enc_ok _)) (map_room hr34 (by decide)) (map_fit hr34)) ?_
     rintro v44 _ rfl
     refine ⟨(ss (ss (ss (se (se (sn)))))), ?_⟩
     refine any_turn (retell 4 (g := row v44 20 ((x_17 ++ ([x31] : List S_api_Segment)).map S_api_Segment.enc)) rfl (congrArg (row _ _) List.map_append.symm)) ?_
     refine any_y 8 rfl (by kernel_rfl) (by kernel_rfl) (by kernel_rfl) (ss (ss (ss (se (se (sn)))))) (wn rfl) rfl (y_fieldAddr_box (sz := 0) Tryz.runUnderlying24 rfl Tryz.sizeOf22 rfl) ?_
     exact any_weak2 (hK41 (v44, v37)) [0, 1, 2, 3, 4, 5] (by kernel_rfl) (qv9 rfl rfl rfl rfl rfl rfl rfl rfl rfl) (by decide) rfl
    exact anyo_nil
   refine any_cut2 #[true, true, true, true, true, true, false, false, false, false] 4 (Unit) (fun σ => [(10, .int .i64 i_16), (0, l_0v), (1, arrived_1v), (2, .int .i64 t_2), (3, .int .i64 window_3), (8, boxP b1 0), (9, boxP b2 0), (38, .agg #[.int .i64 x31.Num, .int .i64 x31.Begin, .int .i64 x31.Len, .int .u8 x31.Body.a0_, .int .u8 x31.Body.a1_, .int .u8 x31.Body.a2_, .int .u8 x31.Body.a3_, .int .u8 x31.Body.a4_, .int .u8 x31.Body.a5_, .int .u8 x31.Body.a6_, .int .u8 x31.Body.a7_, .int .u8 x31.Body.a8_, .int .u8 x31.Body.a9_, .int .u8 x31.Body.a10_, .int .u8 x31.Body.a11_, .int .u8 x31.Body.a12_, .int .u8 x31.Body.a13_, .int .u8 x31.Body.a14_, .int .u8 x31.Body.a15_, .int .i64 x31.Size]), (34, v18)]) (fun σ => [ro l_0v 20 (l_0.map S_api_Segment.enc), ro arrived_1v 1 (arrived_1.map (eInt .i64)), box b1 [.int .i64 0, .slice none 0 0, .bool false], box b2 [.int .i64 x_3, v18, .bool false], row v18 20 (x_17.map S_api_Segment.enc)]) ?_ (fun hK45 => ?_)
   ·rintro _
    change AnyL _ _ _ _ _ (VF.of [(10, .int .i64 i_16), (0, l_0v), (1, arrived_1v), (2, .int .i64 t_2), (3, .int .i64 window_3), (8, boxP b1 0), (9, boxP b2 0), (38, .agg #[.int .i64 x31.Num, .int .i64 x31.Begin, .int .i64 x31.Len, .int .u8 x31.Body.a0_, .int .u8 x31.Body.a1_, .int .u8 x31.Body.a2_, .int .u8 x31.Body.a3_, .int .u8 x31.Body.a4_, .int .u8 x31.Body.a5_, .int .u8 x31.Body.a6_, .int .u8 x31.Body.a7_, .int .u8 x31.Body.a8_, .int .u8 x31.Body.a9_, .int .u8 x31.Body.a10_, .int .u8 x31.Body.a11_, .int .u8 x31.Body.a12_, .int .u8 x31.Body.a13_, .int .u8 x31.Body.a14_, .int .u8 x31.Body.a15_, .int .i64 x31.Size]), (34, v18)]) [ro l_0v 20 (l_0.map S_api_Segment.enc), ro arrived_1v 1 (arrived_1.map (eInt .i64)), box b1 [.int .i64 0, .slice none 0 0, .bool false], box b2 [.int .i64 x_3, v18, .bool false], row v18 20 (x_17.map S_api_Segment.enc)] _
    refine any_all [6] (by kernel_rfl) rfl ?_
    refine anyo_cons ?_ ?_
    ·
     refine any_t rfl (wn rfl) rfl (t_lit [.agg #[.int .i64 x31.Num, .int .i64 x31.Begin, .int .i64 x31.Len, .int .u8 x31.Body.a0_, .int .u8 x31.Body.a1_, .int .u8 x31.Body.a2_, .int .u8 x31.Body.a3_, .int .u8 x31.Body.a4_, .int .u8 x31.Body.a5_, .int .u8 x31.Body.a6_, .int .u8 x31.Body.a7_, .int .u8 x31.Body.a8_, .int .u8 x31.Body.a9_, .int .u8 x31.Body.a10_, .int .u8 x31.Body.a11_, .int .u8 x31.Body.a12_, .int .u8 x31.Body.a13_, .int .u8 x31.Body.a14_, .int .u8 x31.Body.a15_, .int .i64 x31.Size]] Tryz.runUnderlying22 Tryz.sizeOf57 Tryz.zeroValue57 rfl (by decide) (by decide) rfl (by simp [Value.cells, boxP])) ?_
     rintro v46 _ ⟨rfl, _⟩
     refine ⟨(ss (ss (ss (se (se (sn)))))), ?_⟩
     refine any_turn (retell 5 (g := row v46 20 (([x31] : List S_api_Segment).map S_api_Segment.enc)) rfl rfl) ?_
     exact any_weak2 (hK43 v46) [0, 1, 2, 3, 4, 5] (by kernel_rfl) (qv9 rfl rfl rfl rfl rfl rfl rfl rfl rfl) (by decide) rfl
    exact anyo_nil
   refine any_cut2 #[true, false, true, true, true, true, true, false, false, false] 4 (Value) (fun σ => [(10, .int .i64 i_16), (0, l_0v), (1, arrived_1v), (2, .int .i64 t_2), (3, .int .i64 window_3), (8, boxP b1 0), (9, boxP b2 0), (33, boxP b2 1), (39, σ)]) (fun σ => [ro l_0v 20 (l_0.map S_api_Segment.enc), ro arrived_1v 1 (arrived_1.map (eInt .i64)), box b1 [.int .i64 0, .slice none 0 0, .bool false], box b2 [.int .i64 x_3, v18, .bool false], row v18 20 (x_17.map S_api_Segment.enc), row σ 20 (([x31] : List S_api_Segment).map S_api_Segment.enc)]) ?_ (fun hK47 => ?_)
   ·rintro v36
    change AnyL _ _ _ _ _ (VF.of [(10, .int .i64 i_16), (0, l_0v), (1, arrived_1v), (2, .int .i64 t_2), (3, .int .i64 window_3), (8, boxP b1 0), (9, boxP b2 0), (33, boxP b2 1), (39, v36)]) [ro l_0v 20 (l_0.map S_api_Segment.enc), ro arrived_1v 1 (arrived_1.map (eInt .i64)), box b1 [.int .i64 0, .slice none 0 0, .bool false], box b2 [.int .i64 x_3, v18, .bool false], row v18 20 (x_17.map S_api_Segment.enc), row v36 20 (([x31] : List S_api_Segment).map S_api_Segment.enc)] _
    refine any_all [1] (by kernel_rfl) rfl ?_
    refine anyo_cons ?_ ?_
    ·
     refine any_ty rfl (wn rfl) rfl (y_load_box 3 Tryz.isAgg22 rfl rfl rfl) ⟨(ss (ss (ss (se (se (sn)))))), ?_⟩
     exact any_weak2 (hK43 v36) [0, 1, 2, 3, 4, 5] (by kernel_rfl) (qv9 rfl rfl rfl rfl rfl rfl rfl rfl rfl) (by decide) rfl
    exact anyo_nil
   refine any_all [1, 6] (by kernel_rfl) rfl ?_
   refine anyo_cons ?_ ?_
   ·
    refine any_ty rfl (wn rfl) rfl (y_load_box 3 Tryz.isAgg22 rfl rfl rfl) ⟨(ss (ss (ss (se (se (sn)))))), ?_⟩
    exact any_weak2 (hK45 ()) [0, 1, 2, 3, 4] (by kernel_rfl) (qv9 rfl rfl rfl rfl rfl rfl rfl rfl rfl) (by decide) rfl
   refine anyo_cons ?_ ?_
   ·
    refine any_t rfl (wn rfl) rfl (t_lit [.agg #[.int .i64 x31.Num, .int .i64 x31.Begin, .int .i64 x31.Len, .int .u8 x31.Body.a0_, .int .u8 x31.Body.a1_, .int .u8 x31.Body.a2_, .int .u8 x31.Body.a3_, .int .u8 x31.Body.a4_, .int .u8 x31.Body.a5_, .int .u8 x31.Body.a6_, .int .u8 x31.Body.a7_, .int .u8 x31.Body.a8_, .int .u8 x31.Body.a9_, .int .u8 x31.Body.a10_, .int .u8 x31.Body.a11_, .int .u8 x31.Body.a12_, .int .u8 x31.Body.a13_, .int .u8 x31.Body.a14_, .int .u8 x31.Body.a15_, .int .i64 x31.Size]] Tryz.runUnderlying22 Tryz.sizeOf57 Tryz.zeroValue57 rfl (by decide) (by decide) rfl (by simp [Value.cells, boxP])) ?_
    rintro v48 _ ⟨rfl, _⟩
    refine ⟨(ss (ss (ss (se (se (sn)))))), ?_⟩
    refine any_turn (retell 5 (g := row v48 20 (([x31] : List S_api_Segment).map S_api_Segment.enc)) rfl rfl) ?_
    exact any_weak2 (hK47 v48) [0, 1, 2, 3, 4, 5] (by kernel_rfl) (qv9 rfl rfl rfl rfl rfl rfl rfl rfl rfl) (by decide) rfl
   exact anyo_nil
  ·replace h := cond_f h hc30
   refine run_exit _ rfl ?_
   obtain rfl := some_eq h
   obtain rfl := hstop21 _ rfl
   exact goes_cut hL14 (x_17, v18) [2, 3, 4] (qv3 rfl rfl rfl) (by decide) rfl rfl
 rintro ⟨x_10, v11⟩ hj
 obtain rfl : o12 = _ := hj
 replace h := after_go ho13
 clear ho13
 change Run _ _ _ (VF.of [(3, .int .i64 window_3), (8, boxP b1 0), (9, boxP b2 0)]) [box b1 [.int .i64 0, .slice none 0 0, .bool false], box b2 [.int .i64 x_3, v11, .bool false], row v11 20 (x_10.map S_api_Segment.enc)]
 refine run_seq ?_
 refine run_region' ?_
 refine oy rfl rfl (y_load_boxagg (c := [.int .i64 x_3, v11, .bool false]) 1 Tryz.isAgg24 Tryz.sizeOf24 rfl rfl rfl) ?_
 refine oy rfl rfl (y_move rfl) ?_
 refine ops_turn (Go.Abs.freeze 2 rfl) ?_
 obtain ⟨r49, hr50, h⟩ := obind_some h
 refine ot rfl rfl (t_callx (vs := [.agg #[.int .i64 x_3, v11, .bool false], .int .i64 window_3]) (cs := []) [(2, 0)] rfl Tryz.call44 rfl (ref43_cut_ok (S_api_Playlist.mk x_3 x_10 false) window_3 v11 hr50) (showsX_view 2 rfl views_ro showsX_nil) rfl (.inl rfl)) ?_
 rintro _ _ ⟨_, ⟨v51, rfl, rfl⟩, rfl⟩
 refine ops_slc 3 rfl reads_ro (fun hs52 hs52o => ?_)
 refine ot rfl rfl (t_store 0 Tryz.sizeOf24 rfl rfl rfl rfl (by simp [Value.cells, boxP]) (allL_cons rfl (allL_cons hs52o (allL_cons rfl (allL_nil))))) ?_
 rintro _ _ ⟨rfl, rfl⟩
 refine ops_turn (retell 0 (g := box b1 [.int .i64 r49.First, v51, .bool r49.Done]) rfl rfl) ?_
 refine ops_nil ?_
 refine goes_code ?_
 refine run_ret ?_
 obtain rfl := some_eq h
 refine fin_res [.cell 8 24] [.agg #[.int .i64 r49.First, v51, .bool r49.Done]] [3] [ro v51 20 (r49.L.map S_api_Segment.enc)] Tryz.results21 rfl (rescons (res_box 0 Tryz.isAgg24 Tryz.sizeOf24 rfl rfl rfl) resnil) (by decide) rfl ?_
 exact ⟨_, rfl, rfl⟩

end Go.Proofs.YtbgpojdmdnkeaaaGreatDoor
