/-
  Functions that the law GraphPathsMatchSpec needs, lifted.
-/
import Derived.Test.YtgelifcckhemiaaG4a
namespace Go.Proofs.Ytgelifcckhemiaa
open Go.Abs
set_option linter.unusedVariables false
set_option linter.unusedSimpArgs false
set_option maxRecDepth 20000
set_option maxHeartbeats 4000000

def ref09_tree_L1 (n_0 : S_api_Net) (from_1 : Int) (r_2 : S_api_Routes) (r21 : (List Bool)) : (Int) → Option (Lp (Int) (Lp (Unit) (Bool))) :=
 fun v_28 =>
  cond (decide (v_28 < n_0.Nodes))
   (bindJ (S := Unit)
    (idx r_2.Via v_28 fun x38 =>
    bindJ (S := Bool)
     (cond (decide (x38 < (-1)) || decide ((n_0.Arcs.length : Int) ≤ x38))
      (some (.go true))
      (idx r_2.Dist v_28 fun x48 =>
      some (.go (decide (1099511627776 < x48)))))
    (fun b42 =>
     bindJ (S := Bool)
      (cond b42
       (some (.go true))
       (idx r_2.Dist v_28 fun x55 =>
       some (.go (decide (x55 < (-1099511627776))))))
     (fun b49 =>
      cond b49
       (some (.stop (.stop (.stop false))))
       (cond (decide (v_28 = from_1))
        (some (.go ()))
        (idx r_2.Via v_28 fun x58 =>
        idx r21 v_28 fun x59 =>
        bindJ (S := Bool)
         (cond (!((decide (x58 = (-1))) == (!x59)))
          (some (.go true))
          (bindJ (S := Bool)
           (cond (decide (x58 = (-1)))
            (idx r_2.Dist v_28 fun x72 =>
            some (.go (decide (x72 ≠ 0))))
            (some (.go false)))
          (fun b66 =>
           some (.go b66))))
        (fun b60 =>
         cond b60
          (some (.stop (.stop (.stop false))))
          (idx r_2.Via v_28 fun x74 =>
          bindJ (S := Bool)
           (cond (decide (0 ≤ x74))
            (idx n_0.Arcs x74 fun x81 =>
            bindJ (S := Bool)
             (cond (decide (x81.To ≠ v_28))
              (some (.go true))
              (idx r_2.Dist v_28 fun x88 =>
              idx r_2.Dist x81.From fun x89 =>
              some (.go (decide ((IntKind.i64.wrap (x88 - x81.Cost)) ≠ x89)))))
            (fun b82 =>
             some (.go b82)))
            (some (.go false)))
          (fun b75 =>
           cond b75
            (some (.stop (.stop (.stop false))))
            (some (.go ()))))))))))
   (fun _ =>
    some (.go (IntKind.i64.wrap (v_28 + 1)))))
   (some (.stop (.go ())))
def ref09_tree_L2 (n : Nat) (n_0 : S_api_Net) (from_1 : Int) (r_2 : S_api_Routes) (r21 : (List Bool)) : (Int) → Option (Lp (Int) (Lp (Unit) (Bool))) :=
 fun v_95 =>
  cond (decide (v_95 < n_0.Nodes))
   (idx r21 v_95 fun x101 =>
   bindJ (S := Bool)
    (cond x101
     (obind (ref09_back n n_0 r_2.Via v_95 from_1) fun r108 =>
     some (.go (!r108)))
     (some (.go false)))
   (fun b102 =>
    cond b102
     (some (.stop (.stop false)))
     (some (.go (IntKind.i64.wrap (v_95 + 1))))))
   (some (.stop (.go ())))
def ref09_tree_L3 (n_0 : S_api_Net) (r_2 : S_api_Routes) (r21 : (List Bool)) : (Int) → Option (Lp (Int) (Lp (Unit) (Bool))) :=
 fun i_115 =>
  cond (decide (i_115 < (n_0.Arcs.length : Int)))
   (idx n_0.Arcs i_115 fun x121 =>
   idx r21 x121.From fun x123 =>
   bindJ (S := Bool)
    (cond x123
     (idx r_2.Dist x121.To fun x130 =>
     idx r_2.Dist x121.From fun x131 =>
     some (.go (decide (x131 < (IntKind.i64.wrap (x130 - x121.Cost))))))
     (some (.go false)))
   (fun b124 =>
    cond b124
     (some (.stop (.stop false)))
     (some (.go (IntKind.i64.wrap (i_115 + 1))))))
   (some (.stop (.go ())))
def ref09_tree (n : Nat) (n_0 : S_api_Net) (from_1 : Int) (r_2 : S_api_Routes) : Option (Bool) :=
 bindJ (S := Bool)
  (cond (decide ((r_2.Dist.length : Int) ≠ n_0.Nodes) || decide ((r_2.Via.length : Int) ≠ n_0.Nodes))
   (some (.go true))
   (idx r_2.Via from_1 fun x12 =>
   some (.go (decide (x12 ≠ (-1))))))
 (fun b6 =>
  bindJ (S := Bool)
   (cond b6
    (some (.go true))
    (idx r_2.Dist from_1 fun x19 =>
    some (.go (decide (x19 ≠ 0)))))
  (fun b13 =>
   cond b13
    (some false)
    (obind (ref09_reach n n_0 from_1) fun r21 =>
    bindJ (S := Unit)
     (iter (ref09_tree_L1 n_0 from_1 r_2 r21) n 0)
    (fun _ =>
     bindJ (S := Unit)
      (iter (ref09_tree_L2 n n_0 from_1 r_2 r21) n 0)
     (fun _ =>
      bindJ (S := Unit)
       (iter (ref09_tree_L3 n_0 r_2 r21) n 0)
      (fun _ =>
       some true))))))
theorem ref09_tree_ok (n : Nat) (n_0 : S_api_Net) (from_1 : Int) (r_2 : S_api_Routes) (n_0_Arcsv : Value) (r_2_Distv : Value) (r_2_Viav : Value) (r_2_Cyclev : Value) {r : Bool} (h : ref09_tree n n_0 from_1 r_2 = some r) :
  Meets Try.prog 53 [.agg #[.int .i64 n_0.Nodes, n_0_Arcsv], .int .i64 from_1, .agg #[r_2_Distv, r_2_Viav, r_2_Cyclev]] [ro n_0_Arcsv 4 (n_0.Arcs.map S_api_Arc.enc), ro r_2_Distv 1 (r_2.Dist.map (eInt .i64)), ro r_2_Viav 1 (r_2.Via.map (eInt .i64)), ro r_2_Cyclev 1 (r_2.Cycle.map (eInt .i64))] (fun v G => v = .bool r ∧ G = []) := by
 refine fn_of_run Try.func53 rfl Try.ntmps53 rfl (fun w0 o0 => ?_)
 refine run_seq ?_
 refine run_region' ?_
 refine ot rfl rfl (t_box rfl) ?_
 rintro _ _ ⟨b1, rfl, rfl⟩
 refine ot rfl rfl (t_box rfl) ?_
 rintro _ _ ⟨b2, rfl, rfl⟩
 refine oy rfl rfl (y_assign rfl) ?_
 refine ops_nil ?_
 refine goes_code ?_
 refine run_seq ?_
 refine run_seq ?_
 refine run_region' ?_
 refine oy rfl rfl (y_fieldAddr_box (sz := 0) Try.runUnderlying51 rfl Try.sizeOf34 rfl) ?_
 refine oy rfl rfl (y_load_box 5 Try.isAgg34 rfl rfl rfl) ?_
 refine oy rfl rfl ((y_len 1 rfl Try.runUnderlying34 rfl rfl reads_ro).to (v_len (eInt .i64) _)) ?_
 refine oy rfl rfl (y_fieldAddr_box (sz := 0) Try.runUnderlying24 rfl Try.sizeOf3 rfl) ?_
 refine oy rfl rfl (y_load_box 4 Try.isAgg3 rfl rfl rfl) ?_
 refine oy rfl rfl (y_neq rfl rfl) ?_
 refine oy rfl rfl (y_move rfl) ?_
 refine ops_cut 7 (Bool) (fun σ => [(1, .int .i64 from_1), (3, boxP b1 0), (5, boxP b2 0), (25, .bool σ)]) (fun σ => [ro n_0_Arcsv 4 (n_0.Arcs.map S_api_Arc.enc), ro r_2_Distv 1 (r_2.Dist.map (eInt .i64)), ro r_2_Viav 1 (r_2.Via.map (eInt .i64)), ro r_2_Cyclev 1 (r_2.Cycle.map (eInt .i64)), box b1 [.int .i64 n_0.Nodes, n_0_Arcsv], box b2 [r_2_Distv, r_2_Viav, r_2_Cyclev]]) (fun σ => σ = (decide ((r_2.Dist.length : Int) ≠ n_0.Nodes) || decide ((r_2.Via.length : Int) ≠ n_0.Nodes))) (fun L3 hL4 => ?_) ?_
 ·refine ops_split 18 (decide ((r_2.Dist.length : Int) ≠ n_0.Nodes)) rfl (fun hg5 => ?_) (fun hg5 => ?_)
  ·skip
   refine ops_no 6 false 18 rfl rfl rfl rfl rfl ?_
   refine ops_no 6 false 18 rfl rfl rfl rfl rfl ?_
   refine ops_no 6 false 18 rfl rfl rfl rfl rfl ?_
   refine ops_no 6 false 18 rfl rfl rfl rfl rfl ?_
   refine ops_no 6 false 18 rfl rfl rfl rfl rfl ?_
   refine ops_weak [(1, .int .i64 from_1), (3, boxP b1 0), (5, boxP b2 0), (18, .bool true)] [0, 1, 2, 3, 4, 5] [ro n_0_Arcsv 4 (n_0.Arcs.map S_api_Arc.enc), ro r_2_Distv 1 (r_2.Dist.map (eInt .i64)), ro r_2_Viav 1 (r_2.Via.map (eInt .i64)), ro r_2_Cyclev 1 (r_2.Cycle.map (eInt .i64)), box b1 [.int .i64 n_0.Nodes, n_0_Arcsv], box b2 [r_2_Distv, r_2_Viav, r_2_Cyclev]] (qv4 rfl rfl rfl rfl) (by decide) rfl ?_
   refine ops_no 6 false 18 rfl rfl rfl rfl rfl ?_
   refine oy rfl rfl (y_pick (b := true) rfl rfl) ?_
   refine ops_nil ?_
   exact goes_cut hL4 true [0, 1, 2, 3, 4, 5] (qv4 rfl rfl rfl rfl) (by decide) rfl (by rw [hg5]; simp)
  ·skip
   refine ops_y (wg 6 false 18 rfl rfl rfl rfl) rfl (y_fieldAddr_box (sz := 0) Try.runUnderlying51 rfl Try.sizeOf34 rfl) ?_
   refine ops_y (wg 6 false 18 rfl rfl rfl rfl) rfl (y_load_box 5 Try.isAgg34 rfl rfl rfl) ?_
   refine ops_y (wg 6 false 18 rfl rfl rfl rfl) rfl ((y_len 2 rfl Try.runUnderlying34 rfl rfl reads_ro).to (v_len (eInt .i64) _)) ?_
   refine ops_y (wg 6 false 18 rfl rfl rfl rfl) rfl (y_fieldAddr_box (sz := 0) Try.runUnderlying24 rfl Try.sizeOf3 rfl) ?_
   refine ops_y (wg 6 false 18 rfl rfl rfl rfl) rfl (y_load_box 4 Try.isAgg3 rfl rfl rfl) ?_
   refine ops_weak [(1, .int .i64 from_1), (3, boxP b1 0), (5, boxP b2 0), (18, .bool false), (21, .int .i64 (r_2.Via.length : Int)), (23, .int .i64 n_0.Nodes)] [0, 1, 2, 3, 4, 5] [ro n_0_Arcsv 4 (n_0.Arcs.map S_api_Arc.enc), ro r_2_Distv 1 (r_2.Dist.map (eInt .i64)), ro r_2_Viav 1 (r_2.Via.map (eInt .i64)), ro r_2_Cyclev 1 (r_2.Cycle.map (eInt .i64)), box b1 [.int .i64 n_0.Nodes, n_0_Arcsv], box b2 [r_2_Distv, r_2_Viav, r_2_Cyclev]] (qv6 rfl rfl rfl rfl rfl rfl) (by decide) rfl ?_
   refine ops_y (wg 6 false 18 rfl rfl rfl rfl) rfl (y_neq rfl rfl) ?_
   refine oy rfl rfl (y_pick (b := false) rfl rfl) ?_
   refine ops_nil ?_
   exact goes_cut hL4 (decide ((r_2.Via.length : Int) ≠ n_0.Nodes)) [0, 1, 2, 3, 4, 5] (qv4 rfl rfl rfl rfl) (by decide) rfl (by rw [hg5]; simp)
 rintro _ rfl
 refine oy rfl rfl (y_move rfl) ?_
 obtain ⟨o7, h, ho8⟩ := bindJ_some h
 refine ops_cut 7 (Bool) (fun σ => [(1, .int .i64 from_1), (3, boxP b1 0), (5, boxP b2 0), (33, .bool σ)]) (fun σ => [ro n_0_Arcsv 4 (n_0.Arcs.map S_api_Arc.enc), ro r_2_Distv 1 (r_2.Dist.map (eInt .i64)), ro r_2_Viav 1 (r_2.Via.map (eInt .i64)), ro r_2_Cyclev 1 (r_2.Cycle.map (eInt .i64)), box b1 [.int .i64 n_0.Nodes, n_0_Arcsv], box b2 [r_2_Distv, r_2_Viav, r_2_Cyclev]]) (fun σ => o7 = .go σ) (fun L9 hL10 => ?_) ?_
 ·refine ops_split 26 (decide ((r_2.Dist.length : Int) ≠ n_0.Nodes) || decide ((r_2.Via.length : Int) ≠ n_0.Nodes)) rfl (fun hg11 => ?_) (fun hg11 => ?_)
  ·replace h := cond_t h hg11
   refine ops_no 14 false 26 rfl rfl rfl rfl rfl ?_
   refine ops_no 14 false 26 rfl rfl rfl rfl rfl ?_
   refine ops_no 14 false 26 rfl rfl rfl rfl rfl ?_
   refine ops_no 14 false 26 rfl rfl rfl rfl rfl ?_
   refine ops_no 14 false 26 rfl rfl rfl rfl rfl ?_
   refine ops_no 14 false 26 rfl rfl rfl rfl rfl ?_
   refine oy rfl rfl (y_pick (b := true) rfl rfl) ?_
   refine ops_nil ?_
   obtain rfl := some_eq h
   exact goes_cut hL10 true [0, 1, 2, 3, 4, 5] (qv4 rfl rfl rfl rfl) (by decide) rfl rfl
  ·replace h := cond_f h hg11
   refine ops_y (wg 14 false 26 rfl rfl rfl rfl) rfl (y_fieldAddr_box (sz := 0) Try.runUnderlying51 rfl Try.sizeOf34 rfl) ?_
   refine ops_y (wg 14 false 26 rfl rfl rfl rfl) rfl (y_load_box 5 Try.isAgg34 rfl rfl rfl) ?_
   refine ops_y (wg 14 false 26 rfl rfl rfl rfl) rfl (y_move rfl) ?_
   obtain ⟨x12, hzx12, hlx12, hxx12, h⟩ := idx_some h
   refine ops_y (wg 14 false 26 rfl rfl rfl rfl) rfl (y_indexAddrI (kd := .i64) (i := from_1) 2 Try.runUnderlying34 Try.sizeOf3 rfl rfl rfl reads_ro hzx12 (map_lt hlx12)) ?_
   refine ops_y (wg 14 false 26 rfl rfl rfl rfl) rfl (y_load_elem (i := from_1.toNat) 2 Try.isAgg3 rfl rfl reads_ro (map_get hxx12)) ?_
   refine ops_y (wg 14 false 26 rfl rfl rfl rfl) rfl (y_neq rfl rfl) ?_
   refine oy rfl rfl (y_pick (b := false) rfl rfl) ?_
   refine ops_nil ?_
   obtain rfl := some_eq h
   exact goes_cut hL10 (decide (x12 ≠ (-1))) [0, 1, 2, 3, 4, 5] (qv4 rfl rfl rfl rfl) (by decide) rfl rfl
 rintro b6 hj
 obtain rfl : o7 = _ := hj
 replace h := after_go ho8
 clear ho8
 refine oy rfl rfl (y_move rfl) ?_
 obtain ⟨o14, h, ho15⟩ := bindJ_some h
 refine ops_cut 7 (Bool) (fun σ => [(1, .int .i64 from_1), (3, boxP b1 0), (5, boxP b2 0), (41, .bool σ)]) (fun σ => [ro n_0_Arcsv 4 (n_0.Arcs.map S_api_Arc.enc), ro r_2_Distv 1 (r_2.Dist.map (eInt .i64)), ro r_2_Viav 1 (r_2.Via.map (eInt .i64)), ro r_2_Cyclev 1 (r_2.Cycle.map (eInt .i64)), box b1 [.int .i64 n_0.Nodes, n_0_Arcsv], box b2 [r_2_Distv, r_2_Viav, r_2_Cyclev]]) (fun σ => o14 = .go σ) (fun L16 hL17 => ?_) ?_
 ·refine ops_split 34 b6 rfl (fun hg18 => ?_) (fun hg18 => ?_)
  ·replace h := cond_t h hg18
   refine ops_no 22 false 34 rfl rfl rfl rfl rfl ?_
   refine ops_no 22 false 34 rfl rfl rfl rfl rfl ?_
   refine ops_no 22 false 34 rfl rfl rfl rfl rfl ?_
   refine ops_no 22 false 34 rfl rfl rfl rfl rfl ?_
   refine ops_no 22 false 34 rfl rfl rfl rfl rfl ?_
   refine ops_no 22 false 34 rfl rfl rfl rfl rfl ?_
   refine oy rfl rfl (y_pick (b := true) rfl rfl) ?_
   refine ops_nil ?_
   obtain rfl := some_eq h
   exact goes_cut hL17 true [0, 1, 2, 3, 4, 5] (qv4 rfl rfl rfl rfl) (by decide) rfl rfl
  ·replace h := cond_f h hg18
   refine ops_y (wg 22 false 34 rfl rfl rfl rfl) rfl (y_fieldAddr_box (sz := 0) Try.runUnderlying51 rfl Try.sizeOf34 rfl) ?_
   refine ops_y (wg 22 false 34 rfl rfl rfl rfl) rfl (y_load_box 5 Try.isAgg34 rfl rfl rfl) ?_
   refine ops_y (wg 22 false 34 rfl rfl rfl rfl) rfl (y_move rfl) ?_
   obtain ⟨x19, hzx19, hlx19, hxx19, h⟩ := idx_some h
   refine ops_y (wg 22 false 34 rfl rfl rfl rfl) rfl (y_indexAddrI (kd := .i64) (i := from_1) 1 Try.runUnderlying34 Try.sizeOf3 rfl rfl rfl reads_ro hzx19 (map_lt hlx19)) ?_
   refine ops_y (wg 22 false 34 rfl rfl rfl rfl) rfl (y_load_elem (i := from_1.toNat) 1 Try.isAgg3 rfl rfl reads_ro (map_get hxx19)) ?_
   refine ops_y (wg 22 false 34 rfl rfl rfl rfl) rfl (y_neq rfl rfl) ?_
   refine oy rfl rfl (y_pick (b := false) rfl rfl) ?_
   refine ops_nil ?_
   obtain rfl := some_eq h
   exact goes_cut hL17 (decide (x19 ≠ 0)) [0, 1, 2, 3, 4, 5] (qv4 rfl rfl rfl rfl) (by decide) rfl rfl
 rintro b13 hj
 obtain rfl : o14 = _ := hj
 replace h := after_go ho15
 clear ho15
 refine ops_nil ?_
 refine goes_code ?_
 refine run_cond b13 rfl (fun hc20 => ?_) (fun hc20 => ?_)
 ·replace h := cond_t h hc20
  refine run_seq ?_
  refine run_region' ?_
  refine oy rfl rfl (y_assign rfl) ?_
  refine ops_nil ?_
  refine goes_code ?_
  refine run_ret ?_
  obtain rfl := some_eq h
  refine fin_slots [6] [.bool false] [] [] Try.results53 rfl (by decide) rfl ?_
  exact ⟨rfl, rfl⟩
 ·replace h := cond_f h hc20
  refine run_skip ?_
  refine goes_code ?_
  refine run_seq ?_
  refine run_region' ?_
  refine oy rfl rfl (y_load_boxagg (c := [.int .i64 n_0.Nodes, n_0_Arcsv]) 4 Try.isAgg24 Try.sizeOf24 rfl rfl rfl) ?_
  refine oy rfl rfl (y_move rfl) ?_
  obtain ⟨r21, hr22, h⟩ := obind_some h
  refine ot rfl rfl (t_callx (vs := [.agg #[.int .i64 n_0.Nodes, n_0_Arcsv], .int .i64 from_1]) (cs := []) [(0, 0)] rfl Try.call44 rfl (ref09_reach_ok n n_0 from_1 n_0_Arcsv hr22) (showsX_view 0 rfl views_ro showsX_nil) rfl (.inl rfl)) ?_
  rintro v23 _ ⟨_, ⟨_, rfl, rfl⟩, rfl⟩
  refine oy rfl rfl (y_assign rfl) ?_
  refine ops_nil ?_
  refine goes_code ?_
  obtain ⟨o24, h, ho25⟩ := bindJ_some h
  refine run_cut ((Unit) × (Unit)) (fun σ => [(1, .int .i64 from_1), (3, boxP b1 0), (5, boxP b2 0), (7, v23)]) (fun σ => [box b1 [.int .i64 n_0.Nodes, n_0_Arcsv], ro n_0_Arcsv 4 (n_0.Arcs.map S_api_Arc.enc), box b2 [r_2_Distv, r_2_Viav, r_2_Cyclev], ro r_2_Distv 1 (r_2.Dist.map (eInt .i64)), ro r_2_Viav 1 (r_2.Via.map (eInt .i64)), ro r_2_Cyclev 1 (r_2.Cycle.map (eInt .i64)), row v23 1 (r21.map eBool)]) (fun σ => o24 = .go σ.1) (fun L27 hL26 => ?_) ?_
  ·
   refine run_seq ?_
   refine run_region' ?_
   refine oy rfl rfl (y_assign rfl) ?_
   refine ops_nil ?_
   refine goes_code ?_
   refine run_block ?_
   refine run_iter (step := ref09_tree_L1 n_0 from_1 r_2 r21) (n := n) (s0 := 0) h (G := Unit) () (fun σ γ => [(1, .int .i64 from_1), (3, boxP b1 0), (5, boxP b2 0), (7, v23), (8, .int .i64 σ)]) (fun σ γ => [box b1 [.int .i64 n_0.Nodes, n_0_Arcsv], ro n_0_Arcsv 4 (n_0.Arcs.map S_api_Arc.enc), box b2 [r_2_Distv, r_2_Viav, r_2_Cyclev], ro r_2_Distv 1 (r_2.Dist.map (eInt .i64)), ro r_2_Viav 1 (r_2.Via.map (eInt .i64)), ro r_2_Cyclev 1 (r_2.Cycle.map (eInt .i64)), row v23 1 (r21.map eBool)]) [4, 0, 5, 1, 2, 3, 6] (qv5 rfl rfl rfl rfl rfl) (by decide) rfl ?_
   rintro v_28 _ o29 h L32 hgo30 hstop31
   change Run _ _ _ (VF.of [(1, .int .i64 from_1), (3, boxP b1 0), (5, boxP b2 0), (7, v23), (8, .int .i64 v_28)]) [box b1 [.int .i64 n_0.Nodes, n_0_Arcsv], ro n_0_Arcsv 4 (n_0.Arcs.map S_api_Arc.enc), box b2 [r_2_Distv, r_2_Viav, r_2_Cyclev], ro r_2_Distv 1 (r_2.Dist.map (eInt .i64)), ro r_2_Viav 1 (r_2.Via.map (eInt .i64)), ro r_2_Cyclev 1 (r_2.Cycle.map (eInt .i64)), row v23 1 (r21.map eBool)]
   refine run_seq ?_
   refine run_seq ?_
   refine run_region' ?_
   refine oy rfl rfl (y_move rfl) ?_
   refine oy rfl rfl (y_fieldAddr_box (sz := 0) Try.runUnderlying24 rfl Try.sizeOf3 rfl) ?_
   refine oy rfl rfl (y_load_box 0 Try.isAgg3 rfl rfl rfl) ?_
   refine oy rfl rfl (y_lss rfl rfl) ?_
   refine ops_nil ?_
   refine goes_code ?_
   refine run_cond (decide (v_28 < n_0.Nodes)) rfl (fun hc33 => ?_) (fun hc33 => ?_)
   ·replace h := cond_t h hc33
    refine run_skip ?_
    refine goes_code ?_
    obtain ⟨o34, h, ho35⟩ := bindJ_some h
    refine run_cut ((Unit) × (Unit)) (fun σ => [(1, .int .i64 from_1), (3, boxP b1 0), (5, boxP b2 0), (7, v23), (8, .int .i64 v_28)]) (fun σ => [box b1 [.int .i64 n_0.Nodes, n_0_Arcsv], ro n_0_Arcsv 4 (n_0.Arcs.map S_api_Arc.enc), box b2 [r_2_Distv, r_2_Viav, r_2_Cyclev], ro r_2_Distv 1 (r_2.Dist.map (eInt .i64)), ro r_2_Viav 1 (r_2.Via.map (eInt .i64)), ro r_2_Cyclev 1 (r_2.Cycle.map (eInt .i64)), row v23 1 (r21.map eBool)]) (fun σ => o34 = .go σ.1) (fun L37 hL36 => ?_) ?_
    ·
     refine run_block ?_
     refine run_seq ?_
     refine run_seq ?_
     refine run_draw (by kernel_rfl) (by kernel_rfl) ?_
     refine sy rfl rfl (y_fieldAddr_box (sz := 0) Try.runUnderlying51 rfl Try.sizeOf34 rfl) ?_
     refine sy rfl rfl (y_load_box 2 Try.isAgg34 rfl rfl rfl) ?_
     refine sy rfl rfl (y_move rfl) ?_
     obtain ⟨x38, hzx38, hlx38, hxx38, h⟩ := idx_some h
     refine sy rfl rfl (y_indexAddrI (kd := .i64) (i := v_28) 4 Try.runUnderlying34 Try.sizeOf3 rfl rfl rfl reads_ro hzx38 (map_lt hlx38)) ?_
     refine sy rfl rfl (y_load_elem (i := v_28.toNat) 4 Try.isAgg3 rfl rfl reads_ro (map_get hxx38)) ?_
     refine sy rfl rfl (y_lss rfl rfl) ?_
     refine sy rfl rfl (y_move rfl) ?_
     refine still_cut 10 (Bool) (fun σ => [(1, .int .i64 from_1), (3, boxP b1 0), (5, boxP b2 0), (7, v23), (8, .int .i64 v_28), (67, .bool σ)]) (fun σ => [box b1 [.int .i64 n_0.Nodes, n_0_Arcsv], ro n_0_Arcsv 4 (n_0.Arcs.map S_api_Arc.enc), box b2 [r_2_Distv, r_2_Viav, r_2_Cyclev], ro r_2_Distv 1 (r_2.Dist.map (eInt .i64)), ro r_2_Viav 1 (r_2.Via.map (eInt .i64)), ro r_2_Cyclev 1 (r_2.Cycle.map (eInt .i64)), row v23 1 (r21.map eBool)]) (fun σ => σ = (decide (x38 < (-1)) || decide ((n_0.Arcs.length : Int) ≤ x38))) (fun L39 hL40 => ?_) ?_
     ·refine still_split 57 (decide (x38 < (-1))) rfl (fun hg41 => ?_) (fun hg41 => ?_)
      ·skip
       refine still_no 6 false 57 rfl rfl rfl rfl rfl ?_
       refine still_no 6 false 57 rfl rfl rfl rfl rfl ?_
       refine still_no 6 false 57 rfl rfl rfl rfl rfl ?_
       refine still_no 6 false 57 rfl rfl rfl rfl rfl ?_
       refine still_no 6 false 57 rfl rfl rfl rfl rfl ?_
       refine still_no 6 false 57 rfl rfl rfl rfl rfl ?_
       refine still_no 6 false 57 rfl rfl rfl rfl rfl ?_
       refine still_no 6 false 57 rfl rfl rfl rfl rfl ?_
       refine still_no 6 false 57 rfl rfl rfl rfl rfl ?_
       refine sy rfl rfl (y_pick (b := true) rfl rfl) ?_
       refine still_nil ?_
       exact goes_cut hL40 true [0, 1, 2, 3, 4, 5, 6] (qv6 rfl rfl rfl rfl rfl rfl) (by decide) rfl (by rw [hg41]; simp)
      ·skip
       refine still_y (wg 6 false 57 rfl rfl rfl rfl) rfl (y_fieldAddr_box (sz := 0) Try.runUnderlying51 rfl Try.sizeOf34 rfl) ?_
       refine still_y (wg 6 false 57 rfl rfl rfl rfl) rfl (y_load_box 2 Try.isAgg34 rfl rfl rfl) ?_
       refine still_y (wg 6 false 57 rfl rfl rfl rfl) rfl (y_move rfl) ?_
       refine still_y (wg 6 false 57 rfl rfl rfl rfl) rfl (y_indexAddrI (kd := .i64) (i := v_28) 4 Try.runUnderlying34 Try.sizeOf3 rfl rfl rfl reads_ro hzx38 (map_lt hlx38)) ?_
       refine still_y (wg 6 false 57 rfl rfl rfl rfl) rfl (y_load_elem (i := v_28.toNat) 4 Try.isAgg3 rfl rfl reads_ro (map_get hxx38)) ?_
       refine still_y (wg 6 false 57 rfl rfl rfl rfl) rfl (y_fieldAddr_box (sz := 0) Try.runUnderlying24 rfl Try.sizeOf22 rfl) ?_
       refine still_y (wg 6 false 57 rfl rfl rfl rfl) rfl (y_load_box 0 Try.isAgg22 rfl rfl rfl) ?_
       refine still_y (wg 6 false 57 rfl rfl rfl rfl) rfl ((y_len 1 rfl Try.runUnderlying22 rfl rfl reads_ro).to (v_len S_api_Arc.enc _)) ?_
       refine still_y (wg 6 false 57 rfl rfl rfl rfl) rfl (y_geq rfl rfl) ?_
       refine sy rfl rfl (y_pick (b := false) rfl rfl) ?_
       refine still_nil ?_
       exact goes_cut hL40 (decide ((n_0.Arcs.length : Int) ≤ x38)) [0, 1, 2, 3, 4, 5, 6] (qv6 rfl rfl rfl rfl rfl rfl) (by decide) rfl (by rw [hg41]; simp)
     rintro _ rfl
     refine sy rfl rfl (y_move rfl) ?_
     obtain ⟨o43, h, ho44⟩ := bindJ_some h
     refine still_cut 7 (Bool) (fun σ => [(1, .int .i64 from_1), (3, boxP b1 0), (5, boxP b2 0), (7, v23), (8, .int .i64 v_28), (75, .bool σ)]) (fun σ => [box b1 [.int .i64 n_0.Nodes, n_0_Arcsv], ro n_0_Arcsv 4 (n_0.Arcs.map S_api_Arc.enc), box b2 [r_2_Distv, r_2_Viav, r_2_Cyclev], ro r_2_Distv 1 (r_2.Dist.map (eInt .i64)), ro r_2_Viav 1 (r_2.Via.map (eInt .i64)), ro r_2_Cyclev 1 (r_2.Cycle.map (eInt .i64)), row v23 1 (r21.map eBool)]) (fun σ => o43 = .go σ) (fun L45 hL46 => ?_) ?_
     ·refine still_split 68 (decide (x38 < (-1)) || decide ((n_0.Arcs.length : Int) ≤ x38)) rfl (fun hg47 => ?_) (fun hg47 => ?_)
      ·replace h := cond_t h hg47
       refine still_no 17 false 68 rfl rfl rfl rfl rfl ?_
       refine still_no 17 false 68 rfl rfl rfl rfl rfl ?_
       refine still_no 17 false 68 rfl rfl rfl rfl rfl ?_
       refine still_no 17 false 68 rfl rfl rfl rfl rfl ?_
       refine still_no 17 false 68 rfl rfl rfl rfl rfl ?_
       refine still_no 17 false 68 rfl rfl rfl rfl rfl ?_
       refine sy rfl rfl (y_pick (b := true) rfl rfl) ?_
       refine still_nil ?_
       obtain rfl := some_eq h
       exact goes_cut hL46 true [0, 1, 2, 3, 4, 5, 6] (qv6 rfl rfl rfl rfl rfl rfl) (by decide) rfl rfl
      ·replace h := cond_f h hg47
       refine still_y (wg 17 false 68 rfl rfl rfl rfl) rfl (y_fieldAddr_box (sz := 0) Try.runUnderlying51 rfl Try.sizeOf34 rfl) ?_
       refine still_y (wg 17 false 68 rfl rfl rfl rfl) rfl (y_load_box 2 Try.isAgg34 rfl rfl rfl) ?_
       refine still_y (wg 17 false 68 rfl rfl rfl rfl) rfl (y_move rfl) ?_
       obtain ⟨x48, hzx48, hlx48, hxx48, h⟩ := idx_some h
       refine still_y (wg 17 false 68 rfl rfl rfl rfl) rfl (y_indexAddrI (kd := .i64) (i := v_28) 3 Try.runUnderlying34 Try.sizeOf3 rfl rfl rfl reads_ro hzx48 (map_lt hlx48)) ?_
       refine still_y (wg 17 false 68 rfl rfl rfl rfl) rfl (y_load_elem (i := v_28.toNat) 3 Try.isAgg3 rfl rfl reads_ro (map_get hxx48)) ?_
       refine still_y (wg 17 false 68 rfl rfl rfl rfl) rfl (y_gtr rfl rfl) ?_
       refine sy rfl rfl (y_pick (b := false) rfl rfl) ?_
       refine still_nil ?_
       obtain rfl := some_eq h
       exact goes_cut hL46 (decide (1099511627776 < x48)) [0, 1, 2, 3, 4, 5, 6] (qv6 rfl rfl rfl rfl rfl rfl) (by decide) rfl rfl
     rintro b42 hj
     obtain rfl : o43 = _ := hj
     replace h := after_go ho44
     clear ho44
     refine sy rfl rfl (y_move rfl) ?_
     obtain ⟨o50, h, ho51⟩ := bindJ_some h
     refine still_cut 7 (Bool) (fun σ => [(1, .int .i64 from_1), (3, boxP b1 0), (5, boxP b2 0), (7, v23), (8, .int .i64 v_28), (83, .bool σ)]) (fun σ => [box b1 [.int .i64 n_0.Nodes, n_0_Arcsv], ro n_0_Arcsv 4 (n_0.Arcs.map S_api_Arc.enc), box b2 [r_2_Distv, r_2_Viav, r_2_Cyclev], ro r_2_Distv 1 (r_2.Dist.map (eInt .i64)), ro r_2_Viav 1 (r_2.Via.map (eInt .i64)), ro r_2_Cyclev 1 (r_2.Cycle.map (eInt .i64)), row v23 1 (r21.map eBool)]) (fun σ => o50 = .go σ) (fun L52 hL53 => ?_) ?_
     ·refine still_split 76 b42 rfl (fun hg54 => ?_) (fun hg54 => ?_)
      ·replace h := cond_t h hg54
       refine still_no 25 false 76 rfl rfl rfl rfl rfl ?_
       refine still_no 25 false 76 rfl rfl rfl rfl rfl ?_
       refine still_no 25 false 76 rfl rfl rfl rfl rfl ?_
       refine still_no 25 false 76 rfl rfl rfl rfl rfl ?_
       refine still_no 25 false 76 rfl rfl rfl rfl rfl ?_
       refine still_no 25 false 76 rfl rfl rfl rfl rfl ?_
       refine sy rfl rfl (y_pick (b := true) rfl rfl) ?_
       refine still_nil ?_
       obtain rfl := some_eq h
       exact goes_cut hL53 true [0, 1, 2, 3, 4, 5, 6] (qv6 rfl rfl rfl rfl rfl rfl) (by decide) rfl rfl
      ·replace h := cond_f h hg54
       refine still_y (wg 25 false 76 rfl rfl rfl rfl) rfl (y_fieldAddr_box (sz := 0) Try.runUnderlying51 rfl Try.sizeOf34 rfl) ?_
       refine still_y (wg 25 false 76 rfl rfl rfl rfl) rfl (y_load_box 2 Try.isAgg34 rfl rfl rfl) ?_
       refine still_y (wg 25 false 76 rfl rfl rfl rfl) rfl (y_move rfl) ?_
       obtain ⟨x55, hzx55, hlx55, hxx55, h⟩ := idx_some h
       refine still_y (wg 25 false 76 rfl rfl rfl rfl) rfl (y_indexAddrI (kd := .i64) (i := v_28) 3 Try.runUnderlying34 Try.sizeOf3 rfl rfl rfl reads_ro hzx55 (map_lt hlx55)) ?_
       refine still_y (wg 25 false 76 rfl rfl rfl rfl) rfl (y_load_elem (i := v_28.toNat) 3 Try.isAgg3 rfl rfl reads_ro (map_get hxx55)) ?_
       refine still_y (wg 25 false 76 rfl rfl rfl rfl) rfl (y_lss rfl rfl) ?_
       refine sy rfl rfl (y_pick (b := false) rfl rfl) ?_
       refine still_nil ?_
       obtain rfl := some_eq h
       exact goes_cut hL53 (decide (x55 < (-1099511627776))) [0, 1, 2, 3, 4, 5, 6] (qv6 rfl rfl rfl rfl rfl rfl) (by decide) rfl rfl
     rintro b49 hj
     obtain rfl : o50 = _ := hj
     replace h := after_go ho51
     clear ho51
     refine still_nil ?_
     refine goes_code ?_
     refine run_cond b49 rfl (fun hc56 => ?_) (fun hc56 => ?_)
     ·replace h := cond_t h hc56
      refine run_seq ?_
      refine run_region' ?_
      refine oy rfl rfl (y_assign rfl) ?_
      refine ops_nil ?_
      refine goes_code ?_
      refine run_ret ?_
      obtain rfl := some_eq h
      obtain rfl := after_stop ho35
      skip
      obtain rfl := hstop31 _ rfl
      skip
      obtain rfl := after_stop ho25
      refine fin_slots [6] [.bool false] [] [] Try.results53 rfl (by decide) rfl ?_
      exact ⟨rfl, rfl⟩
     ·replace h := cond_f h hc56
      refine run_skip ?_
      refine goes_code ?_
      refine run_seq ?_
      refine run_seq ?_
      refine run_region' ?_
      refine oy rfl rfl (y_move rfl) ?_
      refine oy rfl rfl (y_move rfl) ?_
      refine oy rfl rfl (y_eql rfl rfl) ?_
      refine ops_nil ?_
      refine goes_code ?_
      refine run_cond (decide (v_28 = from_1)) rfl (fun hc57 => ?_) (fun hc57 => ?_)
      ·replace h := cond_t h hc57
       refine run_exit _ rfl ?_
       obtain rfl := some_eq h
       exact goes_cut hL36 ((), ()) [0, 1, 2, 3, 4, 5, 6] (qv5 rfl rfl rfl rfl rfl) (by decide) rfl rfl
      ·replace h := cond_f h hc57
       refine run_skip ?_
       refine goes_code ?_
       refine run_seq ?_
       refine run_seq ?_
       refine run_draw (by kernel_rfl) (by kernel_rfl) ?_
       refine sy rfl rfl (y_fieldAddr_box (sz := 0) Try.runUnderlying51 rfl Try.sizeOf34 rfl) ?_
       refine sy rfl rfl (y_load_box 2 Try.isAgg34 rfl rfl rfl) ?_
       refine sy rfl rfl (y_move rfl) ?_
       obtain ⟨x58, hzx58, hlx58, hxx58, h⟩ := idx_some h
       refine sy rfl rfl (y_indexAddrI (kd := .i64) (i := v_28) 4 Try.runUnderlying34 Try.sizeOf3 rfl rfl rfl reads_ro hzx58 (map_lt hlx58)) ?_
       refine sy rfl rfl (y_load_elem (i := v_28.toNat) 4 Try.isAgg3 rfl rfl reads_ro (map_get hxx58)) ?_
       refine sy rfl rfl (y_eql rfl rfl) ?_
       refine sy rfl rfl (y_move rfl) ?_
       refine sy rfl rfl (y_move rfl) ?_
       obtain ⟨x59, hzx59, hlx59, hxx59, h⟩ := idx_some h
       refine sy rfl rfl (y_indexAddrI (kd := .i64) (i := v_28) 6 Try.runUnderlying27 Try.sizeOf4 rfl rfl rfl reads_row hzx59 (map_lt hlx59)) ?_
       refine sy rfl rfl (y_load_elem (i := v_28.toNat) 6 Try.isAgg4 rfl rfl reads_row (map_get hxx59)) ?_
       refine sy rfl rfl (y_not rfl) ?_
       refine sy rfl rfl (y_bneq Try.runUnderlying4 rfl rfl) ?_
       refine sy rfl rfl (y_move rfl) ?_
       obtain ⟨o61, h, ho62⟩ := bindJ_some h
       refine still_cut 15 (Bool) (fun σ => [(1, .int .i64 from_1), (3, boxP b1 0), (5, boxP b2 0), (7, v23), (8, .int .i64 v_28), (114, .bool σ)]) (fun σ => [box b1 [.int .i64 n_0.Nodes, n_0_Arcsv], ro n_0_Arcsv 4 (n_0.Arcs.map S_api_Arc.enc), box b2 [r_2_Distv, r_2_Viav, r_2_Cyclev], ro r_2_Distv 1 (r_2.Dist.map (eInt .i64)), ro r_2_Viav 1 (r_2.Via.map (eInt .i64)), ro r_2_Cyclev 1 (r_2.Cycle.map (eInt .i64)), row v23 1 (r21.map eBool)]) (fun σ => o61 = .go σ) (fun L63 hL64 => ?_) ?_
       ·refine still_split 99 (!((decide (x58 = (-1))) == (!x59))) rfl (fun hg65 => ?_) (fun hg65 => ?_)
        ·replace h := cond_t h hg65
         refine still_no 12 false 99 rfl rfl rfl rfl rfl ?_
         refine still_no 12 false 99 rfl rfl rfl rfl rfl ?_
         refine still_no 12 false 99 rfl rfl rfl rfl rfl ?_
         refine still_no 12 false 99 rfl rfl rfl rfl rfl ?_
         refine still_no 12 false 99 rfl rfl rfl rfl rfl ?_
         refine still_no 12 false 99 rfl rfl rfl rfl rfl ?_
         refine still_no 12 false 99 rfl rfl rfl rfl rfl ?_
         refine still_un 19 true 106 rfl rfl rfl rfl rfl ?_
         refine still_un 19 true 106 rfl rfl rfl rfl rfl ?_
         refine still_un 19 true 106 rfl rfl rfl rfl rfl ?_
         refine still_un 19 true 106 rfl rfl rfl rfl rfl ?_
         refine still_un 19 true 106 rfl rfl rfl rfl rfl ?_
         refine still_un 19 true 106 rfl rfl rfl rfl rfl ?_
         refine still_no 12 false 99 rfl rfl rfl rfl rfl ?_
         refine sy rfl rfl (y_pick (b := true) rfl rfl) ?_
         refine still_nil ?_
         obtain rfl := some_eq h
         exact goes_cut hL64 true [0, 1, 2, 3, 4, 5, 6] (qv6 rfl rfl rfl rfl rfl rfl) (by decide) rfl rfl
        ·replace h := cond_f h hg65
         refine still_y (wg 12 false 99 rfl rfl rfl rfl) rfl (y_fieldAddr_box (sz := 0) Try.runUnderlying51 rfl Try.sizeOf34 rfl) ?_
         refine still_y (wg 12 false 99 rfl rfl rfl rfl) rfl (y_load_box 2 Try.isAgg34 rfl rfl rfl) ?_
         refine still_y (wg 12 false 99 rfl rfl rfl rfl) rfl (y_move rfl) ?_
         refine still_y (wg 12 false 99 rfl rfl rfl rfl) rfl (y_indexAddrI (kd := .i64) (i := v_28) 4 Try.runUnderlying34 Try.sizeOf3 rfl rfl rfl reads_ro hzx58 (map_lt hlx58)) ?_
         refine still_y (wg 12 false 99 rfl rfl rfl rfl) rfl (y_load_elem (i := v_28.toNat) 4 Try.isAgg3 rfl rfl reads_ro (map_get hxx58)) ?_
         refine still_y (wg 12 false 99 rfl rfl rfl rfl) rfl (y_eql rfl rfl) ?_
         refine still_y (wg 12 false 99 rfl rfl rfl rfl) rfl (y_move rfl) ?_
         obtain ⟨o67, h, ho68⟩ := bindJ_some h
         refine still_cut 7 (Bool) (fun σ => [(1, .int .i64 from_1), (3, boxP b1 0), (5, boxP b2 0), (7, v23), (8, .int .i64 v_28), (99, .bool false), (113, .bool σ)]) (fun σ => [box b1 [.int .i64 n_0.Nodes, n_0_Arcsv], ro n_0_Arcsv 4 (n_0.Arcs.map S_api_Arc.enc), box b2 [r_2_Distv, r_2_Viav, r_2_Cyclev], ro r_2_Distv 1 (r_2.Dist.map (eInt .i64)), ro r_2_Viav 1 (r_2.Via.map (eInt .i64)), ro r_2_Cyclev 1 (r_2.Cycle.map (eInt .i64)), row v23 1 (r21.map eBool)]) (fun σ => o67 = .go σ) (fun L69 hL70 => ?_) ?_
         ·refine still_split 106 (decide (x58 = (-1))) rfl (fun hg71 => ?_) (fun hg71 => ?_)
          ·replace h := cond_t h hg71
           refine still_y (wg 19 true 106 rfl rfl rfl rfl) rfl (y_fieldAddr_box (sz := 0) Try.runUnderlying51 rfl Try.sizeOf34 rfl) ?_
           refine still_y (wg 19 true 106 rfl rfl rfl rfl) rfl (y_load_box 2 Try.isAgg34 rfl rfl rfl) ?_
           refine still_y (wg 19 true 106 rfl rfl rfl rfl) rfl (y_move rfl) ?_
           obtain ⟨x72, hzx72, hlx72, hxx72, h⟩ := idx_some h
           refine still_y (wg 19 true 106 rfl rfl rfl rfl) rfl (y_indexAddrI (kd := .i64) (i := v_28) 3 Try.runUnderlying34 Try.sizeOf3 rfl rfl rfl reads_ro hzx72 (map_lt hlx72)) ?_
           refine still_y (wg 19 true 106 rfl rfl rfl rfl) rfl (y_load_elem (i := v_28.toNat) 3 Try.isAgg3 rfl rfl reads_ro (map_get hxx72)) ?_
           refine still_y (wg 19 true 106 rfl rfl rfl rfl) rfl (y_neq rfl rfl) ?_
           refine still_y (wg 12 false 99 rfl rfl rfl rfl) rfl (y_pick (b := true) rfl rfl) ?_
           refine still_nil ?_
           obtain rfl := some_eq h
           exact goes_cut hL70 (decide (x72 ≠ 0)) [0, 1, 2, 3, 4, 5, 6] (qv7 rfl rfl rfl rfl rfl rfl rfl) (by decide) rfl rfl
          ·replace h := cond_f h hg71
           refine still_no 19 true 106 rfl rfl rfl rfl rfl ?_
           refine still_no 19 true 106 rfl rfl rfl rfl rfl ?_
           refine still_no 19 true 106 rfl rfl rfl rfl rfl ?_
           refine still_no 19 true 106 rfl rfl rfl rfl rfl ?_
           refine still_no 19 true 106 rfl rfl rfl rfl rfl ?_
           refine still_no 19 true 106 rfl rfl rfl rfl rfl ?_
           refine still_y (wg 12 false 99 rfl rfl rfl rfl) rfl (y_pick (b := false) rfl rfl) ?_
           refine still_nil ?_
           obtain rfl := some_eq h
           exact goes_cut hL70 false [0, 1, 2, 3, 4, 5, 6] (qv7 rfl rfl rfl rfl rfl rfl rfl) (by decide) rfl rfl
         rintro b66 hj
         obtain rfl : o67 = _ := hj
         replace h := after_go ho68
         clear ho68
         refine sy rfl rfl (y_pick (b := false) rfl rfl) ?_
         refine still_nil ?_
         obtain rfl := some_eq h
         exact goes_cut hL64 b66 [0, 1, 2, 3, 4, 5, 6] (qv6 rfl rfl rfl rfl rfl rfl) (by decide) rfl rfl
       rintro b60 hj
       obtain rfl : o61 = _ := hj
       replace h := after_go ho62
       clear ho62
       refine still_nil ?_
       refine goes_code ?_
       refine run_cond b60 rfl (fun hc73 => ?_) (fun hc73 => ?_)
       ·replace h := cond_t h hc73
        refine run_seq ?_
        refine run_region' ?_
        refine oy rfl rfl (y_assign rfl) ?_
        refine ops_nil ?_
        refine goes_code ?_
        refine run_ret ?_
        obtain rfl := some_eq h
        obtain rfl := after_stop ho35
        skip
        obtain rfl := hstop31 _ rfl
        skip
        obtain rfl := after_stop ho25
        refine fin_slots [6] [.bool false] [] [] Try.results53 rfl (by decide) rfl ?_
        exact ⟨rfl, rfl⟩
       ·replace h := cond_f h hc73
        refine run_skip ?_
        refine goes_code ?_
        refine run_seq ?_
        refine run_draw (by kernel_rfl) (by kernel_rfl) ?_
        refine sy rfl rfl (y_fieldAddr_box (sz := 0) Try.runUnderlying51 rfl Try.sizeOf34 rfl) ?_
        refine sy rfl rfl (y_load_box 2 Try.isAgg34 rfl rfl rfl) ?_
        refine sy rfl rfl (y_move rfl) ?_
        obtain ⟨x74, hzx74, hlx74, hxx74, h⟩ := idx_some h
        refine sy rfl rfl (y_indexAddrI (kd := .i64) (i := v_28) 4 Try.runUnderlying34 Try.sizeOf3 rfl rfl rfl reads_ro hzx74 (map_lt hlx74)) ?_
        refine sy rfl rfl (y_load_elem (i := v_28.toNat) 4 Try.isAgg3 rfl rfl reads_ro (map_get hxx74)) ?_
        refine sy rfl rfl (y_geq rfl rfl) ?_
        refine sy rfl rfl (y_move rfl) ?_
        obtain ⟨o76, h, ho77⟩ := bindJ_some h
        refine still_cut 46 (Bool) (fun σ => [(1, .int .i64 from_1), (3, boxP b1 0), (5, boxP b2 0), (7, v23), (8, .int .i64 v_28), (167, .bool σ)]) (fun σ => [box b1 [.int .i64 n_0.Nodes, n_0_Arcsv], ro n_0_Arcsv 4 (n_0.Arcs.map S_api_Arc.enc), box b2 [r_2_Distv, r_2_Viav, r_2_Cyclev], ro r_2_Distv 1 (r_2.Dist.map (eInt .i64)), ro r_2_Viav 1 (r_2.Via.map (eInt .i64)), ro r_2_Cyclev 1 (r_2.Cycle.map (eInt .i64)), row v23 1 (r21.map eBool)]) (fun σ => o76 = .go σ) (fun L78 hL79 => ?_) ?_
        ·refine still_split 121 (decide (0 ≤ x74)) rfl (fun hg80 => ?_) (fun hg80 => ?_)
         ·replace h := cond_t h hg80
          refine still_y (wg 6 true 121 rfl rfl rfl rfl) rfl (y_fieldAddr_box (sz := 0) Try.runUnderlying24 rfl Try.sizeOf22 rfl) ?_
          refine still_y (wg 6 true 121 rfl rfl rfl rfl) rfl (y_load_box 0 Try.isAgg22 rfl rfl rfl) ?_
          refine still_y (wg 6 true 121 rfl rfl rfl rfl) rfl (y_fieldAddr_box (sz := 0) Try.runUnderlying51 rfl Try.sizeOf34 rfl) ?_
          refine still_y (wg 6 true 121 rfl rfl rfl rfl) rfl (y_load_box 2 Try.isAgg34 rfl rfl rfl) ?_
          refine still_y (wg 6 true 121 rfl rfl rfl rfl) rfl (y_move rfl) ?_
          refine still_y (wg 6 true 121 rfl rfl rfl rfl) rfl (y_indexAddrI (kd := .i64) (i := v_28) 4 Try.runUnderlying34 Try.sizeOf3 rfl rfl rfl reads_ro hzx74 (map_lt hlx74)) ?_
          refine still_y (wg 6 true 121 rfl rfl rfl rfl) rfl (y_load_elem (i := v_28.toNat) 4 Try.isAgg3 rfl rfl reads_ro (map_get hxx74)) ?_
          obtain ⟨x81, hzx81, hlx81, hxx81, h⟩ := idx_some h
          refine still_y (wg 6 true 121 rfl rfl rfl rfl) rfl (y_indexAddrI (kd := .i64) (i := x74) 1 Try.runUnderlying22 Try.sizeOf67 rfl rfl rfl reads_ro hzx81 (map_lt hlx81)) ?_
          refine still_y (wg 6 true 121 rfl rfl rfl rfl) rfl (y_fieldAddr_elem (sz := 0) Try.runUnderlying67 rfl Try.sizeOf3 rfl) ?_
          refine still_y (wg 6 true 121 rfl rfl rfl rfl) rfl (y_load_field (i := x74.toNat) (j := 1) 1 Try.isAgg3 rfl rfl reads_ro (map_get hxx81) rfl) ?_
          refine still_y (wg 6 true 121 rfl rfl rfl rfl) rfl (y_move rfl) ?_
          refine still_y (wg 6 true 121 rfl rfl rfl rfl) rfl (y_neq rfl rfl) ?_
          refine still_y (wg 6 true 121 rfl rfl rfl rfl) rfl (y_move rfl) ?_
          obtain ⟨o83, h, ho84⟩ := bindJ_some h
          refine still_cut 32 (Bool) (fun σ => [(1, .int .i64 from_1), (3, boxP b1 0), (5, boxP b2 0), (7, v23), (8, .int .i64 v_28), (121, .bool true), (166, .bool σ)]) (fun σ => [box b1 [.int .i64 n_0.Nodes, n_0_Arcsv], ro n_0_Arcsv 4 (n_0.Arcs.map S_api_Arc.enc), box b2 [r_2_Distv, r_2_Viav, r_2_Cyclev], ro r_2_Distv 1 (r_2.Dist.map (eInt .i64)), ro r_2_Viav 1 (r_2.Via.map (eInt .i64)), ro r_2_Cyclev 1 (r_2.Cycle.map (eInt .i64)), row v23 1 (r21.map eBool)]) (fun σ => o83 = .go σ) (fun L85 hL86 => ?_) ?_
          ·refine still_split 134 (decide (x81.To ≠ v_28)) rfl (fun hg87 => ?_) (fun hg87 => ?_)
           ·replace h := cond_t h hg87
            refine still_no 19 false 134 rfl rfl rfl rfl rfl ?_
            refine still_no 19 false 134 rfl rfl rfl rfl rfl ?_
            refine still_no 19 false 134 rfl rfl rfl rfl rfl ?_
            refine still_no 19 false 134 rfl rfl rfl rfl rfl ?_
            refine still_no 19 false 134 rfl rfl rfl rfl rfl ?_
            refine still_no 19 false 134 rfl rfl rfl rfl rfl ?_
            refine still_no 19 false 134 rfl rfl rfl rfl rfl ?_
            refine still_no 19 false 134 rfl rfl rfl rfl rfl ?_
            refine still_no 19 false 134 rfl rfl rfl rfl rfl ?_
            refine still_no 19 false 134 rfl rfl rfl rfl rfl ?_
            refine still_no 19 false 134 rfl rfl rfl rfl rfl ?_
            refine still_no 19 false 134 rfl rfl rfl rfl rfl ?_
            refine still_no 19 false 134 rfl rfl rfl rfl rfl ?_
            refine still_no 19 false 134 rfl rfl rfl rfl rfl ?_
            refine still_no 19 false 134 rfl rfl rfl rfl rfl ?_
            refine still_no 19 false 134 rfl rfl rfl rfl rfl ?_
            refine still_no 19 false 134 rfl rfl rfl rfl rfl ?_
            refine still_no 19 false 134 rfl rfl rfl rfl rfl ?_
            refine still_no 19 false 134 rfl rfl rfl rfl rfl ?_
            refine still_no 19 false 134 rfl rfl rfl rfl rfl ?_
            refine still_no 19 false 134 rfl rfl rfl rfl rfl ?_
            refine still_no 19 false 134 rfl rfl rfl rfl rfl ?_
            refine still_no 19 false 134 rfl rfl rfl rfl rfl ?_
            refine still_no 19 false 134 rfl rfl rfl rfl rfl ?_
            refine still_no 19 false 134 rfl rfl rfl rfl rfl ?_
            refine still_no 19 false 134 rfl rfl rfl rfl rfl ?_
            refine still_no 19 false 134 rfl rfl rfl rfl rfl ?_
            refine still_no 19 false 134 rfl rfl rfl rfl rfl ?_
            refine still_no 19 false 134 rfl rfl rfl rfl rfl ?_
            refine still_no 19 false 134 rfl rfl rfl rfl rfl ?_
            refine still_no 19 false 134 rfl rfl rfl rfl rfl ?_
            refine still_y (wg 6 true 121 rfl rfl rfl rfl) rfl (y_pick (b := true) rfl rfl) ?_
            refine still_nil ?_
            obtain rfl := some_eq h
            exact goes_cut hL86 true [0, 1, 2, 3, 4, 5, 6] (qv7 rfl rfl rfl rfl rfl rfl rfl) (by decide) rfl rfl
           ·replace h := cond_f h hg87
            refine still_y (wg 19 false 134 rfl rfl rfl rfl) rfl (y_fieldAddr_box (sz := 0) Try.runUnderlying51 rfl Try.sizeOf34 rfl) ?_
            refine still_y (wg 19 false 134 rfl rfl rfl rfl) rfl (y_load_box 2 Try.isAgg34 rfl rfl rfl) ?_
            refine still_y (wg 19 false 134 rfl rfl rfl rfl) rfl (y_move rfl) ?_
            obtain ⟨x88, hzx88, hlx88, hxx88, h⟩ := idx_some h
            refine still_y (wg 19 false 134 rfl rfl rfl rfl) rfl (y_indexAddrI (kd := .i64) (i := v_28) 3 Try.runUnderlying34 Try.sizeOf3 rfl rfl rfl reads_ro hzx88 (map_lt hlx88)) ?_
            refine still_y (wg 19 false 134 rfl rfl rfl rfl) rfl (y_load_elem (i := v_28.toNat) 3 Try.isAgg3 rfl rfl reads_ro (map_get hxx88)) ?_
            refine still_y (wg 19 false 134 rfl rfl rfl rfl) rfl (y_fieldAddr_box (sz := 0) Try.runUnderlying24 rfl Try.sizeOf22 rfl) ?_
            refine still_y (wg 19 false 134 rfl rfl rfl rfl) rfl (y_load_box 0 Try.isAgg22 rfl rfl rfl) ?_
            refine still_y (wg 19 false 134 rfl rfl rfl rfl) rfl (y_fieldAddr_box (sz := 0) Try.runUnderlying51 rfl Try.sizeOf34 rfl) ?_
            refine still_y (wg 19 false 134 rfl rfl rfl rfl) rfl (y_load_box 2 Try.isAgg34 rfl rfl rfl) ?_
            refine still_y (wg 19 false 134 rfl rfl rfl rfl) rfl (y_move rfl) ?_
            refine still_y (wg 19 false 134 rfl rfl rfl rfl) rfl (y_indexAddrI (kd := .i64) (i := v_28) 4 Try.runUnderlying34 Try.sizeOf3 rfl rfl rfl reads_ro hzx74 (map_lt hlx74)) ?_
            refine still_y (wg 19 false 134 rfl rfl rfl rfl) rfl (y_load_elem (i := v_28.toNat) 4 Try.isAgg3 rfl rfl reads_ro (map_get hxx74)) ?_
            refine still_y (wg 19 false 134 rfl rfl rfl rfl) rfl (y_indexAddrI (kd := .i64) (i := x74) 1 Try.runUnderlying22 Try.sizeOf67 rfl rfl rfl reads_ro hzx81 (map_lt hlx81)) ?_
            refine still_y (wg 19 false 134 rfl rfl rfl rfl) rfl (y_fieldAddr_elem (sz := 0) Try.runUnderlying67 rfl Try.sizeOf3 rfl) ?_
            refine still_y (wg 19 false 134 rfl rfl rfl rfl) rfl (y_load_field (i := x74.toNat) (j := 3) 1 Try.isAgg3 rfl rfl reads_ro (map_get hxx81) rfl) ?_
            refine still_y (wg 19 false 134 rfl rfl rfl rfl) rfl (y_sub rfl rfl) ?_
            refine still_y (wg 19 false 134 rfl rfl rfl rfl) rfl (y_fieldAddr_box (sz := 0) Try.runUnderlying51 rfl Try.sizeOf34 rfl) ?_
            refine still_y (wg 19 false 134 rfl rfl rfl rfl) rfl (y_load_box 2 Try.isAgg34 rfl rfl rfl) ?_
            refine still_y (wg 19 false 134 rfl rfl rfl rfl) rfl (y_fieldAddr_box (sz := 0) Try.runUnderlying24 rfl Try.sizeOf22 rfl) ?_
            refine still_y (wg 19 false 134 rfl rfl rfl rfl) rfl (y_load_box 0 Try.isAgg22 rfl rfl rfl) ?_
            refine still_y (wg 19 false 134 rfl rfl rfl rfl) rfl (y_fieldAddr_box (sz := 0) Try.runUnderlying51 rfl Try.sizeOf34 rfl) ?_
            refine still_y (wg 19 false 134 rfl rfl rfl rfl) rfl (y_load_box 2 Try.isAgg34 rfl rfl rfl) ?_
            refine still_y (wg 19 false 134 rfl rfl rfl rfl) rfl (y_move rfl) ?_
            refine still_y (wg 19 false 134 rfl rfl rfl rfl) rfl (y_indexAddrI (kd := .i64) (i := v_28) 4 Try.runUnderlying34 Try.sizeOf3 rfl rfl rfl reads_ro hzx74 (map_lt hlx74)) ?_
            refine still_y (wg 19 false 134 rfl rfl rfl rfl) rfl (y_load_elem (i := v_28.toNat) 4 Try.isAgg3 rfl rfl reads_ro (map_get hxx74)) ?_
            refine still_y (wg 19 false 134 rfl rfl rfl rfl) rfl (y_indexAddrI (kd := .i64) (i := x74) 1 Try.runUnderlying22 Try.sizeOf67 rfl rfl rfl reads_ro hzx81 (map_lt hlx81)) ?_
            refine still_y (wg 19 false 134 rfl rfl rfl rfl) rfl (y_fieldAddr_elem (sz := 0) Try.runUnderlying67 rfl Try.sizeOf3 rfl) ?_
            refine still_y (wg 19 false 134 rfl rfl rfl rfl) rfl (y_load_field (i := x74.toNat) (j := 0) 1 Try.isAgg3 rfl rfl reads_ro (map_get hxx81) rfl) ?_
            obtain ⟨x89, hzx89, hlx89, hxx89, h⟩ := idx_some h
            refine still_y (wg 19 false 134 rfl rfl rfl rfl) rfl (y_indexAddrI (kd := .i64) (i := x81.From) 3 Try.runUnderlying34 Try.sizeOf3 rfl rfl rfl reads_ro hzx89 (map_lt hlx89)) ?_
            refine still_y (wg 19 false 134 rfl rfl rfl rfl) rfl (y_load_elem (i := (x81.From).toNat) 3 Try.isAgg3 rfl rfl reads_ro (map_get hxx89)) ?_
            refine still_y (wg 19 false 134 rfl rfl rfl rfl) rfl (y_neq rfl rfl) ?_
            refine still_y (wg 6 true 121 rfl rfl rfl rfl) rfl (y_pick (b := false) rfl rfl) ?_
            refine still_nil ?_
            obtain rfl := some_eq h
            exact goes_cut hL86 (decide ((IntKind.i64.wrap (x88 - x81.Cost)) ≠ x89)) [0, 1, 2, 3, 4, 5, 6] (qv7 rfl rfl rfl rfl rfl rfl rfl) (by decide) rfl rfl
          rintro b82 hj
          obtain rfl : o83 = _ := hj
          replace h := after_go ho84
          clear ho84
          refine sy rfl rfl (y_pick (b := true) rfl rfl) ?_
          refine still_nil ?_
          obtain rfl := some_eq h
          exact goes_cut hL79 b82 [0, 1, 2, 3, 4, 5, 6] (qv6 rfl rfl rfl rfl rfl rfl) (by decide) rfl rfl
         ·replace h := cond_f h hg80
          refine still_no 6 true 121 rfl rfl rfl rfl rfl ?_
          refine still_no 6 true 121 rfl rfl rfl rfl rfl ?_
          refine still_no 6 true 121 rfl rfl rfl rfl rfl ?_
          refine still_no 6 true 121 rfl rfl rfl rfl rfl ?_
          refine still_no 6 true 121 rfl rfl rfl rfl rfl ?_
          refine still_no 6 true 121 rfl rfl rfl rfl rfl ?_
          refine still_no 6 true 121 rfl rfl rfl rfl rfl ?_
          refine still_no 6 true 121 rfl rfl rfl rfl rfl ?_
          refine still_no 6 true 121 rfl rfl rfl rfl rfl ?_
          refine still_no 6 true 121 rfl rfl rfl rfl rfl ?_
          refine still_no 6 true 121 rfl rfl rfl rfl rfl ?_
          refine still_no 6 true 121 rfl rfl rfl rfl rfl ?_
          refine still_no 6 true 121 rfl rfl rfl rfl rfl ?_
          refine still_un 19 false 134 rfl rfl rfl rfl rfl ?_
          refine still_un 19 false 134 rfl rfl rfl rfl rfl ?_
          refine still_un 19 false 134 rfl rfl rfl rfl rfl ?_
          refine still_un 19 false 134 rfl rfl rfl rfl rfl ?_
          refine still_un 19 false 134 rfl rfl rfl rfl rfl ?_
          refine still_un 19 false 134 rfl rfl rfl rfl rfl ?_
          refine still_un 19 false 134 rfl rfl rfl rfl rfl ?_
          refine still_un 19 false 134 rfl rfl rfl rfl rfl ?_
          refine still_un 19 false 134 rfl rfl rfl rfl rfl ?_
          refine still_un 19 false 134 rfl rfl rfl rfl rfl ?_
          refine still_un 19 false 134 rfl rfl rfl rfl rfl ?_
          refine still_un 19 false 134 rfl rfl rfl rfl rfl ?_
          refine still_un 19 false 134 rfl rfl rfl rfl rfl ?_
          refine still_un 19 false 134 rfl rfl rfl rfl rfl ?_
          refine still_un 19 false 134 rfl rfl rfl rfl rfl ?_
          refine still_un 19 false 134 rfl rfl rfl rfl rfl ?_
          refine still_un 19 false 134 rfl rfl rfl rfl rfl ?_
          refine still_un 19 false 134 rfl rfl rfl rfl rfl ?_
          refine still_un 19 false 134 rfl rfl rfl rfl rfl ?_
          refine still_un 19 false 134 rfl rfl rfl rfl rfl ?_
          refine still_un 19 false 134 rfl rfl rfl rfl rfl ?_
          refine still_un 19 false 134 rfl rfl rfl rfl rfl ?_
          refine still_un 19 false 134 rfl rfl rfl rfl rfl ?_
          refine still_un 19 false 134 rfl rfl rfl rfl rfl ?_
          refine still_un 19 false 134 rfl rfl rfl rfl rfl ?_
          refine still_un 19 false 134 rfl rfl rfl rfl rfl ?_
          refine still_un 19 false 134 rfl rfl rfl rfl rfl ?_
          refine still_un 19 false 134 rfl rfl rfl rfl rfl ?_
          refine still_un 19 false 134 rfl rfl rfl rfl rfl ?_
          refine still_un 19 false 134 rfl rfl rfl rfl rfl ?_
          refine still_un 19 false 134 rfl rfl rfl rfl rfl ?_
          refine still_no 6 true 121 rfl rfl rfl rfl rfl ?_
          refine sy rfl rfl (y_pick (b := false) rfl rfl) ?_
          refine still_nil ?_
          obtain rfl := some_eq h
          exact goes_cut hL79 false [0, 1, 2, 3, 4, 5, 6] (qv6 rfl rfl rfl rfl rfl rfl) (by decide) rfl rfl
        rintro b75 hj
        obtain rfl : o76 = _ := hj
        replace h := after_go ho77
        clear ho77
        refine still_nil ?_
        refine goes_code ?_
        refine run_cond b75 rfl (fun hc90 => ?_) (fun hc90 => ?_)
        ·replace h := cond_t h hc90
         refine run_seq ?_
         refine run_region' ?_
         refine oy rfl rfl (y_assign rfl) ?_
         refine ops_nil ?_
         refine goes_code ?_
         refine run_ret ?_
         obtain rfl := some_eq h
         obtain rfl := after_stop ho35
         skip
         obtain rfl := hstop31 _ rfl
         skip
         obtain rfl := after_stop ho25
         refine fin_slots [6] [.bool false] [] [] Try.results53 rfl (by decide) rfl ?_
         exact ⟨rfl, rfl⟩
        ·replace h := cond_f h hc90
         refine run_skip ?_
         refine goes_blk ?_
         obtain rfl := some_eq h
         exact goes_cut hL36 ((), ()) [0, 1, 2, 3, 4, 5, 6] (qv5 rfl rfl rfl rfl rfl) (by decide) rfl rfl
    rintro ⟨_, _⟩ hj
    obtain rfl : o34 = _ := hj
    replace h := after_go ho35
    clear ho35
    change Run _ _ _ (VF.of [(1, .int .i64 from_1), (3, boxP b1 0), (5, boxP b2 0), (7, v23), (8, .int .i64 v_28)]) [box b1 [.int .i64 n_0.Nodes, n_0_Arcsv], ro n_0_Arcsv 4 (n_0.Arcs.map S_api_Arc.enc), box b2 [r_2_Distv, r_2_Viav, r_2_Cyclev], ro r_2_Distv 1 (r_2.Dist.map (eInt .i64)), ro r_2_Viav 1 (r_2.Via.map (eInt .i64)), ro r_2_Cyclev 1 (r_2.Cycle.map (eInt .i64)), row v23 1 (r21.map eBool)]
    refine run_region' ?_
    refine oy rfl rfl (y_move rfl) ?_
    refine oy rfl rfl (y_add rfl rfl) ?_
    refine oy rfl rfl (y_assign rfl) ?_
    refine ops_nil ?_
    obtain rfl := some_eq h
    exact goes_iter hgo30 (IntKind.i64.wrap (v_28 + 1)) () [0, 1, 2, 3, 4, 5, 6] rfl (qv5 rfl rfl rfl rfl rfl) (by decide) rfl
   ·replace h := cond_f h hc33
    refine run_exit _ rfl ?_
    obtain rfl := some_eq h
    obtain rfl := hstop31 _ rfl
    exact goes_cut hL26 ((), ()) [0, 1, 2, 3, 4, 5, 6] (qv4 rfl rfl rfl rfl) (by decide) rfl rfl
  rintro ⟨_, _⟩ hj
  obtain rfl : o24 = _ := hj
  replace h := after_go ho25
  clear ho25
  change Run _ _ _ (VF.of [(1, .int .i64 from_1), (3, boxP b1 0), (5, boxP b2 0), (7, v23)]) [box b1 [.int .i64 n_0.Nodes, n_0_Arcsv], ro n_0_Arcsv 4 (n_0.Arcs.map S_api_Arc.enc), box b2 [r_2_Distv, r_2_Viav, r_2_Cyclev], ro r_2_Distv 1 (r_2.Dist.map (eInt .i64)), ro r_2_Viav 1 (r_2.Via.map (eInt .i64)), ro r_2_Cyclev 1 (r_2.Cycle.map (eInt .i64)), row v23 1 (r21.map eBool)]
  obtain ⟨o91, h, ho92⟩ := bindJ_some h
  refine run_cut ((Unit) × (Unit)) (fun σ => [(3, boxP b1 0), (5, boxP b2 0), (7, v23)]) (fun σ => [box b1 [.int .i64 n_0.Nodes, n_0_Arcsv], ro n_0_Arcsv 4 (n_0.Arcs.map S_api_Arc.enc), box b2 [r_2_Distv, r_2_Viav, r_2_Cyclev], ro r_2_Distv 1 (r_2.Dist.map (eInt .i64)), ro r_2_Viav 1 (r_2.Via.map (eInt .i64)), ro r_2_Cyclev 1 (r_2.Cycle.map (eInt .i64)), row v23 1 (r21.map eBool)]) (fun σ => o91 = .go σ.1) (fun L94 hL93 => ?_) ?_
  ·
   refine run_seq ?_
   refine run_region' ?_
   refine oy rfl rfl (y_assign rfl) ?_
   refine ops_nil ?_
   refine goes_code ?_
   refine run_block ?_
   refine run_iter (step := ref09_tree_L2 n n_0 from_1 r_2 r21) (n := n) (s0 := 0) h (G := Unit) () (fun σ γ => [(1, .int .i64 from_1), (3, boxP b1 0), (5, boxP b2 0), (7, v23), (9, .int .i64 σ)]) (fun σ γ => [box b1 [.int .i64 n_0.Nodes, n_0_Arcsv], ro n_0_Arcsv 4 (n_0.Arcs.map S_api_Arc.enc), box b2 [r_2_Distv, r_2_Viav, r_2_Cyclev], ro r_2_Distv 1 (r_2.Dist.map (eInt .i64)), ro r_2_Viav 1 (r_2.Via.map (eInt .i64)), ro r_2_Cyclev 1 (r_2.Cycle.map (eInt .i64)), row v23 1 (r21.map eBool)]) [0, 1, 2, 3, 4, 5, 6] (qv5 rfl rfl rfl rfl rfl) (by decide) rfl ?_
   rintro v_95 _ o96 h L99 hgo97 hstop98
   change Run _ _ _ (VF.of [(1, .int .i64 from_1), (3, boxP b1 0), (5, boxP b2 0), (7, v23), (9, .int .i64 v_95)]) [box b1 [.int .i64 n_0.Nodes, n_0_Arcsv], ro n_0_Arcsv 4 (n_0.Arcs.map S_api_Arc.enc), box b2 [r_2_Distv, r_2_Viav, r_2_Cyclev], ro r_2_Distv 1 (r_2.Dist.map (eInt .i64)), ro r_2_Viav 1 (r_2.Via.map (eInt .i64)), ro r_2_Cyclev 1 (r_2.Cycle.map (eInt .i64)), row v23 1 (r21.map eBool)]
   refine run_seq ?_
   refine run_seq ?_
   refine run_region' ?_
   refine oy rfl rfl (y_move rfl) ?_
   refine oy rfl rfl (y_fieldAddr_box (sz := 0) Try.runUnderlying24 rfl Try.sizeOf3 rfl) ?_
   refine oy rfl rfl (y_load_box 0 Try.isAgg3 rfl rfl rfl) ?_
   refine oy rfl rfl (y_lss rfl rfl) ?_
   refine ops_nil ?_
   refine goes_code ?_
   refine run_cond (decide (v_95 < n_0.Nodes)) rfl (fun hc100 => ?_) (fun hc100 => ?_)
   ·replace h := cond_t h hc100
    refine run_skip ?_
    refine goes_code ?_
    refine run_seq ?_
    refine run_block ?_
    refine run_seq ?_
    refine run_region' ?_
    refine oy rfl rfl (y_move rfl) ?_
    refine oy rfl rfl (y_move rfl) ?_
    obtain ⟨x101, hzx101, hlx101, hxx101, h⟩ := idx_some h
    refine oy rfl rfl (y_indexAddrI (kd := .i64) (i := v_95) 6 Try.runUnderlying27 Try.sizeOf4 rfl rfl rfl reads_row hzx101 (map_lt hlx101)) ?_
    refine oy rfl rfl (y_load_elem (i := v_95.toNat) 6 Try.isAgg4 rfl rfl reads_row (map_get hxx101)) ?_
    refine oy rfl rfl (y_move rfl) ?_
    obtain ⟨o103, h, ho104⟩ := bindJ_some h
    refine ops_cut 8 (Bool) (fun σ => [(1, .int .i64 from_1), (3, boxP b1 0), (5, boxP b2 0), (7, v23), (9, .int .i64 v_95), (186, .bool σ)]) (fun σ => [box b1 [.int .i64 n_0.Nodes, n_0_Arcsv], ro n_0_Arcsv 4 (n_0.Arcs.map S_api_Arc.enc), box b2 [r_2_Distv, r_2_Viav, r_2_Cyclev], ro r_2_Distv 1 (r_2.Dist.map (eInt .i64)), ro r_2_Viav 1 (r_2.Via.map (eInt .i64)), ro r_2_Cyclev 1 (r_2.Cycle.map (eInt .i64)), row v23 1 (r21.map eBool)]) (fun σ => o103 = .go σ) (fun L105 hL106 => ?_) ?_
    ·refine ops_split 178 x101 rfl (fun hg107 => ?_) (fun hg107 => ?_)
     ·replace h := cond_t h hg107
      refine ops_y (wg 4 true 178 rfl rfl rfl rfl) rfl (y_load_boxagg (c := [.int .i64 n_0.Nodes, n_0_Arcsv]) 0 Try.isAgg24 Try.sizeOf24 rfl rfl rfl) ?_
      refine ops_y (wg 4 true 178 rfl rfl rfl rfl) rfl (y_fieldAddr_box (sz := 0) Try.runUnderlying51 rfl Try.sizeOf34 rfl) ?_
      refine ops_y (wg 4 true 178 rfl rfl rfl rfl) rfl (y_load_box 2 Try.isAgg34 rfl rfl rfl) ?_
      refine ops_y (wg 4 true 178 rfl rfl rfl rfl) rfl (y_move rfl) ?_
      refine ops_y (wg 4 true 178 rfl rfl rfl rfl) rfl (y_move rfl) ?_
      obtain ⟨r108, hr109, h⟩ := obind_some h
      refine ops_t (wg 4 true 178 rfl rfl rfl rfl) rfl (t_callx (vs := [.agg #[.int .i64 n_0.Nodes, n_0_Arcsv], r_2_Viav, .int .i64 v_95, .int .i64 from_1]) (cs := []) [(1, 0), (4, 0)] rfl Try.call68 rfl (ref09_back_ok n n_0 r_2.Via v_95 from_1 n_0_Arcsv r_2_Viav hr109) (showsX_view 1 rfl views_ro (showsX_view 4 rfl views_ro showsX_nil)) rfl (.inl rfl)) ?_
      rintro _ _ ⟨_, ⟨rfl, rfl⟩, rfl⟩
      refine ops_weak [(1, .int .i64 from_1), (3, boxP b1 0), (5, boxP b2 0), (7, v23), (9, .int .i64 v_95), (178, .bool true), (184, .bool r108)] [0, 1, 2, 3, 4, 5, 6] [box b1 [.int .i64 n_0.Nodes, n_0_Arcsv], ro n_0_Arcsv 4 (n_0.Arcs.map S_api_Arc.enc), box b2 [r_2_Distv, r_2_Viav, r_2_Cyclev], ro r_2_Distv 1 (r_2.Dist.map (eInt .i64)), ro r_2_Viav 1 (r_2.Via.map (eInt .i64)), ro r_2_Cyclev 1 (r_2.Cycle.map (eInt .i64)), row v23 1 (r21.map eBool)] (qv7 rfl rfl rfl rfl rfl rfl rfl) (by decide) rfl ?_
      refine ops_y (wg 4 true 178 rfl rfl rfl rfl) rfl (y_not rfl) ?_
      refine oy rfl rfl (y_pick (b := true) rfl rfl) ?_
      refine ops_nil ?_
      obtain rfl := some_eq h
      exact goes_cut hL106 (!r108) [0, 1, 2, 3, 4, 5, 6] (qv6 rfl rfl rfl rfl rfl rfl) (by decide) rfl rfl
     ·replace h := cond_f h hg107
      refine ops_no 4 true 178 rfl rfl rfl rfl rfl ?_
      refine ops_no 4 true 178 rfl rfl rfl rfl rfl ?_
      refine ops_no 4 true 178 rfl rfl rfl rfl rfl ?_
      refine ops_no 4 true 178 rfl rfl rfl rfl rfl ?_
      refine ops_no 4 true 178 rfl rfl rfl rfl rfl ?_
      refine ops_no 4 true 178 rfl rfl rfl rfl rfl ?_
      refine ops_weak [(1, .int .i64 from_1), (3, boxP b1 0), (5, boxP b2 0), (7, v23), (9, .int .i64 v_95), (178, .bool false)] [0, 1, 2, 3, 4, 5, 6] [box b1 [.int .i64 n_0.Nodes, n_0_Arcsv], ro n_0_Arcsv 4 (n_0.Arcs.map S_api_Arc.enc), box b2 [r_2_Distv, r_2_Viav, r_2_Cyclev], ro r_2_Distv 1 (r_2.Dist.map (eInt .i64)), ro r_2_Viav 1 (r_2.Via.map (eInt .i64)), ro r_2_Cyclev 1 (r_2.Cycle.map (eInt .i64)), row v23 1 (r21.map eBool)] (qv6 rfl rfl rfl rfl rfl rfl) (by decide) rfl ?_
      refine ops_no 4 true 178 rfl rfl rfl rfl rfl ?_
      refine oy rfl rfl (y_pick (b := false) rfl rfl) ?_
      refine ops_nil ?_
      obtain rfl := some_eq h
      exact goes_cut hL106 false [0, 1, 2, 3, 4, 5, 6] (qv6 rfl rfl rfl rfl rfl rfl) (by decide) rfl rfl
    rintro b102 hj
    obtain rfl : o103 = _ := hj
    replace h := after_go ho104
    clear ho104
    refine ops_nil ?_
    refine goes_code ?_
    refine run_cond b102 rfl (fun hc110 => ?_) (fun hc110 => ?_)
    ·replace h := cond_t h hc110
     refine run_seq ?_
     refine run_region' ?_
     refine oy rfl rfl (y_assign rfl) ?_
     refine ops_nil ?_
     refine goes_code ?_
     refine run_ret ?_
     obtain rfl := some_eq h
     obtain rfl := hstop98 _ rfl
     skip
     obtain rfl := after_stop ho92
     refine fin_slots [6] [.bool false] [] [] Try.results53 rfl (by decide) rfl ?_
     exact ⟨rfl, rfl⟩
    ·replace h := cond_f h hc110
     refine run_skip ?_
     refine goes_blk ?_
     refine goes_code ?_
     refine run_region' ?_
     refine oy rfl rfl (y_move rfl) ?_
     refine oy rfl rfl (y_add rfl rfl) ?_
     refine oy rfl rfl (y_assign rfl) ?_
     refine ops_nil ?_
     obtain rfl := some_eq h
     exact goes_iter hgo97 (IntKind.i64.wrap (v_95 + 1)) () [0, 1, 2, 3, 4, 5, 6] rfl (qv5 rfl rfl rfl rfl rfl) (by decide) rfl
   ·replace h := cond_f h hc100
    refine run_exit _ rfl ?_
    obtain rfl := some_eq h
    obtain rfl := hstop98 _ rfl
    exact goes_cut hL93 ((), ()) [0, 1, 2, 3, 4, 5, 6] (qv3 rfl rfl rfl) (by decide) rfl rfl
  rintro ⟨_, _⟩ hj
  obtain rfl : o91 = _ := hj
  replace h := after_go ho92
  clear ho92
  change Run _ _ _ (VF.of [(3, boxP b1 0), (5, boxP b2 0), (7, v23)]) [box b1 [.int .i64 n_0.Nodes, n_0_Arcsv], ro n_0_Arcsv 4 (n_0.Arcs.map S_api_Arc.enc), box b2 [r_2_Distv, r_2_Viav, r_2_Cyclev], ro r_2_Distv 1 (r_2.Dist.map (eInt .i64)), ro r_2_Viav 1 (r_2.Via.map (eInt .i64)), ro r_2_Cyclev 1 (r_2.Cycle.map (eInt .i64)), row v23 1 (r21.map eBool)]
  obtain ⟨o111, h, ho112⟩ := bindJ_some h
  refine run_cut ((Unit) × (Unit)) (fun σ => []) (fun σ => []) (fun σ => o111 = .go σ.1) (fun L114 hL113 => ?_) ?_
  ·
   refine run_seq ?_
   refine run_region' ?_
   refine oy rfl rfl (y_assign rfl) ?_
   refine ops_nil ?_
   refine goes_code ?_
   refine run_block ?_
   refine run_iter (step := ref09_tree_L3 n_0 r_2 r21) (n := n) (s0 := 0) h (G := Unit) () (fun σ γ => [(3, boxP b1 0), (5, boxP b2 0), (7, v23), (10, .int .i64 σ)]) (fun σ γ => [box b1 [.int .i64 n_0.Nodes, n_0_Arcsv], ro n_0_Arcsv 4 (n_0.Arcs.map S_api_Arc.enc), box b2 [r_2_Distv, r_2_Viav, r_2_Cyclev], ro r_2_Distv 1 (r_2.Dist.map (eInt .i64)), ro r_2_Viav 1 (r_2.Via.map (eInt .i64)), ro r_2_Cyclev 1 (r_2.Cycle.map (eInt .i64)), row v23 1 (r21.map eBool)]) [0, 1, 2, 3, 4, 5, 6] (qv4 rfl rfl rfl rfl) (by decide) rfl ?_
   rintro i_115 _ o116 h L119 hgo117 hstop118
   change Run _ _ _ (VF.of [(3, boxP b1 0), (5, boxP b2 0), (7, v23), (10, .int .i64 i_115)]) [box b1 [.int .i64 n_0.Nodes, n_0_Arcsv], ro n_0_Arcsv 4 (n_0.Arcs.map S_api_Arc.enc), box b2 [r_2_Distv, r_2_Viav, r_2_Cyclev], ro r_2_Distv 1 (r_2.Dist.map (eInt .i64)), ro r_2_Viav 1 (r_2.Via.map (eInt .i64)), ro r_2_Cyclev 1 (r_2.Cycle.map (eInt .i64)), row v23 1 (r21.map eBool)]
   refine run_seq ?_
   refine run_seq ?_
   refine run_region' ?_
   refine oy rfl rfl (y_move rfl) ?_
   refine oy rfl rfl (y_fieldAddr_box (sz := 0) Try.runUnderlying24 rfl Try.sizeOf22 rfl) ?_
   refine oy rfl rfl (y_load_box 0 Try.isAgg22 rfl rfl rfl) ?_
   refine oy rfl rfl ((y_len 1 rfl Try.runUnderlying22 rfl rfl reads_ro).to (v_len S_api_Arc.enc _)) ?_
   refine oy rfl rfl (y_lss rfl rfl) ?_
   refine ops_nil ?_
   refine goes_code ?_
   refine run_cond (decide (i_115 < (n_0.Arcs.length : Int))) rfl (fun hc120 => ?_) (fun hc120 => ?_)
   ·replace h := cond_t h hc120
    refine run_skip ?_
    refine goes_code ?_
    refine run_seq ?_
    refine run_block ?_
    refine run_seq ?_
    refine run_region' ?_
    refine oy rfl rfl (y_fieldAddr_box (sz := 0) Try.runUnderlying24 rfl Try.sizeOf22 rfl) ?_
    refine oy rfl rfl (y_load_box 0 Try.isAgg22 rfl rfl rfl) ?_
    refine oy rfl rfl (y_move rfl) ?_
    obtain ⟨x121, hzx121, hlx121, hxx121, h⟩ := idx_some h
    refine oy rfl rfl (y_indexAddrI (kd := .i64) (i := i_115) 1 Try.runUnderlying22 Try.sizeOf67 rfl rfl rfl reads_ro hzx121 (map_lt hlx121)) ?_
    refine oy rfl rfl (y_load_agg (i := i_115.toNat) (c := [.int .i64 x121.From, .int .i64 x121.To, .int .i64 x121.Cap, .int .i64 x121.Cost]) 1 Try.isAgg67 Try.sizeOf67 rfl rfl reads_ro (map_get hxx121)) ?_
    refine ot rfl rfl (t_alloc Try.zeroValue67) ?_
    rintro _ _ ⟨b122, rfl, rfl⟩
    refine ot rfl rfl (t_store 7 Try.sizeOf67 rfl rfl rfl rfl (by simp [Value.cells, boxP]) (by simp [Value.cells, Value.oneCell', boxP])) ?_
    rintro _ _ ⟨rfl, rfl⟩
    refine ops_turn (retell 7 (g := box b122 [.int .i64 x121.From, .int .i64 x121.To, .int .i64 x121.Cap, .int .i64 x121.Cost]) rfl rfl) ?_
    refine ops_nil ?_
    refine goes_code ?_
    refine run_seq ?_
    refine run_weak [(3, boxP b1 0), (5, boxP b2 0), (7, v23), (10, .int .i64 i_115), (11, boxP b122 0)] [0, 1, 2, 3, 4, 5, 6, 7] [box b1 [.int .i64 n_0.Nodes, n_0_Arcsv], ro n_0_Arcsv 4 (n_0.Arcs.map S_api_Arc.enc), box b2 [r_2_Distv, r_2_Viav, r_2_Cyclev], ro r_2_Distv 1 (r_2.Dist.map (eInt .i64)), ro r_2_Viav 1 (r_2.Via.map (eInt .i64)), ro r_2_Cyclev 1 (r_2.Cycle.map (eInt .i64)), row v23 1 (r21.map eBool), box b122 [.int .i64 x121.From, .int .i64 x121.To, .int .i64 x121.Cap, .int .i64 x121.Cost]] (qv5 rfl rfl rfl rfl rfl) (by decide) rfl ?_
    refine run_draw (by kernel_rfl) (by kernel_rfl) ?_
    refine sy rfl rfl (y_move rfl) ?_
    refine sy rfl rfl (y_fieldAddr_box (sz := 0) Try.runUnderlying67 rfl Try.sizeOf3 rfl) ?_
    refine sy rfl rfl (y_load_box 7 Try.isAgg3 rfl rfl rfl) ?_
    obtain ⟨x123, hzx123, hlx123, hxx123, h⟩ := idx_some h
    refine sy rfl rfl (y_indexAddrI (kd := .i64) (i := x121.From) 6 Try.runUnderlying27 Try.sizeOf4 rfl rfl rfl reads_row hzx123 (map_lt hlx123)) ?_
    refine sy rfl rfl (y_load_elem (i := (x121.From).toNat) 6 Try.isAgg4 rfl rfl reads_row (map_get hxx123)) ?_
    refine sy rfl rfl (y_move rfl) ?_
    obtain ⟨o125, h, ho126⟩ := bindJ_some h
    refine still_cut 17 (Bool) (fun σ => [(3, boxP b1 0), (5, boxP b2 0), (7, v23), (10, .int .i64 i_115), (221, .bool σ)]) (fun σ => [box b1 [.int .i64 n_0.Nodes, n_0_Arcsv], ro n_0_Arcsv 4 (n_0.Arcs.map S_api_Arc.enc), box b2 [r_2_Distv, r_2_Viav, r_2_Cyclev], ro r_2_Distv 1 (r_2.Dist.map (eInt .i64)), ro r_2_Viav 1 (r_2.Via.map (eInt .i64)), ro r_2_Cyclev 1 (r_2.Cycle.map (eInt .i64)), row v23 1 (r21.map eBool), box b122 [.int .i64 x121.From, .int .i64 x121.To, .int .i64 x121.Cap, .int .i64 x121.Cost]]) (fun σ => o125 = .go σ) (fun L127 hL128 => ?_) ?_
    ·refine still_split 204 x123 rfl (fun hg129 => ?_) (fun hg129 => ?_)
     ·replace h := cond_t h hg129
      refine still_y (wg 5 true 204 rfl rfl rfl rfl) rfl (y_fieldAddr_box (sz := 0) Try.runUnderlying51 rfl Try.sizeOf34 rfl) ?_
      refine still_y (wg 5 true 204 rfl rfl rfl rfl) rfl (y_load_box 2 Try.isAgg34 rfl rfl rfl) ?_
      refine still_y (wg 5 true 204 rfl rfl rfl rfl) rfl (y_fieldAddr_box (sz := 0) Try.runUnderlying67 rfl Try.sizeOf3 rfl) ?_
      refine still_y (wg 5 true 204 rfl rfl rfl rfl) rfl (y_load_box 7 Try.isAgg3 rfl rfl rfl) ?_
      obtain ⟨x130, hzx130, hlx130, hxx130, h⟩ := idx_some h
      refine still_y (wg 5 true 204 rfl rfl rfl rfl) rfl (y_indexAddrI (kd := .i64) (i := x121.To) 3 Try.runUnderlying34 Try.sizeOf3 rfl rfl rfl reads_ro hzx130 (map_lt hlx130)) ?_
      refine still_y (wg 5 true 204 rfl rfl rfl rfl) rfl (y_load_elem (i := (x121.To).toNat) 3 Try.isAgg3 rfl rfl reads_ro (map_get hxx130)) ?_
      refine still_y (wg 5 true 204 rfl rfl rfl rfl) rfl (y_fieldAddr_box (sz := 0) Try.runUnderlying67 rfl Try.sizeOf3 rfl) ?_
      refine still_y (wg 5 true 204 rfl rfl rfl rfl) rfl (y_load_box 7 Try.isAgg3 rfl rfl rfl) ?_
      refine still_y (wg 5 true 204 rfl rfl rfl rfl) rfl (y_sub rfl rfl) ?_
      refine still_y (wg 5 true 204 rfl rfl rfl rfl) rfl (y_fieldAddr_box (sz := 0) Try.runUnderlying51 rfl Try.sizeOf34 rfl) ?_
      refine still_y (wg 5 true 204 rfl rfl rfl rfl) rfl (y_load_box 2 Try.isAgg34 rfl rfl rfl) ?_
      refine still_y (wg 5 true 204 rfl rfl rfl rfl) rfl (y_fieldAddr_box (sz := 0) Try.runUnderlying67 rfl Try.sizeOf3 rfl) ?_
      refine still_y (wg 5 true 204 rfl rfl rfl rfl) rfl (y_load_box 7 Try.isAgg3 rfl rfl rfl) ?_
      obtain ⟨x131, hzx131, hlx131, hxx131, h⟩ := idx_some h
      refine still_y (wg 5 true 204 rfl rfl rfl rfl) rfl (y_indexAddrI (kd := .i64) (i := x121.From) 3 Try.runUnderlying34 Try.sizeOf3 rfl rfl rfl reads_ro hzx131 (map_lt hlx131)) ?_
      refine still_y (wg 5 true 204 rfl rfl rfl rfl) rfl (y_load_elem (i := (x121.From).toNat) 3 Try.isAgg3 rfl rfl reads_ro (map_get hxx131)) ?_
      refine still_y (wg 5 true 204 rfl rfl rfl rfl) rfl (y_gtr rfl rfl) ?_
      refine sy rfl rfl (y_pick (b := true) rfl rfl) ?_
      refine still_nil ?_
      obtain rfl := some_eq h
      exact goes_cut hL128 (decide (x131 < (IntKind.i64.wrap (x130 - x121.Cost)))) [0, 1, 2, 3, 4, 5, 6, 7] (qv5 rfl rfl rfl rfl rfl) (by decide) rfl rfl
     ·replace h := cond_f h hg129
      refine still_no 5 true 204 rfl rfl rfl rfl rfl ?_
      refine still_no 5 true 204 rfl rfl rfl rfl rfl ?_
      refine still_no 5 true 204 rfl rfl rfl rfl rfl ?_
      refine still_no 5 true 204 rfl rfl rfl rfl rfl ?_
      refine still_no 5 true 204 rfl rfl rfl rfl rfl ?_
      refine still_no 5 true 204 rfl rfl rfl rfl rfl ?_
      refine still_no 5 true 204 rfl rfl rfl rfl rfl ?_
      refine still_no 5 true 204 rfl rfl rfl rfl rfl ?_
      refine still_no 5 true 204 rfl rfl rfl rfl rfl ?_
      refine still_no 5 true 204 rfl rfl rfl rfl rfl ?_
      refine still_no 5 true 204 rfl rfl rfl rfl rfl ?_
      refine still_no 5 true 204 rfl rfl rfl rfl rfl ?_
      refine still_no 5 true 204 rfl rfl rfl rfl rfl ?_
      refine still_no 5 true 204 rfl rfl rfl rfl rfl ?_
      refine still_no 5 true 204 rfl rfl rfl rfl rfl ?_
      refine still_no 5 true 204 rfl rfl rfl rfl rfl ?_
      refine sy rfl rfl (y_pick (b := false) rfl rfl) ?_
      refine still_nil ?_
      obtain rfl := some_eq h
      exact goes_cut hL128 false [0, 1, 2, 3, 4, 5, 6, 7] (qv5 rfl rfl rfl rfl rfl) (by decide) rfl rfl
    rintro b124 hj
    obtain rfl : o125 = _ := hj
    replace h := after_go ho126
    clear ho126
    refine still_nil ?_
    refine goes_code ?_
    refine run_cond b124 rfl (fun hc132 => ?_) (fun hc132 => ?_)
    ·replace h := cond_t h hc132
     refine run_seq ?_
     refine run_region' ?_
     refine oy rfl rfl (y_assign rfl) ?_
     refine ops_nil ?_
     refine goes_code ?_
     refine run_ret ?_
     obtain rfl := some_eq h
     obtain rfl := hstop118 _ rfl
     skip
     obtain rfl := after_stop ho112
     refine fin_slots [6] [.bool false] [] [] Try.results53 rfl (by decide) rfl ?_
     exact ⟨rfl, rfl⟩
    ·replace h := cond_f h hc132
     refine run_skip ?_
     refine goes_blk ?_
     refine goes_code ?_
     refine run_region' ?_
     refine oy rfl rfl (y_move rfl) ?_
     refine oy rfl rfl (y_add rfl rfl) ?_
     refine oy rfl rfl (y_assign rfl) ?_
     refine ops_nil ?_
     obtain rfl := some_eq h
     exact goes_iter hgo117 (IntKind.i64.wrap (i_115 + 1)) () [0, 1, 2, 3, 4, 5, 6] rfl (qv4 rfl rfl rfl rfl) (by decide) rfl
   ·replace h := cond_f h hc120
    refine run_exit _ rfl ?_
    obtain rfl := some_eq h
    obtain rfl := hstop118 _ rfl
    exact goes_cut hL113 ((), ()) [] vnil (by decide) rfl rfl
  rintro ⟨_, _⟩ hj
  obtain rfl : o111 = _ := hj
  replace h := after_go ho112
  clear ho112
  change Run _ _ _ (VF.of []) []
  refine run_seq ?_
  refine run_region' ?_
  refine oy rfl rfl (y_assign rfl) ?_
  refine ops_nil ?_
  refine goes_code ?_
  refine run_ret ?_
  obtain rfl := some_eq h
  refine fin_slots [6] [.bool true] [] [] Try.results53 rfl (by decide) rfl ?_
  exact ⟨rfl, rfl⟩

def ref09_CheckPaths_L1 (n_0 : S_api_Net) (r_2 : S_api_Routes) : (Int × Int) → Option (Lp (Int × Int) (Lp (Int) (Bool))) :=
 fun (sum_34, i_35) =>
  cond (decide (i_35 < (r_2.Cycle.length : Int)))
   (idx r_2.Cycle i_35 fun x41 =>
   idx n_0.Arcs x41 fun x42 =>
   some (.go ((IntKind.i64.wrap (sum_34 + x42.Cost)), (IntKind.i64.wrap (i_35 + 1)))))
   (some (.stop (.go sum_34)))
def ref09_CheckPaths (n : Nat) (n_0 : S_api_Net) (from_1 : Int) (r_2 : S_api_Routes) : Option (Bool) :=
 obind (ref09_Valid n n_0) fun r3 =>
 bindJ (S := Bool)
  (cond (!r3)
   (some (.go true))
   (obind (ref09_node n_0 from_1) fun r11 =>
   some (.go (!r11))))
 (fun b5 =>
  cond b5
   (some false)
   (cond (decide ((r_2.Cycle.length : Int) = 0))
    (obind (ref09_tree n n_0 from_1 r_2) fun r15 =>
    some r15)
    (bindJ (S := Bool)
     (cond (decide (0 < (r_2.Dist.length : Int)) || decide (0 < (r_2.Via.length : Int)))
      (some (.go true))
      (obind (ref09_walk n n_0 r_2.Cycle) fun r26 =>
      some (.go (!r26))))
    (fun b20 =>
     cond b20
      (some false)
      (bindJ (S := Int)
       (iter (ref09_CheckPaths_L1 n_0 r_2) n (0, 0))
      (fun sum_29 =>
       obind (ref09_reach n n_0 from_1) fun r43 =>
       bindJ (S := Bool)
        (cond (decide (sum_29 < 0))
         (idx r_2.Cycle 0 fun x52 =>
         idx n_0.Arcs x52 fun x53 =>
         idx r43 x53.From fun x54 =>
         some (.go x54))
         (some (.go false)))
       (fun b46 =>
        some b46)))))))
theorem ref09_CheckPaths_ok (n : Nat) (n_0 : S_api_Net) (from_1 : Int) (r_2 : S_api_Routes) (n_0_Arcsv : Value) (r_2_Distv : Value) (r_2_Viav : Value) (r_2_Cyclev : Value) {r : Bool} (h : ref09_CheckPaths n n_0 from_1 r_2 = some r) :
  Meets Try.prog 25 [.agg #[.int .i64 n_0.Nodes, n_0_Arcsv], .int .i64 from_1, .agg #[r_2_Distv, r_2_Viav, r_2_Cyclev]] [ro n_0_Arcsv 4 (n_0.Arcs.map S_api_Arc.enc), ro r_2_Distv 1 (r_2.Dist.map (eInt .i64)), ro r_2_Viav 1 (r_2.Via.map (eInt .i64)), ro r_2_Cyclev 1 (r_2.Cycle.map (eInt .i64))] (fun v G => v = .bool r ∧ G = []) := by
 refine fn_of_run Try.func25 rfl Try.ntmps25 rfl (fun w0 o0 => ?_)
 refine run_seq ?_
 refine run_region' ?_
 refine ot rfl rfl (t_box rfl) ?_
 rintro _ _ ⟨b1, rfl, rfl⟩
 refine ot rfl rfl (t_box rfl) ?_
 rintro _ _ ⟨b2, rfl, rfl⟩
 refine oy rfl rfl (y_assign rfl) ?_
 refine ops_nil ?_
 refine goes_code ?_
 refine run_seq ?_
 refine run_seq ?_
 refine run_region' ?_
 refine oy rfl rfl (y_load_boxagg (c := [.int .i64 n_0.Nodes, n_0_Arcsv]) 4 Try.isAgg24 Try.sizeOf24 rfl rfl rfl) ?_
 obtain ⟨r3, hr4, h⟩ := obind_some h
 refine ot rfl rfl (t_callx (vs := [.agg #[.int .i64 n_0.Nodes, n_0_Arcsv]]) (cs := []) [(0, 0)] rfl Try.call18 rfl (ref09_Valid_ok n n_0 n_0_Arcsv hr4) (showsX_view 0 rfl views_ro showsX_nil) rfl (.inl rfl)) ?_
 rintro _ _ ⟨_, ⟨rfl, rfl⟩, rfl⟩
 refine oy rfl rfl (y_not rfl) ?_
 refine oy rfl rfl (y_move rfl) ?_
 obtain ⟨o6, h, ho7⟩ := bindJ_some h
 refine ops_cut 5 (Bool) (fun σ => [(1, .int .i64 from_1), (3, boxP b1 0), (5, boxP b2 0), (18, .bool σ)]) (fun σ => [ro n_0_Arcsv 4 (n_0.Arcs.map S_api_Arc.enc), ro r_2_Distv 1 (r_2.Dist.map (eInt .i64)), ro r_2_Viav 1 (r_2.Via.map (eInt .i64)), ro r_2_Cyclev 1 (r_2.Cycle.map (eInt .i64)), box b1 [.int .i64 n_0.Nodes, n_0_Arcsv], box b2 [r_2_Distv, r_2_Viav, r_2_Cyclev]]) (fun σ => o6 = .go σ) (fun L8 hL9 => ?_) ?_
 ·refine ops_split 13 (!r3) rfl (fun hg10 => ?_) (fun hg10 => ?_)
  ·replace h := cond_t h hg10
   refine ops_no 3 false 13 rfl rfl rfl rfl rfl ?_
   refine ops_no 3 false 13 rfl rfl rfl rfl rfl ?_
   refine ops_no 3 false 13 rfl rfl rfl rfl rfl ?_
   refine ops_no 3 false 13 rfl rfl rfl rfl rfl ?_
   refine oy rfl rfl (y_pick (b := true) rfl rfl) ?_
   refine ops_nil ?_
   obtain rfl := some_eq h
   exact goes_cut hL9 true [0, 1, 2, 3, 4, 5] (qv4 rfl rfl rfl rfl) (by decide) rfl rfl
  ·replace h := cond_f h hg10
   refine ops_y (wg 3 false 13 rfl rfl rfl rfl) rfl (y_load_boxagg (c := [.int .i64 n_0.Nodes, n_0_Arcsv]) 4 Try.isAgg24 Try.sizeOf24 rfl rfl rfl) ?_
   refine ops_y (wg 3 false 13 rfl rfl rfl rfl) rfl (y_move rfl) ?_
   obtain ⟨r11, hr12, h⟩ := obind_some h
   refine ops_t (wg 3 false 13 rfl rfl rfl rfl) rfl (t_callx (vs := [.agg #[.int .i64 n_0.Nodes, n_0_Arcsv], .int .i64 from_1]) (cs := []) [(0, 0)] rfl Try.call43 rfl (ref09_node_ok n_0 from_1 n_0_Arcsv hr12) (showsX_view 0 rfl views_ro showsX_nil) rfl (.inl rfl)) ?_
   rintro _ _ ⟨_, ⟨rfl, rfl⟩, rfl⟩
   refine ops_y (wg 3 false 13 rfl rfl rfl rfl) rfl (y_not rfl) ?_
   refine oy rfl rfl (y_pick (b := false) rfl rfl) ?_
   refine ops_nil ?_
   obtain rfl := some_eq h
   exact goes_cut hL9 (!r11) [0, 1, 2, 3, 4, 5] (qv4 rfl rfl rfl rfl) (by decide) rfl rfl
 rintro b5 hj
 obtain rfl : o6 = _ := hj
 replace h := after_go ho7
 clear ho7
 refine ops_nil ?_
 refine goes_code ?_
 refine run_cond b5 rfl (fun hc13 => ?_) (fun hc13 => ?_)
 ·replace h := cond_t h hc13
  refine run_seq ?_
  refine run_region' ?_
  refine oy rfl rfl (y_assign rfl) ?_
  refine ops_nil ?_
  refine goes_code ?_
  refine run_ret ?_
  obtain rfl := some_eq h
  refine fin_slots [6] [.bool false] [] [] Try.results25 rfl (by decide) rfl ?_
  exact ⟨rfl, rfl⟩
 ·replace h := cond_f h hc13
  refine run_skip ?_
  refine goes_code ?_
  refine run_seq ?_
  refine run_seq ?_
  refine run_region' ?_
  refine oy rfl rfl (y_fieldAddr_box (sz := 0) Try.runUnderlying51 rfl Try.sizeOf34 rfl) ?_
  refine oy rfl rfl (y_load_box 5 Try.isAgg34 rfl rfl rfl) ?_
  refine oy rfl rfl ((y_len 3 rfl Try.runUnderlying34 rfl rfl reads_ro).to (v_len (eInt .i64) _)) ?_
  refine oy rfl rfl (y_eql rfl rfl) ?_
  refine ops_nil ?_
  refine goes_code ?_
  refine run_cond (decide ((r_2.Cycle.length : Int) = 0)) rfl (fun hc14 => ?_) (fun hc14 => ?_)
  ·replace h := cond_t h hc14
   refine run_seq ?_
   refine run_region' ?_
   refine oy rfl rfl (y_load_boxagg (c := [.int .i64 n_0.Nodes, n_0_Arcsv]) 4 Try.isAgg24 Try.sizeOf24 rfl rfl rfl) ?_
   refine oy rfl rfl (y_move rfl) ?_
   refine oy rfl rfl (y_load_boxagg (c := [r_2_Distv, r_2_Viav, r_2_Cyclev]) 5 Try.isAgg51 Try.sizeOf51 rfl rfl rfl) ?_
   obtain ⟨r15, hr16, h⟩ := obind_some h
   refine ot rfl rfl (t_callx (vs := [.agg #[.int .i64 n_0.Nodes, n_0_Arcsv], .int .i64 from_1, .agg #[r_2_Distv, r_2_Viav, r_2_Cyclev]]) (cs := []) [(0, 0), (1, 0), (2, 0), (3, 0)] rfl Try.call53 rfl (ref09_tree_ok n n_0 from_1 r_2 n_0_Arcsv r_2_Distv r_2_Viav r_2_Cyclev hr16) (showsX_view 0 rfl views_ro (showsX_view 1 rfl views_ro (showsX_view 2 rfl views_ro (showsX_view 3 rfl views_ro showsX_nil)))) rfl (.inl rfl)) ?_
   rintro _ _ ⟨_, ⟨rfl, rfl⟩, rfl⟩
   refine oy rfl rfl (y_assign rfl) ?_
   refine ops_nil ?_
   refine goes_code ?_
   refine run_ret ?_
   obtain rfl := some_eq h
   refine fin_slots [6] [.bool r15] [] [] Try.results25 rfl (by decide) rfl ?_
   exact ⟨rfl, rfl⟩
  ·replace h := cond_f h hc14
   refine run_skip ?_
   refine goes_code ?_
   refine run_seq ?_
   refine run_seq ?_
   refine run_region' ?_
   refine oy rfl rfl (y_fieldAddr_box (sz := 0) Try.runUnderlying51 rfl Try.sizeOf34 rfl) ?_
   refine oy rfl rfl (y_load_box 5 Try.isAgg34 rfl rfl rfl) ?_
   refine oy rfl rfl ((y_len 1 rfl Try.runUnderlying34 rfl rfl reads_ro).to (v_len (eInt .i64) _)) ?_
   refine oy rfl rfl (y_gtr rfl rfl) ?_
   refine oy rfl rfl (y_move rfl) ?_
   refine ops_cut 5 (Bool) (fun σ => [(1, .int .i64 from_1), (3, boxP b1 0), (5, boxP b2 0), (36, .bool σ)]) (fun σ => [ro n_0_Arcsv 4 (n_0.Arcs.map S_api_Arc.enc), ro r_2_Distv 1 (r_2.Dist.map (eInt .i64)), ro r_2_Viav 1 (r_2.Via.map (eInt .i64)), ro r_2_Cyclev 1 (r_2.Cycle.map (eInt .i64)), box b1 [.int .i64 n_0.Nodes, n_0_Arcsv], box b2 [r_2_Distv, r_2_Viav, r_2_Cyclev]]) (fun σ => σ = (decide (0 < (r_2.Dist.length : Int)) || decide (0 < (r_2.Via.length : Int)))) (fun L17 hL18 => ?_) ?_
   ·refine ops_split 31 (decide (0 < (r_2.Dist.length : Int))) rfl (fun hg19 => ?_) (fun hg19 => ?_)
    ·skip
     refine ops_no 4 false 31 rfl rfl rfl rfl rfl ?_
     refine ops_no 4 false 31 rfl rfl rfl rfl rfl ?_
     refine ops_no 4 false 31 rfl rfl rfl rfl rfl ?_
     refine ops_no 4 false 31 rfl rfl rfl rfl rfl ?_
     refine oy rfl rfl (y_pick (b := true) rfl rfl) ?_
     refine ops_nil ?_
     exact goes_cut hL18 true [0, 1, 2, 3, 4, 5] (qv4 rfl rfl rfl rfl) (by decide) rfl (by rw [hg19]; simp)
    ·skip
     refine ops_y (wg 4 false 31 rfl rfl rfl rfl) rfl (y_fieldAddr_box (sz := 0) Try.runUnderlying51 rfl Try.sizeOf34 rfl) ?_
     refine ops_y (wg 4 false 31 rfl rfl rfl rfl) rfl (y_load_box 5 Try.isAgg34 rfl rfl rfl) ?_
     refine ops_y (wg 4 false 31 rfl rfl rfl rfl) rfl ((y_len 2 rfl Try.runUnderlying34 rfl rfl reads_ro).to (v_len (eInt .i64) _)) ?_
     refine ops_y (wg 4 false 31 rfl rfl rfl rfl) rfl (y_gtr rfl rfl) ?_
     refine oy rfl rfl (y_pick (b := false) rfl rfl) ?_
     refine ops_nil ?_
     exact goes_cut hL18 (decide (0 < (r_2.Via.length : Int))) [0, 1, 2, 3, 4, 5] (qv4 rfl rfl rfl rfl) (by decide) rfl (by rw [hg19]; simp)
   rintro _ rfl
   refine oy rfl rfl (y_move rfl) ?_
   obtain ⟨o21, h, ho22⟩ := bindJ_some h
   refine ops_cut 6 (Bool) (fun σ => [(1, .int .i64 from_1), (3, boxP b1 0), (5, boxP b2 0), (43, .bool σ)]) (fun σ => [ro n_0_Arcsv 4 (n_0.Arcs.map S_api_Arc.enc), ro r_2_Distv 1 (r_2.Dist.map (eInt .i64)), ro r_2_Viav 1 (r_2.Via.map (eInt .i64)), ro r_2_Cyclev 1 (r_2.Cycle.map (eInt .i64)), box b1 [.int .i64 n_0.Nodes, n_0_Arcsv], box b2 [r_2_Distv, r_2_Viav, r_2_Cyclev]]) (fun σ => o21 = .go σ) (fun L23 hL24 => ?_) ?_
   ·refine ops_split 37 (decide (0 < (r_2.Dist.length : Int)) || decide (0 < (r_2.Via.length : Int))) rfl (fun hg25 => ?_) (fun hg25 => ?_)
    ·replace h := cond_t h hg25
     refine ops_no 10 false 37 rfl rfl rfl rfl rfl ?_
     refine ops_no 10 false 37 rfl rfl rfl rfl rfl ?_
     refine ops_no 10 false 37 rfl rfl rfl rfl rfl ?_
     refine ops_no 10 false 37 rfl rfl rfl rfl rfl ?_
     refine ops_no 10 false 37 rfl rfl rfl rfl rfl ?_
     refine oy rfl rfl (y_pick (b := true) rfl rfl) ?_
     refine ops_nil ?_
     obtain rfl := some_eq h
     exact goes_cut hL24 true [0, 1, 2, 3, 4, 5] (qv4 rfl rfl rfl rfl) (by decide) rfl rfl
    ·replace h := cond_f h hg25
     refine ops_y (wg 10 false 37 rfl rfl rfl rfl) rfl (y_load_boxagg (c := [.int .i64 n_0.Nodes, n_0_Arcsv]) 4 Try.isAgg24 Try.sizeOf24 rfl rfl rfl) ?_
     refine ops_y (wg 10 false 37 rfl rfl rfl rfl) rfl (y_fieldAddr_box (sz := 0) Try.runUnderlying51 rfl Try.sizeOf34 rfl) ?_
     refine ops_y (wg 10 false 37 rfl rfl rfl rfl) rfl (y_load_box 5 Try.isAgg34 rfl rfl rfl) ?_
     obtain ⟨r26, hr27, h⟩ := obind_some h
     refine ops_t (wg 10 false 37 rfl rfl rfl rfl) rfl (t_callx (vs := [.agg #[.int .i64 n_0.Nodes, n_0_Arcsv], r_2_Cyclev]) (cs := []) [(0, 0), (3, 0)] rfl Try.call47 rfl (ref09_walk_ok n n_0 r_2.Cycle n_0_Arcsv r_2_Cyclev hr27) (showsX_view 0 rfl views_ro (showsX_view 3 rfl views_ro showsX_nil)) rfl (.inl rfl)) ?_
     rintro _ _ ⟨_, ⟨rfl, rfl⟩, rfl⟩
     refine ops_y (wg 10 false 37 rfl rfl rfl rfl) rfl (y_not rfl) ?_
     refine oy rfl rfl (y_pick (b := false) rfl rfl) ?_
     refine ops_nil ?_
     obtain rfl := some_eq h
     exact goes_cut hL24 (!r26) [0, 1, 2, 3, 4, 5] (qv4 rfl rfl rfl rfl) (by decide) rfl rfl
   rintro b20 hj
   obtain rfl : o21 = _ := hj
   replace h := after_go ho22
   clear ho22
   refine ops_nil ?_
   refine goes_code ?_
   refine run_cond b20 rfl (fun hc28 => ?_) (fun hc28 => ?_)
   ·replace h := cond_t h hc28
    refine run_seq ?_
    refine run_region' ?_
    refine oy rfl rfl (y_assign rfl) ?_
    refine ops_nil ?_
    refine goes_code ?_
    refine run_ret ?_
    obtain rfl := some_eq h
    refine fin_slots [6] [.bool false] [] [] Try.results25 rfl (by decide) rfl ?_
    exact ⟨rfl, rfl⟩
   ·replace h := cond_f h hc28
    refine run_skip ?_
    refine goes_code ?_
    refine run_seq ?_
    refine run_region' ?_
    refine oy rfl rfl (y_assign rfl) ?_
    refine ops_nil ?_
    refine goes_code ?_
    obtain ⟨o30, h, ho31⟩ := bindJ_some h
    refine run_cut ((Int) × (Unit)) (fun σ => [(1, .int .i64 from_1), (3, boxP b1 0), (5, boxP b2 0), (7, .int .i64 σ.1)]) (fun σ => [box b1 [.int .i64 n_0.Nodes, n_0_Arcsv], ro n_0_Arcsv 4 (n_0.Arcs.map S_api_Arc.enc), box b2 [r_2_Distv, r_2_Viav, r_2_Cyclev], ro r_2_Distv 1 (r_2.Dist.map (eInt .i64)), ro r_2_Viav 1 (r_2.Via.map (eInt .i64)), ro r_2_Cyclev 1 (r_2.Cycle.map (eInt .i64))]) (fun σ => o30 = .go σ.1) (fun L33 hL32 => ?_) ?_
    ·
     refine run_seq ?_
     refine run_region' ?_
     refine oy rfl rfl (y_assign rfl) ?_
     refine ops_nil ?_
     refine goes_code ?_
     refine run_block ?_
     refine run_iter (step := ref09_CheckPaths_L1 n_0 r_2) (n := n) (s0 := (0, 0)) h (G := Unit) () (fun σ γ => [(1, .int .i64 from_1), (3, boxP b1 0), (5, boxP b2 0), (7, .int .i64 σ.1), (8, .int .i64 σ.2)]) (fun σ γ => [box b1 [.int .i64 n_0.Nodes, n_0_Arcsv], ro n_0_Arcsv 4 (n_0.Arcs.map S_api_Arc.enc), box b2 [r_2_Distv, r_2_Viav, r_2_Cyclev], ro r_2_Distv 1 (r_2.Dist.map (eInt .i64)), ro r_2_Viav 1 (r_2.Via.map (eInt .i64)), ro r_2_Cyclev 1 (r_2.Cycle.map (eInt .i64))]) [4, 0, 5, 1, 2, 3] (qv5 rfl rfl rfl rfl rfl) (by decide) rfl ?_
     rintro ⟨sum_34, i_35⟩ _ o36 h L39 hgo37 hstop38
     change Run _ _ _ (VF.of [(1, .int .i64 from_1), (3, boxP b1 0), (5, boxP b2 0), (7, .int .i64 sum_34), (8, .int .i64 i_35)]) [box b1 [.int .i64 n_0.Nodes, n_0_Arcsv], ro n_0_Arcsv 4 (n_0.Arcs.map S_api_Arc.enc), box b2 [r_2_Distv, r_2_Viav, r_2_Cyclev], ro r_2_Distv 1 (r_2.Dist.map (eInt .i64)), ro r_2_Viav 1 (r_2.Via.map (eInt .i64)), ro r_2_Cyclev 1 (r_2.Cycle.map (eInt .i64))]
     refine run_seq ?_
     refine run_seq ?_
     refine run_region' ?_
     refine oy rfl rfl (y_move rfl) ?_
     refine oy rfl rfl (y_fieldAddr_box (sz := 0) Try.runUnderlying51 rfl Try.sizeOf34 rfl) ?_
     refine oy rfl rfl (y_load_box 2 Try.isAgg34 rfl rfl rfl) ?_
     refine oy rfl rfl ((y_len 5 rfl Try.runUnderlying34 rfl rfl reads_ro).to (v_len (eInt .i64) _)) ?_
     refine oy rfl rfl (y_lss rfl rfl) ?_
     refine ops_nil ?_
     refine goes_code ?_
     refine run_cond (decide (i_35 < (r_2.Cycle.length : Int))) rfl (fun hc40 => ?_) (fun hc40 => ?_)
     ·replace h := cond_t h hc40
      refine run_skip ?_
      refine goes_code ?_
      refine run_seq ?_
      refine run_block ?_
      refine run_draw (by kernel_rfl) (by kernel_rfl) ?_
      refine sy rfl rfl (y_move rfl) ?_
      refine sy rfl rfl (y_fieldAddr_box (sz := 0) Try.runUnderlying24 rfl Try.sizeOf22 rfl) ?_
      refine sy rfl rfl (y_load_box 0 Try.isAgg22 rfl rfl rfl) ?_
      refine sy rfl rfl (y_fieldAddr_box (sz := 0) Try.runUnderlying51 rfl Try.sizeOf34 rfl) ?_
      refine sy rfl rfl (y_load_box 2 Try.isAgg34 rfl rfl rfl) ?_
      refine sy rfl rfl (y_move rfl) ?_
      obtain ⟨x41, hzx41, hlx41, hxx41, h⟩ := idx_some h
      refine sy rfl rfl (y_indexAddrI (kd := .i64) (i := i_35) 5 Try.runUnderlying34 Try.sizeOf3 rfl rfl rfl reads_ro hzx41 (map_lt hlx41)) ?_
      refine sy rfl rfl (y_load_elem (i := i_35.toNat) 5 Try.isAgg3 rfl rfl reads_ro (map_get hxx41)) ?_
      obtain ⟨x42, hzx42, hlx42, hxx42, h⟩ := idx_some h
      refine sy rfl rfl (y_indexAddrI (kd := .i64) (i := x41) 1 Try.runUnderlying22 Try.sizeOf67 rfl rfl rfl reads_ro hzx42 (map_lt hlx42)) ?_
      refine sy rfl rfl (y_fieldAddr_elem (sz := 0) Try.runUnderlying67 rfl Try.sizeOf3 rfl) ?_
      refine sy rfl rfl (y_load_field (i := x41.toNat) (j := 3) 1 Try.isAgg3 rfl rfl reads_ro (map_get hxx42) rfl) ?_
      refine sy rfl rfl (y_add rfl rfl) ?_
      refine sy rfl rfl (y_assign rfl) ?_
      refine still_nil ?_
      refine goes_blk ?_
      refine goes_code ?_
      refine run_weak [(1, .int .i64 from_1), (3, boxP b1 0), (5, boxP b2 0), (7, .int .i64 (IntKind.i64.wrap (sum_34 + x42.Cost))), (8, .int .i64 i_35)] [0, 1, 2, 3, 4, 5] [box b1 [.int .i64 n_0.Nodes, n_0_Arcsv], ro n_0_Arcsv 4 (n_0.Arcs.map S_api_Arc.enc), box b2 [r_2_Distv, r_2_Viav, r_2_Cyclev], ro r_2_Distv 1 (r_2.Dist.map (eInt .i64)), ro r_2_Viav 1 (r_2.Via.map (eInt .i64)), ro r_2_Cyclev 1 (r_2.Cycle.map (eInt .i64))] (qv5 rfl rfl rfl rfl rfl) (by decide) rfl ?_
      refine run_region' ?_
      refine oy rfl rfl (y_move rfl) ?_
      refine oy rfl rfl (y_add rfl rfl) ?_
      refine oy rfl rfl (y_assign rfl) ?_
      refine ops_nil ?_
      obtain rfl := some_eq h
      exact goes_iter hgo37 ((IntKind.i64.wrap (sum_34 + x42.Cost)), (IntKind.i64.wrap (i_35 + 1))) () [0, 1, 2, 3, 4, 5] rfl (qv5 rfl rfl rfl rfl rfl) (by decide) rfl
     ·replace h := cond_f h hc40
      refine run_exit _ rfl ?_
      obtain rfl := some_eq h
      obtain rfl := hstop38 _ rfl
      exact goes_cut hL32 (sum_34, ()) [0, 1, 2, 3, 4, 5] (qv4 rfl rfl rfl rfl) (by decide) rfl rfl
    rintro ⟨sum_29, _⟩ hj
    obtain rfl : o30 = _ := hj
    replace h := after_go ho31
    clear ho31
    change Run _ _ _ (VF.of [(1, .int .i64 from_1), (3, boxP b1 0), (5, boxP b2 0), (7, .int .i64 sum_29)]) [box b1 [.int .i64 n_0.Nodes, n_0_Arcsv], ro n_0_Arcsv 4 (n_0.Arcs.map S_api_Arc.enc), box b2 [r_2_Distv, r_2_Viav, r_2_Cyclev], ro r_2_Distv 1 (r_2.Dist.map (eInt .i64)), ro r_2_Viav 1 (r_2.Via.map (eInt .i64)), ro r_2_Cyclev 1 (r_2.Cycle.map (eInt .i64))]
    refine run_seq ?_
    refine run_region' ?_
    refine oy rfl rfl (y_load_boxagg (c := [.int .i64 n_0.Nodes, n_0_Arcsv]) 0 Try.isAgg24 Try.sizeOf24 rfl rfl rfl) ?_
    refine oy rfl rfl (y_move rfl) ?_
    obtain ⟨r43, hr44, h⟩ := obind_some h
    refine ot rfl rfl (t_callx (vs := [.agg #[.int .i64 n_0.Nodes, n_0_Arcsv], .int .i64 from_1]) (cs := []) [(1, 0)] rfl Try.call44 rfl (ref09_reach_ok n n_0 from_1 n_0_Arcsv hr44) (showsX_view 1 rfl views_ro showsX_nil) rfl (.inl rfl)) ?_
    rintro v45 _ ⟨_, ⟨_, rfl, rfl⟩, rfl⟩
    refine oy rfl rfl (y_assign rfl) ?_
    refine ops_nil ?_
    refine goes_code ?_
    refine run_seq ?_
    refine run_draw (by kernel_rfl) (by kernel_rfl) ?_
    refine sy rfl rfl (y_move rfl) ?_
    refine sy rfl rfl (y_lss rfl rfl) ?_
    refine sy rfl rfl (y_move rfl) ?_
    obtain ⟨o47, h, ho48⟩ := bindJ_some h
    refine still_cut 13 (Bool) (fun σ => [(81, .bool σ)]) (fun σ => [box b1 [.int .i64 n_0.Nodes, n_0_Arcsv], ro n_0_Arcsv 4 (n_0.Arcs.map S_api_Arc.enc), box b2 [r_2_Distv, r_2_Viav, r_2_Cyclev], ro r_2_Distv 1 (r_2.Dist.map (eInt .i64)), ro r_2_Viav 1 (r_2.Via.map (eInt .i64)), ro r_2_Cyclev 1 (r_2.Cycle.map (eInt .i64)), row v45 1 (r43.map eBool)]) (fun σ => o47 = .go σ) (fun L49 hL50 => ?_) ?_
    ·refine still_split 68 (decide (sum_29 < 0)) rfl (fun hg51 => ?_) (fun hg51 => ?_)
     ·replace h := cond_t h hg51
      refine still_y (wg 2 true 68 rfl rfl rfl rfl) rfl (y_move rfl) ?_
      refine still_y (wg 2 true 68 rfl rfl rfl rfl) rfl (y_fieldAddr_box (sz := 0) Try.runUnderlying24 rfl Try.sizeOf22 rfl) ?_
      refine still_y (wg 2 true 68 rfl rfl rfl rfl) rfl (y_load_box 0 Try.isAgg22 rfl rfl rfl) ?_
      refine still_y (wg 2 true 68 rfl rfl rfl rfl) rfl (y_fieldAddr_box (sz := 0) Try.runUnderlying51 rfl Try.sizeOf34 rfl) ?_
      refine still_y (wg 2 true 68 rfl rfl rfl rfl) rfl (y_load_box 2 Try.isAgg34 rfl rfl rfl) ?_
      obtain ⟨x52, hzx52, hlx52, hxx52, h⟩ := idx_some h
      refine still_y (wg 2 true 68 rfl rfl rfl rfl) rfl (y_indexAddrI (kd := .i64) (i := 0) 5 Try.runUnderlying34 Try.sizeOf3 rfl rfl rfl reads_ro hzx52 (map_lt hlx52)) ?_
      refine still_y (wg 2 true 68 rfl rfl rfl rfl) rfl (y_load_elem (i := (0 : Int).toNat) 5 Try.isAgg3 rfl rfl reads_ro (map_get hxx52)) ?_
      obtain ⟨x53, hzx53, hlx53, hxx53, h⟩ := idx_some h
      refine still_y (wg 2 true 68 rfl rfl rfl rfl) rfl (y_indexAddrI (kd := .i64) (i := x52) 1 Try.runUnderlying22 Try.sizeOf67 rfl rfl rfl reads_ro hzx53 (map_lt hlx53)) ?_
      refine still_y (wg 2 true 68 rfl rfl rfl rfl) rfl (y_fieldAddr_elem (sz := 0) Try.runUnderlying67 rfl Try.sizeOf3 rfl) ?_
      refine still_y (wg 2 true 68 rfl rfl rfl rfl) rfl (y_load_field (i := x52.toNat) (j := 0) 1 Try.isAgg3 rfl rfl reads_ro (map_get hxx53) rfl) ?_
      obtain ⟨x54, hzx54, hlx54, hxx54, h⟩ := idx_some h
      refine still_y (wg 2 true 68 rfl rfl rfl rfl) rfl (y_indexAddrI (kd := .i64) (i := x53.From) 6 Try.runUnderlying27 Try.sizeOf4 rfl rfl rfl reads_row hzx54 (map_lt hlx54)) ?_
      refine still_y (wg 2 true 68 rfl rfl rfl rfl) rfl (y_load_elem (i := (x53.From).toNat) 6 Try.isAgg4 rfl rfl reads_row (map_get hxx54)) ?_
      refine sy rfl rfl (y_pick (b := true) rfl rfl) ?_
      refine still_nil ?_
      obtain rfl := some_eq h
      exact goes_cut hL50 x54 [0, 1, 2, 3, 4, 5, 6] (qv1 rfl) (by decide) rfl rfl
     ·replace h := cond_f h hg51
      refine still_no 2 true 68 rfl rfl rfl rfl rfl ?_
      refine still_no 2 true 68 rfl rfl rfl rfl rfl ?_
      refine still_no 2 true 68 rfl rfl rfl rfl rfl ?_
      refine still_no 2 true 68 rfl rfl rfl rfl rfl ?_
      refine still_no 2 true 68 rfl rfl rfl rfl rfl ?_
      refine still_no 2 true 68 rfl rfl rfl rfl rfl ?_
      refine still_no 2 true 68 rfl rfl rfl rfl rfl ?_
      refine still_no 2 true 68 rfl rfl rfl rfl rfl ?_
      refine still_no 2 true 68 rfl rfl rfl rfl rfl ?_
      refine still_no 2 true 68 rfl rfl rfl rfl rfl ?_
      refine still_no 2 true 68 rfl rfl rfl rfl rfl ?_
      refine still_no 2 true 68 rfl rfl rfl rfl rfl ?_
      refine sy rfl rfl (y_pick (b := false) rfl rfl) ?_
      refine still_nil ?_
      obtain rfl := some_eq h
      exact goes_cut hL50 false [0, 1, 2, 3, 4, 5, 6] (qv1 rfl) (by decide) rfl rfl
    rintro b46 hj
    obtain rfl : o47 = _ := hj
    replace h := after_go ho48
    clear ho48
    refine sy rfl rfl (y_assign rfl) ?_
    refine still_nil ?_
    refine goes_code ?_
    refine run_ret ?_
    obtain rfl := some_eq h
    refine fin_slots [6] [.bool b46] [] [] Try.results25 rfl (by decide) rfl ?_
    exact ⟨rfl, rfl⟩

end Go.Proofs.Ytgelifcckhemiaa
