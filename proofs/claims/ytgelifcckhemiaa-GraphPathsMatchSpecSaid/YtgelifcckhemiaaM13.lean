/-
  Texts that stand side by side: W4, P4.
-/
import Derived.Test.YtgelifcckhemiaaG4b
import Derived.Test.YtgelifcckhemiaaM12
namespace Go.Proofs.Ytgelifcckhemiaa
open Go.Abs
set_option linter.unusedVariables false
set_option linter.unusedSimpArgs false
set_option maxRecDepth 20000
set_option maxHeartbeats 4000000

def law09_GraphPathsMatchSpec (n : Nat) (n_0 : S_api_Net) (from_1 : Int) (r_2 : S_api_Routes) : Option (Bool) :=
 obind (law09_few n_0) fun r3 =>
 cond ((((!r3) || decide (60 < (r_2.Dist.length : Int))) || decide (60 < (r_2.Via.length : Int))) || decide (60 < (r_2.Cycle.length : Int)))
  (obind (law09_sanity n) fun r15 =>
  some r15)
  (obind (graph_Paths n n_0 from_1) fun r17 =>
  obind (ref09_Paths n n_0 from_1) fun r26 =>
  bindJ (S := Bool)
   (cond (decide (r17.2 ≠ r26.E))
    (some (.go true))
    (obind (ref09_Same n r17.1.Dist r26.R.Dist) fun r41 =>
    some (.go (!r41))))
  (fun b35 =>
   bindJ (S := Bool)
    (cond b35
     (some (.go true))
     (obind (ref09_Same n r17.1.Via r26.R.Via) fun r49 =>
     some (.go (!r49))))
   (fun b43 =>
    bindJ (S := Bool)
     (cond (b43 || (!((decide (0 < (r17.1.Cycle.length : Int))) == r26.Negative)))
      (some (.go true))
      (obind (graph_CheckPaths n n_0 from_1 r_2) fun r60 =>
      obind (ref09_CheckPaths n n_0 from_1 r_2) fun r62 =>
      some (.go (!(r60 == r62)))))
    (fun b54 =>
     cond b54
      (some false)
      (obind (law09_sanity n) fun r65 =>
      bindJ (S := Bool)
       (cond r65
        (bindJ (S := Bool)
         (cond (decide (r17.2 ≠ 0))
          (some (.go true))
          (obind (graph_CheckPaths n n_0 from_1 r17.1) fun r79 =>
          some (.go r79)))
        (fun b73 =>
         some (.go b73)))
        (some (.go false)))
      (fun b67 =>
       some b67))))))
theorem law09_GraphPathsMatchSpec_ok (n : Nat) (n_0 : S_api_Net) (from_1 : Int) (r_2 : S_api_Routes) (n_0_Arcsv : Value) (r_2_Distv : Value) (r_2_Viav : Value) (r_2_Cyclev : Value) {r : Bool} (h : law09_GraphPathsMatchSpec n n_0 from_1 r_2 = some r) :
  Meets Try.prog 4 [.agg #[.int .i64 n_0.Nodes, n_0_Arcsv], .int .i64 from_1, .agg #[r_2_Distv, r_2_Viav, r_2_Cyclev]] [ro n_0_Arcsv 4 (n_0.Arcs.map S_api_Arc.enc), ro r_2_Distv 1 (r_2.Dist.map (eInt .i64)), ro r_2_Viav 1 (r_2.Via.map (eInt .i64)), ro r_2_Cyclev 1 (r_2.Cycle.map (eInt .i64))] (fun v G => v = .bool r ∧ G = []) := by
 refine fn_of_run Try.func4 rfl Try.ntmps4 rfl (fun w0 o0 => ?_)
 refine run_seq ?_
 refine run_region' ?_
 refine ot rfl rfl (t_box rfl) ?_
 rintro _ _ ⟨b1, rfl, rfl⟩
 refine ot rfl rfl (t_box rfl) ?_
 rintro _ _ ⟨b2, rfl, rfl⟩
 refine oy rfl rfl (y_assign rfl) ?_
 refine ops_nil ?_
 refine goes_code ?_
 refine run_seq ?_
 refine run_seq ?_
 refine run_region' ?_
 refine oy rfl rfl (y_load_boxagg (c := [.int .i64 n_0.Nodes, n_0_Arcsv]) 4 Try.isAgg24 Try.sizeOf24 rfl rfl rfl) ?_
 obtain ⟨r3, hr4, h⟩ := obind_some h
 refine ot rfl rfl (t_callx (vs := [.agg #[.int .i64 n_0.Nodes, n_0_Arcsv]]) (cs := []) [(0, 0)] rfl Try.call9 rfl (law09_few_ok n_0 n_0_Arcsv hr4) (showsX_view 0 rfl views_ro showsX_nil) rfl (.inl rfl)) ?_
 rintro _ _ ⟨_, ⟨rfl, rfl⟩, rfl⟩
 refine oy rfl rfl (y_not rfl) ?_
 refine oy rfl rfl (y_move rfl) ?_
 refine ops_cut 5 (Bool) (fun σ => [(1, .int .i64 from_1), (3, boxP b1 0), (5, boxP b2 0), (18, .bool σ)]) (fun σ => [ro n_0_Arcsv 4 (n_0.Arcs.map S_api_Arc.enc), ro r_2_Distv 1 (r_2.Dist.map (eInt .i64)), ro r_2_Viav 1 (r_2.Via.map (eInt .i64)), ro r_2_Cyclev 1 (r_2.Cycle.map (eInt .i64)), box b1 [.int .i64 n_0.Nodes, n_0_Arcsv], box b2 [r_2_Distv, r_2_Viav, r_2_Cyclev]]) (fun σ => σ = ((!r3) || decide (60 < (r_2.Dist.length : Int)))) (fun L5 hL6 => ?_) ?_
 ·refine ops_split 13 (!r3) rfl (fun hg7 => ?_) (fun hg7 => ?_)
  ·skip
   refine ops_no 3 false 13 rfl rfl rfl rfl rfl ?_
   refine ops_no 3 false 13 rfl rfl rfl rfl rfl ?_
   refine ops_no 3 false 13 rfl rfl rfl rfl rfl ?_
   refine ops_no 3 false 13 rfl rfl rfl rfl rfl ?_
   refine oy rfl rfl (y_pick (b := true) rfl rfl) ?_
   refine ops_nil ?_
   exact goes_cut hL6 true [0, 1, 2, 3, 4, 5] (qv4 rfl rfl rfl rfl) (by decide) rfl (by rw [hg7]; simp)
  ·skip
   refine ops_y (wg 3 false 13 rfl rfl rfl rfl) rfl (y_fieldAddr_box (sz := 0) Try.runUnderlying51 rfl Try.sizeOf34 rfl) ?_
   refine ops_y (wg 3 false 13 rfl rfl rfl rfl) rfl (y_load_box 5 Try.isAgg34 rfl rfl rfl) ?_
   refine ops_y (wg 3 false 13 rfl rfl rfl rfl) rfl ((y_len 1 rfl Try.runUnderlying34 rfl rfl reads_ro).to (v_len (eInt .i64) _)) ?_
   refine ops_y (wg 3 false 13 rfl rfl rfl rfl) rfl (y_gtr rfl rfl) ?_
   refine oy rfl rfl (y_pick (b := false) rfl rfl) ?_
   refine ops_nil ?_
   exact goes_cut hL6 (decide (60 < (r_2.Dist.length : Int))) [0, 1, 2, 3, 4, 5] (qv4 rfl rfl rfl rfl) (by decide) rfl (by rw [hg7]; simp)
 rintro _ rfl
 refine oy rfl rfl (y_move rfl) ?_
 refine ops_cut 5 (Bool) (fun σ => [(1, .int .i64 from_1), (3, boxP b1 0), (5, boxP b2 0), (24, .bool σ)]) (fun σ => [ro n_0_Arcsv 4 (n_0.Arcs.map S_api_Arc.enc), ro r_2_Distv 1 (r_2.Dist.map (eInt .i64)), ro r_2_Viav 1 (r_2.Via.map (eInt .i64)), ro r_2_Cyclev 1 (r_2.Cycle.map (eInt .i64)), box b1 [.int .i64 n_0.Nodes, n_0_Arcsv], box b2 [r_2_Distv, r_2_Viav, r_2_Cyclev]]) (fun σ => σ = (((!r3) || decide (60 < (r_2.Dist.length : Int))) || decide (60 < (r_2.Via.length : Int)))) (fun L8 hL9 => ?_) ?_
 ·refine ops_split 19 ((!r3) || decide (60 < (r_2.Dist.length : Int))) rfl (fun hg10 => ?_) (fun hg10 => ?_)
  ·skip
   refine ops_no 9 false 19 rfl rfl rfl rfl rfl ?_
   refine ops_no 9 false 19 rfl rfl rfl rfl rfl ?_
   refine ops_no 9 false 19 rfl rfl rfl rfl rfl ?_
   refine ops_no 9 false 19 rfl rfl rfl rfl rfl ?_
   refine oy rfl rfl (y_pick (b := true) rfl rfl) ?_
   refine ops_nil ?_
   exact goes_cut hL9 true [0, 1, 2, 3, 4, 5] (qv4 rfl rfl rfl rfl) (by decide) rfl (by rw [hg10]; simp)
  ·skip
   refine ops_y (wg 9 false 19 rfl rfl rfl rfl) rfl (y_fieldAddr_box (sz := 0) Try.runUnderlying51 rfl Try.sizeOf34 rfl) ?_
   refine ops_y (wg 9 false 19 rfl rfl rfl rfl) rfl (y_load_box 5 Try.isAgg34 rfl rfl rfl) ?_
   refine ops_y (wg 9 false 19 rfl rfl rfl rfl) rfl ((y_len 2 rfl Try.runUnderlying34 rfl rfl reads_ro).to (v_len (eInt .i64) _)) ?_
   refine ops_y (wg 9 false 19 rfl rfl rfl rfl) rfl (y_gtr rfl rfl) ?_
   refine oy rfl rfl (y_pick (b := false) rfl rfl) ?_
   refine ops_nil ?_
   exact goes_cut hL9 (decide (60 < (r_2.Via.length : Int))) [0, 1, 2, 3, 4, 5] (qv4 rfl rfl rfl rfl) (by decide) rfl (by rw [hg10]; simp)
 rintro _ rfl
 refine oy rfl rfl (y_move rfl) ?_
 refine ops_cut 5 (Bool) (fun σ => [(1, .int .i64 from_1), (3, boxP b1 0), (5, boxP b2 0), (30, .bool σ)]) (fun σ => [ro n_0_Arcsv 4 (n_0.Arcs.map S_api_Arc.enc), ro r_2_Distv 1 (r_2.Dist.map (eInt .i64)), ro r_2_Viav 1 (r_2.Via.map (eInt .i64)), ro r_2_Cyclev 1 (r_2.Cycle.map (eInt .i64)), box b1 [.int .i64 n_0.Nodes, n_0_Arcsv], box b2 [r_2_Distv, r_2_Viav, r_2_Cyclev]]) (fun σ => σ = ((((!r3) || decide (60 < (r_2.Dist.length : Int))) || decide (60 < (r_2.Via.length : Int))) || decide (60 < (r_2.Cycle.length : Int)))) (fun L11 hL12 => ?_) ?_
 ·refine ops_split 25 (((!r3) || decide (60 < (r_2.Dist.length : Int))) || decide (60 < (r_2.Via.length : Int))) rfl (fun hg13 => ?_) (fun hg13 => ?_)
  ·skip
   refine ops_no 15 false 25 rfl rfl rfl rfl rfl ?_
   refine ops_no 15 false 25 rfl rfl rfl rfl rfl ?_
   refine ops_no 15 false 25 rfl rfl rfl rfl rfl ?_
   refine ops_no 15 false 25 rfl rfl rfl rfl rfl ?_
   refine oy rfl rfl (y_pick (b := true) rfl rfl) ?_
   refine ops_nil ?_
   exact goes_cut hL12 true [0, 1, 2, 3, 4, 5] (qv4 rfl rfl rfl rfl) (by decide) rfl (by rw [hg13]; simp)
  ·skip
   refine ops_y (wg 15 false 25 rfl rfl rfl rfl) rfl (y_fieldAddr_box (sz := 0) Try.runUnderlying51 rfl Try.sizeOf34 rfl) ?_
   refine ops_y (wg 15 false 25 rfl rfl rfl rfl) rfl (y_load_box 5 Try.isAgg34 rfl rfl rfl) ?_
   refine ops_y (wg 15 false 25 rfl rfl rfl rfl) rfl ((y_len 3 rfl Try.runUnderlying34 rfl rfl reads_ro).to (v_len (eInt .i64) _)) ?_
   refine ops_y (wg 15 false 25 rfl rfl rfl rfl) rfl (y_gtr rfl rfl) ?_
   refine oy rfl rfl (y_pick (b := false) rfl rfl) ?_
   refine ops_nil ?_
   exact goes_cut hL12 (decide (60 < (r_2.Cycle.length : Int))) [0, 1, 2, 3, 4, 5] (qv4 rfl rfl rfl rfl) (by decide) rfl (by rw [hg13]; simp)
 rintro _ rfl
 refine ops_nil ?_
 refine goes_code ?_
 refine run_cond ((((!r3) || decide (60 < (r_2.Dist.length : Int))) || decide (60 < (r_2.Via.length : Int))) || decide (60 < (r_2.Cycle.length : Int))) rfl (fun hc14 => ?_) (fun hc14 => ?_)
 ·replace h := cond_t h hc14
  refine run_seq ?_
  refine run_region' ?_
  obtain ⟨r15, hr16, h⟩ := obind_some h
  refine ot rfl rfl (t_callx (vs := []) (cs := []) [] rfl Try.call10 rfl (law09_sanity_ok n   hr16) showsX_nil rfl (.inl rfl)) ?_
  rintro _ _ ⟨_, ⟨rfl, rfl⟩, rfl⟩
  refine oy rfl rfl (y_assign rfl) ?_
  refine ops_nil ?_
  refine goes_code ?_
  refine run_ret ?_
  obtain rfl := some_eq h
  refine fin_slots [6] [.bool r15] [] [] Try.results4 rfl (by decide) rfl ?_
  exact ⟨rfl, rfl⟩
 ·replace h := cond_f h hc14
  refine run_skip ?_
  refine goes_code ?_
  refine run_seq ?_
  refine run_region' ?_
  refine oy rfl rfl (y_load_boxagg (c := [.int .i64 n_0.Nodes, n_0_Arcsv]) 4 Try.isAgg24 Try.sizeOf24 rfl rfl rfl) ?_
  refine oy rfl rfl (y_move rfl) ?_
  obtain ⟨r17, hr18, h⟩ := obind_some h
  refine ot rfl rfl (t_callx (vs := [.agg #[.int .i64 n_0.Nodes, n_0_Arcsv], .int .i64 from_1]) (cs := []) [(0, 0)] rfl Try.call22 rfl (graph_Paths_ok n n_0 from_1 n_0_Arcsv hr18) (showsX_view 0 rfl views_ro showsX_nil) rfl (.inl rfl)) ?_
  rintro _ _ ⟨_, ⟨v19, v20, v21, rfl, rfl⟩, rfl⟩
  refine oy rfl rfl (y_move rfl) ?_
  refine oy rfl rfl (y_extract rfl rfl) ?_
  refine oy rfl rfl (y_extract rfl rfl) ?_
  refine ot rfl rfl (t_alloc Try.zeroValue51) ?_
  rintro _ _ ⟨b22, rfl, rfl⟩
  refine ops_slc 6 rfl reads_row (fun hs23 hs23o => ?_)
  refine ops_slc 7 rfl reads_row (fun hs24 hs24o => ?_)
  refine ops_slc 8 rfl reads_row (fun hs25 hs25o => ?_)
  refine ot rfl rfl (t_store 9 Try.sizeOf51 rfl rfl rfl rfl (by simp [Value.cells, boxP]) (by intro u hu; replace hu : u ∈ ([v19, v20, v21] : List Value) := hu; simp only [List.mem_cons, List.not_mem_nil, or_false] at hu; rcases hu with rfl | rfl | rfl <;> first | rfl | assumption)) ?_
  rintro _ _ ⟨rfl, rfl⟩
  refine ops_turn (retell 9 (g := box b22 [v19, v20, v21]) rfl rfl) ?_
  refine oy rfl rfl (y_assign rfl) ?_
  refine ops_nil ?_
  refine goes_code ?_
  refine run_seq ?_
  refine run_weak [(1, .int .i64 from_1), (3, boxP b1 0), (5, boxP b2 0), (7, boxP b22 0), (8, .int .i64 r17.2)] [0, 1, 2, 3, 4, 5, 6, 7, 8, 9] [ro n_0_Arcsv 4 (n_0.Arcs.map S_api_Arc.enc), ro r_2_Distv 1 (r_2.Dist.map (eInt .i64)), ro r_2_Viav 1 (r_2.Via.map (eInt .i64)), ro r_2_Cyclev 1 (r_2.Cycle.map (eInt .i64)), box b1 [.int .i64 n_0.Nodes, n_0_Arcsv], box b2 [r_2_Distv, r_2_Viav, r_2_Cyclev], row v19 1 (r17.1.Dist.map (eInt .i64)), row v20 1 (r17.1.Via.map (eInt .i64)), row v21 1 (r17.1.Cycle.map (eInt .i64)), box b22 [v19, v20, v21]] (qv5 rfl rfl rfl rfl rfl) (by decide) rfl ?_
  refine run_region' ?_
  refine oy rfl rfl (y_load_boxagg (c := [.int .i64 n_0.Nodes, n_0_Arcsv]) 4 Try.isAgg24 Try.sizeOf24 rfl rfl rfl) ?_
  refine oy rfl rfl (y_move rfl) ?_
  obtain ⟨r26, hr27, h⟩ := obind_some h
  refine ot rfl rfl (t_callx (vs := [.agg #[.int .i64 n_0.Nodes, n_0_Arcsv], .int .i64 from_1]) (cs := []) [(0, 0)] rfl Try.call23 rfl (ref09_Paths_ok n n_0 from_1 n_0_Arcsv hr27) (showsX_view 0 rfl views_ro showsX_nil) rfl (.inl rfl)) ?_
  rintro _ _ ⟨_, ⟨v28, v29, v30, rfl, rfl⟩, rfl⟩
  refine ot rfl rfl (t_alloc Try.zeroValue55) ?_
  rintro _ _ ⟨b31, rfl, rfl⟩
  refine ops_slc 10 rfl reads_row (fun hs32 hs32o => ?_)
  refine ops_slc 11 rfl reads_row (fun hs33 hs33o => ?_)
  refine ops_slc 12 rfl reads_row (fun hs34 hs34o => ?_)
  refine ot rfl rfl (t_store 13 Try.sizeOf55 rfl rfl rfl rfl (by simp [Value.cells, boxP]) (by intro u hu; replace hu : u ∈ ([v28, v29, v30, .bool r26.Negative, .int .i64 r26.E] : List Value) := hu; simp only [List.mem_cons, List.not_mem_nil, or_false] at hu; rcases hu with rfl | rfl | rfl | rfl | rfl <;> first | rfl | assumption)) ?_
  rintro _ _ ⟨rfl, rfl⟩
  refine ops_turn (retell 13 (g := box b31 [v28, v29, v30, .bool r26.Negative, .int .i64 r26.E]) rfl rfl) ?_
  refine ops_nil ?_
  refine goes_code ?_
  refine run_seq ?_
  refine run_seq ?_
  refine run_drawany [ro n_0_Arcsv 4 (n_0.Arcs.map S_api_Arc.enc), ro r_2_Distv 1 (r_2.Dist.map (eInt .i64)), ro r_2_Viav 1 (r_2.Via.map (eInt .i64)), ro r_2_Cyclev 1 (r_2.Cycle.map (eInt .i64)), box b1 [.int .i64 n_0.Nodes, n_0_Arcsv], box b2 [r_2_Distv, r_2_Viav, r_2_Cyclev], row v19 1 (r17.1.Dist.map (eInt .i64)), row v20 1 (r17.1.Via.map (eInt .i64)), row v21 1 (r17.1.Cycle.map (eInt .i64)), box b22 [v19, v20, v21], row v28 1 (r26.R.Dist.map (eInt .i64)), row v29 1 (r26.R.Via.map (eInt .i64)), row v30 1 (r26.R.Cycle.map (eInt .i64)), box b31 [v28, v29, v30, .bool r26.Negative, .int .i64 r26.E]] (by kernel_rfl) ?_
  refine any_y 0 rfl (by kernel_rfl) (by kernel_rfl) (by kernel_rfl) (ss (ss (ss (ss (ss (ss (ss (ss (ss (ss (ss (ss (ss (ss (sn))))))))))))))) (wn rfl) rfl (y_move rfl) ?_
  refine any_y 1 rfl (by kernel_rfl) (by kernel_rfl) (by kernel_rfl) (ss (ss (ss (ss (ss (ss (ss (ss (ss (ss (ss (ss (ss (ss (sn))))))))))))))) (wn rfl) rfl (y_fieldAddr_box (sz := 0) Try.runUnderlying55 rfl Try.sizeOf28 rfl) ?_
  refine any_y 2 rfl (by kernel_rfl) (by kernel_rfl) (by kernel_rfl) (ss (ss (ss (ss (ss (ss (ss (ss (ss (ss (ss (ss (ss (ss (sn))))))))))))))) (wn rfl) rfl (y_load_box 13 Try.isAgg28 rfl rfl rfl) ?_
  refine any_y 3 rfl (by kernel_rfl) (by kernel_rfl) (by kernel_rfl) (ss (ss (ss (ss (ss (ss (ss (ss (ss (ss (ss (ss (ss (ss (sn))))))))))))))) (wn rfl) rfl (y_neq rfl rfl) ?_
  refine any_y 4 rfl (by kernel_rfl) (by kernel_rfl) (by kernel_rfl) (ss (ss (ss (ss (ss (ss (ss (ss (ss (ss (ss (ss (ss (ss (sn))))))))))))))) (wn rfl) rfl (y_move rfl) ?_
  obtain ⟨o36, h, ho37⟩ := bindJ_some h
  refine any_cut #[true, true, true, true, true, true, true, true, true, true, true, true, true, false, false, false, false, false, false, false, false, false, false, false, false, false, false, false, false, false, false, false, false, false, false, false, false, false, false, false, false, false] 29 Bool (fun σ => [(1, .int .i64 from_1), (3, boxP b1 0), (5, boxP b2 0), (7, boxP b22 0), (8, .int .i64 r17.2), (9, boxP b31 0), (53, .bool σ)]) (fun σ => [ro n_0_Arcsv 4 (n_0.Arcs.map S_api_Arc.enc), ro r_2_Distv 1 (r_2.Dist.map (eInt .i64)), ro r_2_Viav 1 (r_2.Via.map (eInt .i64)), ro r_2_Cyclev 1 (r_2.Cycle.map (eInt .i64)), box b1 [.int .i64 n_0.Nodes, n_0_Arcsv], box b2 [r_2_Distv, r_2_Viav, r_2_Cyclev], row v19 1 (r17.1.Dist.map (eInt .i64)), row v20 1 (r17.1.Via.map (eInt .i64)), row v21 1 (r17.1.Cycle.map (eInt .i64)), box b22 [v19, v20, v21], row v28 1 (r26.R.Dist.map (eInt .i64)), row v29 1 (r26.R.Via.map (eInt .i64)), row v30 1 (r26.R.Cycle.map (eInt .i64)), box b31 [v28, v29, v30, .bool r26.Negative, .int .i64 r26.E]]) (fun σ => o36 = .go σ) (fun hL39 => ?_) ?_
  ·refine any_split 45 (decide (r17.2 ≠ r26.E)) rfl (fun hg40 => ?_) (fun hg40 => ?_)
   ·replace h := cond_t h hg40
    refine any_no 5 rfl (by kernel_rfl) (by kernel_rfl) (by kernel_rfl) (ss (ss (ss (ss (ss (ss (ss (ss (ss (ss (ss (ss (ss (ss (sn))))))))))))))) 4 false 45 rfl rfl rfl rfl rfl ?_
    refine any_no 6 rfl (by kernel_rfl) (by kernel_rfl) (by kernel_rfl) (ss (ss (ss (ss (ss (ss (ss (ss (ss (ss (ss (ss (ss (ss (sn))))))))))))))) 4 false 45 rfl rfl rfl rfl rfl ?_
    refine any_no 7 rfl (by kernel_rfl) (by kernel_rfl) (by kernel_rfl) (ss (ss (ss (ss (ss (ss (ss (ss (ss (ss (ss (ss (ss (ss (sn))))))))))))))) 4 false 45 rfl rfl rfl rfl rfl ?_
    refine any_no 8 rfl (by kernel_rfl) (by kernel_rfl) (by kernel_rfl) (ss (ss (ss (ss (ss (ss (ss (ss (ss (ss (ss (ss (ss (ss (sn))))))))))))))) 4 false 45 rfl rfl rfl rfl rfl ?_
    refine any_no 9 rfl (by kernel_rfl) (by kernel_rfl) (by kernel_rfl) (ss (ss (ss (ss (ss (ss (ss (ss (ss (ss (ss (ss (ss (ss (sn))))))))))))))) 4 false 45 rfl rfl rfl rfl rfl ?_
    refine any_no 10 rfl (by kernel_rfl) (by kernel_rfl) (by kernel_rfl) (ss (ss (ss (ss (ss (ss (ss (ss (ss (ss (ss (ss (ss (ss (sn))))))))))))))) 4 false 45 rfl rfl rfl rfl rfl ?_
    refine any_no 11 rfl (by kernel_rfl) (by kernel_rfl) (by kernel_rfl) (ss (ss (ss (ss (ss (ss (ss (ss (ss (ss (ss (ss (ss (ss (sn))))))))))))))) 4 false 45 rfl rfl rfl rfl rfl ?_
    refine any_y 12 rfl (by kernel_rfl) (by kernel_rfl) (by kernel_rfl) (ss (ss (ss (ss (ss (ss (ss (ss (ss (ss (ss (ss (ss (ss (sn))))))))))))))) (wn rfl) rfl (y_pick (b := true) rfl rfl) ?_
    obtain rfl := some_eq h
    exact any_weak [(1, .int .i64 from_1), (3, boxP b1 0), (5, boxP b2 0), (7, boxP b22 0), (8, .int .i64 r17.2), (9, boxP b31 0), (53, .bool true)] [0, 1, 2, 3, 4, 5, 6, 7, 8, 9, 10, 11, 12, 13] [ro n_0_Arcsv 4 (n_0.Arcs.map S_api_Arc.enc), ro r_2_Distv 1 (r_2.Dist.map (eInt .i64)), ro r_2_Viav 1 (r_2.Via.map (eInt .i64)), ro r_2_Cyclev 1 (r_2.Cycle.map (eInt .i64)), box b1 [.int .i64 n_0.Nodes, n_0_Arcsv], box b2 [r_2_Distv, r_2_Viav, r_2_Cyclev], row v19 1 (r17.1.Dist.map (eInt .i64)), row v20 1 (r17.1.Via.map (eInt .i64)), row v21 1 (r17.1.Cycle.map (eInt .i64)), box b22 [v19, v20, v21], row v28 1 (r26.R.Dist.map (eInt .i64)), row v29 1 (r26.R.Via.map (eInt .i64)), row v30 1 (r26.R.Cycle.map (eInt .i64)), box b31 [v28, v29, v30, .bool r26.Negative, .int .i64 r26.E]] (by kernel_rfl) (qv7 rfl rfl rfl rfl rfl rfl rfl) (by decide) rfl (hL39 true rfl)
   ·replace h := cond_f h hg40
    refine any_y 5 rfl (by kernel_rfl) (by kernel_rfl) (by kernel_rfl) (ss (ss (ss (ss (ss (ss (ss (ss (ss (ss (ss (ss (ss (ss (sn))))))))))))))) (wg 4 false 45 rfl rfl rfl rfl) rfl (y_fieldAddr_box (sz := 0) Try.runUnderlying51 rfl Try.sizeOf34 rfl) ?_
    refine any_y 6 rfl (by kernel_rfl) (by kernel_rfl) (by kernel_rfl) (ss (ss (ss (ss (ss (ss (ss (ss (ss (ss (ss (ss (ss (ss (sn))))))))))))))) (wg 4 false 45 rfl rfl rfl rfl) rfl (y_load_box 9 Try.isAgg34 rfl rfl rfl) ?_
    refine any_y 7 rfl (by kernel_rfl) (by kernel_rfl) (by kernel_rfl) (ss (ss (ss (ss (ss (ss (ss (ss (ss (ss (ss (ss (ss (ss (sn))))))))))))))) (wg 4 false 45 rfl rfl rfl rfl) rfl (y_fieldAddr_box (sz := 2) Try.runUnderlying55 rfl Try.sizeOf51 rfl) ?_
    refine any_y 8 rfl (by kernel_rfl) (by kernel_rfl) (by kernel_rfl) (ss (ss (ss (ss (ss (ss (ss (ss (ss (ss (ss (ss (ss (ss (sn))))))))))))))) (wg 4 false 45 rfl rfl rfl rfl) rfl (y_fieldAddr_box (sz := 0) Try.runUnderlying51 rfl Try.sizeOf34 rfl) ?_
    refine any_y 9 rfl (by kernel_rfl) (by kernel_rfl) (by kernel_rfl) (ss (ss (ss (ss (ss (ss (ss (ss (ss (ss (ss (ss (ss (ss (sn))))))))))))))) (wg 4 false 45 rfl rfl rfl rfl) rfl (y_load_box 13 Try.isAgg34 rfl rfl rfl) ?_
    refine any_all [10] (by kernel_rfl) rfl (anyo_cons ?_ anyo_nil)
    obtain ⟨r41, hr42, h⟩ := obind_some h
    refine any_t rfl (wg 4 false 45 rfl rfl rfl rfl) rfl (t_callx (vs := [v19, v28]) (cs := []) [(6, 1), (10, 1)] rfl Try.call20 rfl (ref09_Same_ok n r17.1.Dist r26.R.Dist v19 v28 hr42) (showsX_look 6 rfl views_row (showsX_look 10 rfl views_row showsX_nil)) rfl (.inr (by rintro _ _ ⟨rfl, rfl⟩ g hg; first | (cases hg; done) | (simp only [List.mem_cons, List.not_mem_nil, or_false] at hg; first | (subst hg; first | exact strict_row | exact strict_box) | (rcases hg with rfl | rfl <;> first | exact strict_row | exact strict_box) | (rcases hg with rfl | rfl | rfl <;> first | exact strict_row | exact strict_box))))) ?_
    rintro _ _ ⟨_, ⟨rfl, rfl⟩, rfl⟩
    refine ⟨(ss (ss (ss (ss (ss (ss (ss (ss (ss (ss (ss (ss (ss (ss (sn))))))))))))))), ?_⟩
    refine any_y 11 rfl (by kernel_rfl) (by kernel_rfl) (by kernel_rfl) (ss (ss (ss (ss (ss (ss (ss (ss (ss (ss (ss (ss (ss (ss (sn))))))))))))))) (wg 4 false 45 rfl rfl rfl rfl) rfl (y_not rfl) ?_
    refine any_y 12 rfl (by kernel_rfl) (by kernel_rfl) (by kernel_rfl) (ss (ss (ss (ss (ss (ss (ss (ss (ss (ss (ss (ss (ss (ss (sn))))))))))))))) (wn rfl) rfl (y_pick (b := false) rfl rfl) ?_
    obtain rfl := some_eq h
    exact any_weak [(1, .int .i64 from_1), (3, boxP b1 0), (5, boxP b2 0), (7, boxP b22 0), (8, .int .i64 r17.2), (9, boxP b31 0), (53, .bool (!r41))] [0, 1, 2, 3, 4, 5, 6, 7, 8, 9, 10, 11, 12, 13] [ro n_0_Arcsv 4 (n_0.Arcs.map S_api_Arc.enc), ro r_2_Distv 1 (r_2.Dist.map (eInt .i64)), ro r_2_Viav 1 (r_2.Via.map (eInt .i64)), ro r_2_Cyclev 1 (r_2.Cycle.map (eInt .i64)), box b1 [.int .i64 n_0.Nodes, n_0_Arcsv], box b2 [r_2_Distv, r_2_Viav, r_2_Cyclev], row v19 1 (r17.1.Dist.map (eInt .i64)), row v20 1 (r17.1.Via.map (eInt .i64)), row v21 1 (r17.1.Cycle.map (eInt .i64)), box b22 [v19, v20, v21], row v28 1 (r26.R.Dist.map (eInt .i64)), row v29 1 (r26.R.Via.map (eInt .i64)), row v30 1 (r26.R.Cycle.map (eInt .i64)), box b31 [v28, v29, v30, .bool r26.Negative, .int .i64 r26.E]] (by kernel_rfl) (qv7 rfl rfl rfl rfl rfl rfl rfl) (by decide) rfl (hL39 (!r41) rfl)
  rintro b35 hj
  obtain rfl : o36 = _ := hj
  replace h := after_go ho37
  clear ho37
  refine any_y 13 rfl (by kernel_rfl) (by kernel_rfl) (by kernel_rfl) (ss (ss (ss (ss (ss (ss (ss (ss (ss (ss (ss (ss (ss (ss (sn))))))))))))))) (wn rfl) rfl (y_move rfl) ?_
  obtain ⟨o44, h, ho45⟩ := bindJ_some h
  refine any_cut #[true, true, true, true, true, true, true, true, true, true, true, true, true, true, true, true, true, true, true, true, true, true, false, false, false, false, false, false, false, false, false, false, false, false, false, false, false, false, false, false, false, false] 20 Bool (fun σ => [(1, .int .i64 from_1), (3, boxP b1 0), (5, boxP b2 0), (7, boxP b22 0), (8, .int .i64 r17.2), (9, boxP b31 0), (62, .bool σ)]) (fun σ => [ro n_0_Arcsv 4 (n_0.Arcs.map S_api_Arc.enc), ro r_2_Distv 1 (r_2.Dist.map (eInt .i64)), ro r_2_Viav 1 (r_2.Via.map (eInt .i64)), ro r_2_Cyclev 1 (r_2.Cycle.map (eInt .i64)), box b1 [.int .i64 n_0.Nodes, n_0_Arcsv], box b2 [r_2_Distv, r_2_Viav, r_2_Cyclev], row v19 1 (r17.1.Dist.map (eInt .i64)), row v20 1 (r17.1.Via.map (eInt .i64)), row v21 1 (r17.1.Cycle.map (eInt .i64)), box b22 [v19, v20, v21], row v28 1 (r26.R.Dist.map (eInt .i64)), row v29 1 (r26.R.Via.map (eInt .i64)), row v30 1 (r26.R.Cycle.map (eInt .i64)), box b31 [v28, v29, v30, .bool r26.Negative, .int .i64 r26.E]]) (fun σ => o44 = .go σ) (fun hL47 => ?_) ?_
  ·refine any_split 54 b35 rfl (fun hg48 => ?_) (fun hg48 => ?_)
   ·replace h := cond_t h hg48
    refine any_no 14 rfl (by kernel_rfl) (by kernel_rfl) (by kernel_rfl) (ss (ss (ss (ss (ss (ss (ss (ss (ss (ss (ss (ss (ss (ss (sn))))))))))))))) 13 false 54 rfl rfl rfl rfl rfl ?_
    refine any_no 15 rfl (by kernel_rfl) (by kernel_rfl) (by kernel_rfl) (ss (ss (ss (ss (ss (ss (ss (ss (ss (ss (ss (ss (ss (ss (sn))))))))))))))) 13 false 54 rfl rfl rfl rfl rfl ?_
    refine any_no 16 rfl (by kernel_rfl) (by kernel_rfl) (by kernel_rfl) (ss (ss (ss (ss (ss (ss (ss (ss (ss (ss (ss (ss (ss (ss (sn))))))))))))))) 13 false 54 rfl rfl rfl rfl rfl ?_
    refine any_no 17 rfl (by kernel_rfl) (by kernel_rfl) (by kernel_rfl) (ss (ss (ss (ss (ss (ss (ss (ss (ss (ss (ss (ss (ss (ss (sn))))))))))))))) 13 false 54 rfl rfl rfl rfl rfl ?_
    refine any_no 18 rfl (by kernel_rfl) (by kernel_rfl) (by kernel_rfl) (ss (ss (ss (ss (ss (ss (ss (ss (ss (ss (ss (ss (ss (ss (sn))))))))))))))) 13 false 54 rfl rfl rfl rfl rfl ?_
    refine any_no 19 rfl (by kernel_rfl) (by kernel_rfl) (by kernel_rfl) (ss (ss (ss (ss (ss (ss (ss (ss (ss (ss (ss (ss (ss (ss (sn))))))))))))))) 13 false 54 rfl rfl rfl rfl rfl ?_
    refine any_no 20 rfl (by kernel_rfl) (by kernel_rfl) (by kernel_rfl) (ss (ss (ss (ss (ss (ss (ss (ss (ss (ss (ss (ss (ss (ss (sn))))))))))))))) 13 false 54 rfl rfl rfl rfl rfl ?_
    refine any_y 21 rfl (by kernel_rfl) (by kernel_rfl) (by kernel_rfl) (ss (ss (ss (ss (ss (ss (ss (ss (ss (ss (ss (ss (ss (ss (sn))))))))))))))) (wn rfl) rfl (y_pick (b := true) rfl rfl) ?_
    obtain rfl := some_eq h
    exact any_weak [(1, .int .i64 from_1), (3, boxP b1 0), (5, boxP b2 0), (7, boxP b22 0), (8, .int .i64 r17.2), (9, boxP b31 0), (62, .bool true)] [0, 1, 2, 3, 4, 5, 6, 7, 8, 9, 10, 11, 12, 13] [ro n_0_Arcsv 4 (n_0.Arcs.map S_api_Arc.enc), ro r_2_Distv 1 (r_2.Dist.map (eInt .i64)), ro r_2_Viav 1 (r_2.Via.map (eInt .i64)), ro r_2_Cyclev 1 (r_2.Cycle.map (eInt .i64)), box b1 [.int .i64 n_0.Nodes, n_0_Arcsv], box b2 [r_2_Distv, r_2_Viav, r_2_Cyclev], row v19 1 (r17.1.Dist.map (eInt .i64)), row v20 1 (r17.1.Via.map (eInt .i64)), row v21 1 (r17.1.Cycle.map (eInt .i64)), box b22 [v19, v20, v21], row v28 1 (r26.R.Dist.map (eInt .i64)), row v29 1 (r26.R.Via.map (eInt .i64)), row v30 1 (r26.R.Cycle.map (eInt .i64)), box b31 [v28, v29, v30, .bool r26.Negative, .int .i64 r26.E]] (by kernel_rfl) (qv7 rfl rfl rfl rfl rfl rfl rfl) (by decide) rfl (hL47 true rfl)
   ·replace h := cond_f h hg48
    refine any_y 14 rfl (by kernel_rfl) (by kernel_rfl) (by kernel_rfl) (ss (ss (ss (ss (ss (ss (ss (ss (ss (ss (ss (ss (ss (ss (sn))))))))))))))) (wg 13 false 54 rfl rfl rfl rfl) rfl (y_fieldAddr_box (sz := 0) Try.runUnderlying51 rfl Try.sizeOf34 rfl) ?_
    refine any_y 15 rfl (by kernel_rfl) (by kernel_rfl) (by kernel_rfl) (ss (ss (ss (ss (ss (ss (ss (ss (ss (ss (ss (ss (ss (ss (sn))))))))))))))) (wg 13 false 54 rfl rfl rfl rfl) rfl (y_load_box 9 Try.isAgg34 rfl rfl rfl) ?_
    refine any_y 16 rfl (by kernel_rfl) (by kernel_rfl) (by kernel_rfl) (ss (ss (ss (ss (ss (ss (ss (ss (ss (ss (ss (ss (ss (ss (sn))))))))))))))) (wg 13 false 54 rfl rfl rfl rfl) rfl (y_fieldAddr_box (sz := 2) Try.runUnderlying55 rfl Try.sizeOf51 rfl) ?_
    refine any_y 17 rfl (by kernel_rfl) (by kernel_rfl) (by kernel_rfl) (ss (ss (ss (ss (ss (ss (ss (ss (ss (ss (ss (ss (ss (ss (sn))))))))))))))) (wg 13 false 54 rfl rfl rfl rfl) rfl (y_fieldAddr_box (sz := 0) Try.runUnderlying51 rfl Try.sizeOf34 rfl) ?_
    refine any_y 18 rfl (by kernel_rfl) (by kernel_rfl) (by kernel_rfl) (ss (ss (ss (ss (ss (ss (ss (ss (ss (ss (ss (ss (ss (ss (sn))))))))))))))) (wg 13 false 54 rfl rfl rfl rfl) rfl (y_load_box 13 Try.isAgg34 rfl rfl rfl) ?_
    refine any_all [19] (by kernel_rfl) rfl (anyo_cons ?_ anyo_nil)
    obtain ⟨r49, hr50, h⟩ := obind_some h
    refine any_t rfl (wg 13 false 54 rfl rfl rfl rfl) rfl (t_callx (vs := [v20, v29]) (cs := []) [(7, 1), (11, 1)] rfl Try.call20 rfl (ref09_Same_ok n r17.1.Via r26.R.Via v20 v29 hr50) (showsX_look 7 rfl views_row (showsX_look 11 rfl views_row showsX_nil)) rfl (.inr (by rintro _ _ ⟨rfl, rfl⟩ g hg; first | (cases hg; done) | (simp only [List.mem_cons, List.not_mem_nil, or_false] at hg; first | (subst hg; first | exact strict_row | exact strict_box) | (rcases hg with rfl | rfl <;> first | exact strict_row | exact strict_box) | (rcases hg with rfl | rfl | rfl <;> first | exact strict_row | exact strict_box))))) ?_
    rintro _ _ ⟨_, ⟨rfl, rfl⟩, rfl⟩
    refine ⟨(ss (ss (ss (ss (ss (ss (ss (ss (ss (ss (ss (ss (ss (ss (sn))))))))))))))), ?_⟩
    refine any_y 20 rfl (by kernel_rfl) (by kernel_rfl) (by kernel_rfl) (ss (ss (ss (ss (ss (ss (ss (ss (ss (ss (ss (ss (ss (ss (sn))))))))))))))) (wg 13 false 54 rfl rfl rfl rfl) rfl (y_not rfl) ?_
    refine any_y 21 rfl (by kernel_rfl) (by kernel_rfl) (by kernel_rfl) (ss (ss (ss (ss (ss (ss (ss (ss (ss (ss (ss (ss (ss (ss (sn))))))))))))))) (wn rfl) rfl (y_pick (b := false) rfl rfl) ?_
    obtain rfl := some_eq h
    exact any_weak [(1, .int .i64 from_1), (3, boxP b1 0), (5, boxP b2 0), (7, boxP b22 0), (8, .int .i64 r17.2), (9, boxP b31 0), (62, .bool (!r49))] [0, 1, 2, 3, 4, 5, 6, 7, 8, 9, 10, 11, 12, 13] [ro n_0_Arcsv 4 (n_0.Arcs.map S_api_Arc.enc), ro r_2_Distv 1 (r_2.Dist.map (eInt .i64)), ro r_2_Viav 1 (r_2.Via.map (eInt .i64)), ro r_2_Cyclev 1 (r_2.Cycle.map (eInt .i64)), box b1 [.int .i64 n_0.Nodes, n_0_Arcsv], box b2 [r_2_Distv, r_2_Viav, r_2_Cyclev], row v19 1 (r17.1.Dist.map (eInt .i64)), row v20 1 (r17.1.Via.map (eInt .i64)), row v21 1 (r17.1.Cycle.map (eInt .i64)), box b22 [v19, v20, v21], row v28 1 (r26.R.Dist.map (eInt .i64)), row v29 1 (r26.R.Via.map (eInt .i64)), row v30 1 (r26.R.Cycle.map (eInt .i64)), box b31 [v28, v29, v30, .bool r26.Negative, .int .i64 r26.E]] (by kernel_rfl) (qv7 rfl rfl rfl rfl rfl rfl rfl) (by decide) rfl (hL47 (!r49) rfl)
  rintro b43 hj
  obtain rfl : o44 = _ := hj
  replace h := after_go ho45
  clear ho45
  refine any_y 22 rfl (by kernel_rfl) (by kernel_rfl) (by kernel_rfl) (ss (ss (ss (ss (ss (ss (ss (ss (ss (ss (ss (ss (ss (ss (sn))))))))))))))) (wn rfl) rfl (y_move rfl) ?_
  refine any_cut #[true, true, true, true, true, true, true, true, true, true, true, true, true, true, true, true, true, true, true, true, true, true, true, true, true, true, true, true, true, true, true, false, false, false, false, false, false, false, false, false, false, false] 11 Bool (fun σ => [(1, .int .i64 from_1), (3, boxP b1 0), (5, boxP b2 0), (7, boxP b22 0), (8, .int .i64 r17.2), (71, .bool σ)]) (fun σ => [ro n_0_Arcsv 4 (n_0.Arcs.map S_api_Arc.enc), ro r_2_Distv 1 (r_2.Dist.map (eInt .i64)), ro r_2_Viav 1 (r_2.Via.map (eInt .i64)), ro r_2_Cyclev 1 (r_2.Cycle.map (eInt .i64)), box b1 [.int .i64 n_0.Nodes, n_0_Arcsv], box b2 [r_2_Distv, r_2_Viav, r_2_Cyclev], row v19 1 (r17.1.Dist.map (eInt .i64)), row v20 1 (r17.1.Via.map (eInt .i64)), row v21 1 (r17.1.Cycle.map (eInt .i64)), box b22 [v19, v20, v21], row v28 1 (r26.R.Dist.map (eInt .i64)), row v29 1 (r26.R.Via.map (eInt .i64)), row v30 1 (r26.R.Cycle.map (eInt .i64)), box b31 [v28, v29, v30, .bool r26.Negative, .int .i64 r26.E]]) (fun σ => σ = (b43 || (!((decide (0 < (r17.1.Cycle.length : Int))) == r26.Negative)))) (fun hL52 => ?_) ?_
  ·refine any_split 63 b43 rfl (fun hg53 => ?_) (fun hg53 => ?_)
   ·skip
    refine any_no 23 rfl (by kernel_rfl) (by kernel_rfl) (by kernel_rfl) (ss (ss (ss (ss (ss (ss (ss (ss (ss (ss (ss (ss (ss (ss (sn))))))))))))))) 22 false 63 rfl rfl rfl rfl rfl ?_
    refine any_no 24 rfl (by kernel_rfl) (by kernel_rfl) (by kernel_rfl) (ss (ss (ss (ss (ss (ss (ss (ss (ss (ss (ss (ss (ss (ss (sn))))))))))))))) 22 false 63 rfl rfl rfl rfl rfl ?_
    refine any_no 25 rfl (by kernel_rfl) (by kernel_rfl) (by kernel_rfl) (ss (ss (ss (ss (ss (ss (ss (ss (ss (ss (ss (ss (ss (ss (sn))))))))))))))) 22 false 63 rfl rfl rfl rfl rfl ?_
    refine any_no 26 rfl (by kernel_rfl) (by kernel_rfl) (by kernel_rfl) (ss (ss (ss (ss (ss (ss (ss (ss (ss (ss (ss (ss (ss (ss (sn))))))))))))))) 22 false 63 rfl rfl rfl rfl rfl ?_
    refine any_no 27 rfl (by kernel_rfl) (by kernel_rfl) (by kernel_rfl) (ss (ss (ss (ss (ss (ss (ss (ss (ss (ss (ss (ss (ss (ss (sn))))))))))))))) 22 false 63 rfl rfl rfl rfl rfl ?_
    refine any_no 28 rfl (by kernel_rfl) (by kernel_rfl) (by kernel_rfl) (ss (ss (ss (ss (ss (ss (ss (ss (ss (ss (ss (ss (ss (ss (sn))))))))))))))) 22 false 63 rfl rfl rfl rfl rfl ?_
    refine any_no 29 rfl (by kernel_rfl) (by kernel_rfl) (by kernel_rfl) (ss (ss (ss (ss (ss (ss (ss (ss (ss (ss (ss (ss (ss (ss (sn))))))))))))))) 22 false 63 rfl rfl rfl rfl rfl ?_
    refine any_y 30 rfl (by kernel_rfl) (by kernel_rfl) (by kernel_rfl) (ss (ss (ss (ss (ss (ss (ss (ss (ss (ss (ss (ss (ss (ss (sn))))))))))))))) (wn rfl) rfl (y_pick (b := true) rfl rfl) ?_
    exact any_weak [(1, .int .i64 from_1), (3, boxP b1 0), (5, boxP b2 0), (7, boxP b22 0), (8, .int .i64 r17.2), (71, .bool true)] [0, 1, 2, 3, 4, 5, 6, 7, 8, 9, 10, 11, 12, 13] [ro n_0_Arcsv 4 (n_0.Arcs.map S_api_Arc.enc), ro r_2_Distv 1 (r_2.Dist.map (eInt .i64)), ro r_2_Viav 1 (r_2.Via.map (eInt .i64)), ro r_2_Cyclev 1 (r_2.Cycle.map (eInt .i64)), box b1 [.int .i64 n_0.Nodes, n_0_Arcsv], box b2 [r_2_Distv, r_2_Viav, r_2_Cyclev], row v19 1 (r17.1.Dist.map (eInt .i64)), row v20 1 (r17.1.Via.map (eInt .i64)), row v21 1 (r17.1.Cycle.map (eInt .i64)), box b22 [v19, v20, v21], row v28 1 (r26.R.Dist.map (eInt .i64)), row v29 1 (r26.R.Via.map (eInt .i64)), row v30 1 (r26.R.Cycle.map (eInt .i64)), box b31 [v28, v29, v30, .bool r26.Negative, .int .i64 r26.E]] (by kernel_rfl) (qv6 rfl rfl rfl rfl rfl rfl) (by decide) rfl (hL52 true (by rw [hg53]; simp))
   ·skip
    refine any_y 23 rfl (by kernel_rfl) (by kernel_rfl) (by kernel_rfl) (ss (ss (ss (ss (ss (ss (ss (ss (ss (ss (ss (ss (ss (ss (sn))))))))))))))) (wg 22 false 63 rfl rfl rfl rfl) rfl (y_fieldAddr_box (sz := 0) Try.runUnderlying51 rfl Try.sizeOf34 rfl) ?_
    refine any_y 24 rfl (by kernel_rfl) (by kernel_rfl) (by kernel_rfl) (ss (ss (ss (ss (ss (ss (ss (ss (ss (ss (ss (ss (ss (ss (sn))))))))))))))) (wg 22 false 63 rfl rfl rfl rfl) rfl (y_load_box 9 Try.isAgg34 rfl rfl rfl) ?_
    refine any_y 25 rfl (by kernel_rfl) (by kernel_rfl) (by kernel_rfl) (ss (ss (ss (ss (ss (ss (ss (ss (ss (ss (ss (ss (ss (ss (sn))))))))))))))) (wg 22 false 63 rfl rfl rfl rfl) rfl ((y_len 8 rfl Try.runUnderlying34 rfl rfl reads_row).to (v_len (eInt .i64) _)) ?_
    refine any_y 26 rfl (by kernel_rfl) (by kernel_rfl) (by kernel_rfl) (ss (ss (ss (ss (ss (ss (ss (ss (ss (ss (ss (ss (ss (ss (sn))))))))))))))) (wg 22 false 63 rfl rfl rfl rfl) rfl (y_gtr rfl rfl) ?_
    refine any_y 27 rfl (by kernel_rfl) (by kernel_rfl) (by kernel_rfl) (ss (ss (ss (ss (ss (ss (ss (ss (ss (ss (ss (ss (ss (ss (sn))))))))))))))) (wg 22 false 63 rfl rfl rfl rfl) rfl (y_fieldAddr_box (sz := 0) Try.runUnderlying55 rfl Try.sizeOf4 rfl) ?_
    refine any_y 28 rfl (by kernel_rfl) (by kernel_rfl) (by kernel_rfl) (ss (ss (ss (ss (ss (ss (ss (ss (ss (ss (ss (ss (ss (ss (sn))))))))))))))) (wg 22 false 63 rfl rfl rfl rfl) rfl (y_load_box 13 Try.isAgg4 rfl rfl rfl) ?_
    refine any_y 29 rfl (by kernel_rfl) (by kernel_rfl) (by kernel_rfl) (ss (ss (ss (ss (ss (ss (ss (ss (ss (ss (ss (ss (ss (ss (sn))))))))))))))) (wg 22 false 63 rfl rfl rfl rfl) rfl (y_bneq Try.runUnderlying4 rfl rfl) ?_
    refine any_y 30 rfl (by kernel_rfl) (by kernel_rfl) (by kernel_rfl) (ss (ss (ss (ss (ss (ss (ss (ss (ss (ss (ss (ss (ss (ss (sn))))))))))))))) (wn rfl) rfl (y_pick (b := false) rfl rfl) ?_
    exact any_weak [(1, .int .i64 from_1), (3, boxP b1 0), (5, boxP b2 0), (7, boxP b22 0), (8, .int .i64 r17.2), (71, .bool (!((decide (0 < (r17.1.Cycle.length : Int))) == r26.Negative)))] [0, 1, 2, 3, 4, 5, 6, 7, 8, 9, 10, 11, 12, 13] [ro n_0_Arcsv 4 (n_0.Arcs.map S_api_Arc.enc), ro r_2_Distv 1 (r_2.Dist.map (eInt .i64)), ro r_2_Viav 1 (r_2.Via.map (eInt .i64)), ro r_2_Cyclev 1 (r_2.Cycle.map (eInt .i64)), box b1 [.int .i64 n_0.Nodes, n_0_Arcsv], box b2 [r_2_Distv, r_2_Viav, r_2_Cyclev], row v19 1 (r17.1.Dist.map (eInt .i64)), row v20 1 (r17.1.Via.map (eInt .i64)), row v21 1 (r17.1.Cycle.map (eInt .i64)), box b22 [v19, v20, v21], row v28 1 (r26.R.Dist.map (eInt .i64)), row v29 1 (r26.R.Via.map (eInt .i64)), row v30 1 (r26.R.Cycle.map (eInt .i64)), box b31 [v28, v29, v30, .bool r26.Negative, .int .i64 r26.E]] (by kernel_rfl) (qv6 rfl rfl rfl rfl rfl rfl) (by decide) rfl (hL52 (!((decide (0 < (r17.1.Cycle.length : Int))) == r26.Negative)) (by rw [hg53]; simp))
  rintro _ rfl
  refine any_y 31 rfl (by kernel_rfl) (by kernel_rfl) (by kernel_rfl) (ss (ss (ss (ss (ss (ss (ss (ss (ss (ss (ss (ss (ss (ss (sn))))))))))))))) (wn rfl) rfl (y_move rfl) ?_
  obtain ⟨o55, h, ho56⟩ := bindJ_some h
  refine any_cut #[true, true, true, true, true, true, true, true, true, true, true, true, true, true, true, true, true, true, true, true, true, true, true, true, true, true, true, true, true, true, true, true, true, true, true, true, true, true, true, true, true, true] 0 Bool (fun σ => [(1, .int .i64 from_1), (3, boxP b1 0), (7, boxP b22 0), (8, .int .i64 r17.2), (82, .bool σ)]) (fun σ => [ro n_0_Arcsv 4 (n_0.Arcs.map S_api_Arc.enc), ro r_2_Distv 1 (r_2.Dist.map (eInt .i64)), ro r_2_Viav 1 (r_2.Via.map (eInt .i64)), ro r_2_Cyclev 1 (r_2.Cycle.map (eInt .i64)), box b1 [.int .i64 n_0.Nodes, n_0_Arcsv], box b2 [r_2_Distv, r_2_Viav, r_2_Cyclev], row v19 1 (r17.1.Dist.map (eInt .i64)), row v20 1 (r17.1.Via.map (eInt .i64)), row v21 1 (r17.1.Cycle.map (eInt .i64)), box b22 [v19, v20, v21], row v28 1 (r26.R.Dist.map (eInt .i64)), row v29 1 (r26.R.Via.map (eInt .i64)), row v30 1 (r26.R.Cycle.map (eInt .i64)), box b31 [v28, v29, v30, .bool r26.Negative, .int .i64 r26.E]]) (fun σ => o55 = .go σ) (fun hL58 => ?_) ?_
  ·refine any_split 72 (b43 || (!((decide (0 < (r17.1.Cycle.length : Int))) == r26.Negative))) rfl (fun hg59 => ?_) (fun hg59 => ?_)
   ·replace h := cond_t h hg59
    refine any_no 32 rfl (by kernel_rfl) (by kernel_rfl) (by kernel_rfl) (ss (ss (ss (ss (ss (ss (ss (ss (ss (ss (ss (ss (ss (ss (sn))))))))))))))) 31 false 72 rfl rfl rfl rfl rfl ?_
    refine any_no 33 rfl (by kernel_rfl) (by kernel_rfl) (by kernel_rfl) (ss (ss (ss (ss (ss (ss (ss (ss (ss (ss (ss (ss (ss (ss (sn))))))))))))))) 31 false 72 rfl rfl rfl rfl rfl ?_
    refine any_no 34 rfl (by kernel_rfl) (by kernel_rfl) (by kernel_rfl) (ss (ss (ss (ss (ss (ss (ss (ss (ss (ss (ss (ss (ss (ss (sn))))))))))))))) 31 false 72 rfl rfl rfl rfl rfl ?_
    refine any_no 36 rfl (by kernel_rfl) (by kernel_rfl) (by kernel_rfl) (ss (ss (ss (ss (ss (ss (ss (ss (ss (ss (ss (ss (ss (ss (sn))))))))))))))) 31 false 72 rfl rfl rfl rfl rfl ?_
    refine any_no 37 rfl (by kernel_rfl) (by kernel_rfl) (by kernel_rfl) (ss (ss (ss (ss (ss (ss (ss (ss (ss (ss (ss (ss (ss (ss (sn))))))))))))))) 31 false 72 rfl rfl rfl rfl rfl ?_
    refine any_no 38 rfl (by kernel_rfl) (by kernel_rfl) (by kernel_rfl) (ss (ss (ss (ss (ss (ss (ss (ss (ss (ss (ss (ss (ss (ss (sn))))))))))))))) 31 false 72 rfl rfl rfl rfl rfl ?_
    refine any_no 35 rfl (by kernel_rfl) (by kernel_rfl) (by kernel_rfl) (ss (ss (ss (ss (ss (ss (ss (ss (ss (ss (ss (ss (ss (ss (sn))))))))))))))) 31 false 72 rfl rfl rfl rfl rfl ?_
    refine any_no 39 rfl (by kernel_rfl) (by kernel_rfl) (by kernel_rfl) (ss (ss (ss (ss (ss (ss (ss (ss (ss (ss (ss (ss (ss (ss (sn))))))))))))))) 31 false 72 rfl rfl rfl rfl rfl ?_
    refine any_no 40 rfl (by kernel_rfl) (by kernel_rfl) (by kernel_rfl) (ss (ss (ss (ss (ss (ss (ss (ss (ss (ss (ss (ss (ss (ss (sn))))))))))))))) 31 false 72 rfl rfl rfl rfl rfl ?_
    refine any_y 41 rfl (by kernel_rfl) (by kernel_rfl) (by kernel_rfl) (ss (ss (ss (ss (ss (ss (ss (ss (ss (ss (ss (ss (ss (ss (sn))))))))))))))) (wn rfl) rfl (y_pick (b := true) rfl rfl) ?_
    obtain rfl := some_eq h
    exact any_weak [(1, .int .i64 from_1), (3, boxP b1 0), (7, boxP b22 0), (8, .int .i64 r17.2), (82, .bool true)] [0, 1, 2, 3, 4, 5, 6, 7, 8, 9, 10, 11, 12, 13] [ro n_0_Arcsv 4 (n_0.Arcs.map S_api_Arc.enc), ro r_2_Distv 1 (r_2.Dist.map (eInt .i64)), ro r_2_Viav 1 (r_2.Via.map (eInt .i64)), ro r_2_Cyclev 1 (r_2.Cycle.map (eInt .i64)), box b1 [.int .i64 n_0.Nodes, n_0_Arcsv], box b2 [r_2_Distv, r_2_Viav, r_2_Cyclev], row v19 1 (r17.1.Dist.map (eInt .i64)), row v20 1 (r17.1.Via.map (eInt .i64)), row v21 1 (r17.1.Cycle.map (eInt .i64)), box b22 [v19, v20, v21], row v28 1 (r26.R.Dist.map (eInt .i64)), row v29 1 (r26.R.Via.map (eInt .i64)), row v30 1 (r26.R.Cycle.map (eInt .i64)), box b31 [v28, v29, v30, .bool r26.Negative, .int .i64 r26.E]] (by kernel_rfl) (qv5 rfl rfl rfl rfl rfl) (by decide) rfl (hL58 true rfl)
   ·replace h := cond_f h hg59
    refine any_y 32 rfl (by kernel_rfl) (by kernel_rfl) (by kernel_rfl) (ss (ss (ss (ss (ss (ss (ss (ss (ss (ss (ss (ss (ss (ss (sn))))))))))))))) (wg 31 false 72 rfl rfl rfl rfl) rfl (y_load_boxagg (c := [.int .i64 n_0.Nodes, n_0_Arcsv]) 4 Try.isAgg24 Try.sizeOf24 rfl rfl rfl) ?_
    refine any_y 33 rfl (by kernel_rfl) (by kernel_rfl) (by kernel_rfl) (ss (ss (ss (ss (ss (ss (ss (ss (ss (ss (ss (ss (ss (ss (sn))))))))))))))) (wg 31 false 72 rfl rfl rfl rfl) rfl (y_move rfl) ?_
    refine any_y 34 rfl (by kernel_rfl) (by kernel_rfl) (by kernel_rfl) (ss (ss (ss (ss (ss (ss (ss (ss (ss (ss (ss (ss (ss (ss (sn))))))))))))))) (wg 31 false 72 rfl rfl rfl rfl) rfl (y_load_boxagg (c := [r_2_Distv, r_2_Viav, r_2_Cyclev]) 5 Try.isAgg51 Try.sizeOf51 rfl rfl rfl) ?_
    refine any_y 36 rfl (by kernel_rfl) (by kernel_rfl) (by kernel_rfl) (ss (ss (ss (ss (ss (ss (ss (ss (ss (ss (ss (ss (ss (ss (sn))))))))))))))) (wg 31 false 72 rfl rfl rfl rfl) rfl (y_load_boxagg (c := [.int .i64 n_0.Nodes, n_0_Arcsv]) 4 Try.isAgg24 Try.sizeOf24 rfl rfl rfl) ?_
    refine any_y 37 rfl (by kernel_rfl) (by kernel_rfl) (by kernel_rfl) (ss (ss (ss (ss (ss (ss (ss (ss (ss (ss (ss (ss (ss (ss (sn))))))))))))))) (wg 31 false 72 rfl rfl rfl rfl) rfl (y_move rfl) ?_
    refine any_y 38 rfl (by kernel_rfl) (by kernel_rfl) (by kernel_rfl) (ss (ss (ss (ss (ss (ss (ss (ss (ss (ss (ss (ss (ss (ss (sn))))))))))))))) (wg 31 false 72 rfl rfl rfl rfl) rfl (y_load_boxagg (c := [r_2_Distv, r_2_Viav, r_2_Cyclev]) 5 Try.isAgg51 Try.sizeOf51 rfl rfl rfl) ?_
    refine any_all [35] (by kernel_rfl) rfl (anyo_cons ?_ anyo_nil)
    obtain ⟨r60, hr61, h⟩ := obind_some h
    refine any_t rfl (wg 31 false 72 rfl rfl rfl rfl) rfl (t_callx (vs := [.agg #[.int .i64 n_0.Nodes, n_0_Arcsv], .int .i64 from_1, .agg #[r_2_Distv, r_2_Viav, r_2_Cyclev]]) (cs := []) [(0, 0), (1, 0), (2, 0), (3, 0)] rfl Try.call24 rfl (graph_CheckPaths_ok n n_0 from_1 r_2 n_0_Arcsv r_2_Distv r_2_Viav r_2_Cyclev hr61) (showsX_view 0 rfl views_ro (showsX_view 1 rfl views_ro (showsX_view 2 rfl views_ro (showsX_view 3 rfl views_ro showsX_nil)))) rfl (.inl rfl)) ?_
    rintro _ _ ⟨_, ⟨rfl, rfl⟩, rfl⟩
    refine ⟨(ss (ss (ss (ss (ss (ss (ss (ss (ss (ss (ss (ss (ss (ss (sn))))))))))))))), ?_⟩
    refine any_all [39] (by kernel_rfl) rfl (anyo_cons ?_ anyo_nil)
    obtain ⟨r62, hr63, h⟩ := obind_some h
    refine any_t rfl (wg 31 false 72 rfl rfl rfl rfl) rfl (t_callx (vs := [.agg #[.int .i64 n_0.Nodes, n_0_Arcsv], .int .i64 from_1, .agg #[r_2_Distv, r_2_Viav, r_2_Cyclev]]) (cs := []) [(0, 0), (1, 0), (2, 0), (3, 0)] rfl Try.call25 rfl (ref09_CheckPaths_ok n n_0 from_1 r_2 n_0_Arcsv r_2_Distv r_2_Viav r_2_Cyclev hr63) (showsX_view 0 rfl views_ro (showsX_view 1 rfl views_ro (showsX_view 2 rfl views_ro (showsX_view 3 rfl views_ro showsX_nil)))) rfl (.inl rfl)) ?_
    rintro _ _ ⟨_, ⟨rfl, rfl⟩, rfl⟩
    refine ⟨(ss (ss (ss (ss (ss (ss (ss (ss (ss (ss (ss (ss (ss (ss (sn))))))))))))))), ?_⟩
    refine any_y 40 rfl (by kernel_rfl) (by kernel_rfl) (by kernel_rfl) (ss (ss (ss (ss (ss (ss (ss (ss (ss (ss (ss (ss (ss (ss (sn))))))))))))))) (wg 31 false 72 rfl rfl rfl rfl) rfl (y_bneq Try.runUnderlying4 rfl rfl) ?_
    refine any_y 41 rfl (by kernel_rfl) (by kernel_rfl) (by kernel_rfl) (ss (ss (ss (ss (ss (ss (ss (ss (ss (ss (ss (ss (ss (ss (sn))))))))))))))) (wn rfl) rfl (y_pick (b := false) rfl rfl) ?_
    obtain rfl := some_eq h
    exact any_weak [(1, .int .i64 from_1), (3, boxP b1 0), (7, boxP b22 0), (8, .int .i64 r17.2), (82, .bool (!(r60 == r62)))] [0, 1, 2, 3, 4, 5, 6, 7, 8, 9, 10, 11, 12, 13] [ro n_0_Arcsv 4 (n_0.Arcs.map S_api_Arc.enc), ro r_2_Distv 1 (r_2.Dist.map (eInt .i64)), ro r_2_Viav 1 (r_2.Via.map (eInt .i64)), ro r_2_Cyclev 1 (r_2.Cycle.map (eInt .i64)), box b1 [.int .i64 n_0.Nodes, n_0_Arcsv], box b2 [r_2_Distv, r_2_Viav, r_2_Cyclev], row v19 1 (r17.1.Dist.map (eInt .i64)), row v20 1 (r17.1.Via.map (eInt .i64)), row v21 1 (r17.1.Cycle.map (eInt .i64)), box b22 [v19, v20, v21], row v28 1 (r26.R.Dist.map (eInt .i64)), row v29 1 (r26.R.Via.map (eInt .i64)), row v30 1 (r26.R.Cycle.map (eInt .i64)), box b31 [v28, v29, v30, .bool r26.Negative, .int .i64 r26.E]] (by kernel_rfl) (qv5 rfl rfl rfl rfl rfl) (by decide) rfl (hL58 (!(r60 == r62)) rfl)
  rintro b54 hj
  obtain rfl : o55 = _ := hj
  replace h := after_go ho56
  clear ho56
  refine any_nil (by kernel_rfl) ?_
  refine goes_code ?_
  refine run_cond b54 rfl (fun hc64 => ?_) (fun hc64 => ?_)
  ·replace h := cond_t h hc64
   refine run_seq ?_
   refine run_region' ?_
   refine oy rfl rfl (y_assign rfl) ?_
   refine ops_nil ?_
   refine goes_code ?_
   refine run_ret ?_
   obtain rfl := some_eq h
   refine fin_slots [6] [.bool false] [] [] Try.results4 rfl (by decide) rfl ?_
   exact ⟨rfl, rfl⟩
  ·replace h := cond_f h hc64
   refine run_skip ?_
   refine goes_code ?_
   refine run_seq ?_
   refine run_region' ?_
   obtain ⟨r65, hr66, h⟩ := obind_some h
   refine ot rfl rfl (t_callx (vs := []) (cs := []) [] rfl Try.call10 rfl (law09_sanity_ok n   hr66) showsX_nil rfl (.inl rfl)) ?_
   rintro _ _ ⟨_, ⟨rfl, rfl⟩, rfl⟩
   refine oy rfl rfl (y_move rfl) ?_
   obtain ⟨o68, h, ho69⟩ := bindJ_some h
   refine ops_cut 9 (Bool) (fun σ => [(93, .bool σ)]) (fun σ => []) (fun σ => o68 = .go σ) (fun L70 hL71 => ?_) ?_
   ·refine ops_split 84 r65 rfl (fun hg72 => ?_) (fun hg72 => ?_)
    ·replace h := cond_t h hg72
     refine ops_y (wg 1 true 84 rfl rfl rfl rfl) rfl (y_move rfl) ?_
     refine ops_y (wg 1 true 84 rfl rfl rfl rfl) rfl (y_neq rfl rfl) ?_
     refine ops_y (wg 1 true 84 rfl rfl rfl rfl) rfl (y_move rfl) ?_
     obtain ⟨o74, h, ho75⟩ := bindJ_some h
     refine ops_cut 5 (Bool) (fun σ => [(84, .bool true), (92, .bool σ)]) (fun σ => []) (fun σ => o74 = .go σ) (fun L76 hL77 => ?_) ?_
     ·refine ops_split 87 (decide (r17.2 ≠ 0)) rfl (fun hg78 => ?_) (fun hg78 => ?_)
      ·replace h := cond_t h hg78
       refine ops_no 4 false 87 rfl rfl rfl rfl rfl ?_
       refine ops_no 4 false 87 rfl rfl rfl rfl rfl ?_
       refine ops_no 4 false 87 rfl rfl rfl rfl rfl ?_
       refine ops_no 4 false 87 rfl rfl rfl rfl rfl ?_
       refine ops_y (wg 1 true 84 rfl rfl rfl rfl) rfl (y_pick (b := true) rfl rfl) ?_
       refine ops_nil ?_
       obtain rfl := some_eq h
       exact goes_cut hL77 true [] (qv2 rfl rfl) (by decide) rfl rfl
      ·replace h := cond_f h hg78
       refine ops_y (wg 4 false 87 rfl rfl rfl rfl) rfl (y_load_boxagg (c := [.int .i64 n_0.Nodes, n_0_Arcsv]) 4 Try.isAgg24 Try.sizeOf24 rfl rfl rfl) ?_
       refine ops_y (wg 4 false 87 rfl rfl rfl rfl) rfl (y_move rfl) ?_
       refine ops_y (wg 4 false 87 rfl rfl rfl rfl) rfl (y_load_boxagg (c := [v19, v20, v21]) 9 Try.isAgg51 Try.sizeOf51 rfl rfl rfl) ?_
       obtain ⟨r79, hr80, h⟩ := obind_some h
       refine ops_t (wg 4 false 87 rfl rfl rfl rfl) rfl (t_callx (vs := [.agg #[.int .i64 n_0.Nodes, n_0_Arcsv], .int .i64 from_1, .agg #[v19, v20, v21]]) (cs := []) [(0, 0), (6, 1), (7, 1), (8, 1)] rfl Try.call24 rfl (graph_CheckPaths_ok n n_0 from_1 r17.1 n_0_Arcsv v19 v20 v21 hr80) (showsX_view 0 rfl views_ro (showsX_look 6 rfl views_row (showsX_look 7 rfl views_row (showsX_look 8 rfl views_row showsX_nil)))) rfl (.inr (by rintro _ _ ⟨rfl, rfl⟩ g hg; first | (cases hg; done) | (simp only [List.mem_cons, List.not_mem_nil, or_false] at hg; first | (subst hg; first | exact strict_row | exact strict_box) | (rcases hg with rfl | rfl <;> first | exact strict_row | exact strict_box) | (rcases hg with rfl | rfl | rfl <;> first | exact strict_row | exact strict_box))))) ?_
       rintro _ _ ⟨_, ⟨rfl, rfl⟩, rfl⟩
       refine ops_y (wg 1 true 84 rfl rfl rfl rfl) rfl (y_pick (b := false) rfl rfl) ?_
       refine ops_nil ?_
       obtain rfl := some_eq h
       exact goes_cut hL77 r79 [] (qv2 rfl rfl) (by decide) rfl rfl
     rintro b73 hj
     obtain rfl : o74 = _ := hj
     replace h := after_go ho75
     clear ho75
     refine oy rfl rfl (y_pick (b := true) rfl rfl) ?_
     refine ops_nil ?_
     obtain rfl := some_eq h
     exact goes_cut hL71 b73 [] (qv1 rfl) (by decide) rfl rfl
    ·replace h := cond_f h hg72
     refine ops_no 1 true 84 rfl rfl rfl rfl rfl ?_
     refine ops_no 1 true 84 rfl rfl rfl rfl rfl ?_
     refine ops_no 1 true 84 rfl rfl rfl rfl rfl ?_
     refine ops_un 4 false 87 rfl rfl rfl rfl rfl ?_
     refine ops_un 4 false 87 rfl rfl rfl rfl rfl ?_
     refine ops_un 4 false 87 rfl rfl rfl rfl rfl ?_
     refine ops_un 4 false 87 rfl rfl rfl rfl rfl ?_
     refine ops_no 1 true 84 rfl rfl rfl rfl rfl ?_
     refine oy rfl rfl (y_pick (b := false) rfl rfl) ?_
     refine ops_nil ?_
     obtain rfl := some_eq h
     exact goes_cut hL71 false [] (qv1 rfl) (by decide) rfl rfl
   rintro b67 hj
   obtain rfl : o68 = _ := hj
   replace h := after_go ho69
   clear ho69
   refine oy rfl rfl (y_assign rfl) ?_
   refine ops_nil ?_
   refine goes_code ?_
   refine run_ret ?_
   obtain rfl := some_eq h
   refine fin_slots [6] [.bool b67] [] [] Try.results4 rfl (by decide) rfl ?_
   exact ⟨rfl, rfl⟩

end Go.Proofs.Ytgelifcckhemiaa
namespace Go.Proofs.Ytgelifcckhemiaa
open Go.Abs
set_option linter.unusedSimpArgs false
set_option linter.unusedVariables false
theorem paths_neg {n : S_api_Net} (hn : okNet n) {u : Int} (h0 : 0 ≤ u) (h1 : u < n.Nodes) (m : Nat) (hm : n.Arcs.length + 3000 ≤ m) (hno : ∀ f, ¬ Opt n u f) :
    ∃ cyc, graph_Paths m n u = some (⟨[], [], cyc⟩, 0) ∧ 0 < cyc.length ∧ graph_CheckPaths m n u ⟨[], [], cyc⟩ = some true ∧ ref09_Paths m n u = some ⟨⟨[], [], []⟩, true, 0⟩ := by
  have hN := hn.2.1
  have ev : (decide (0 ≤ u) && decide (u < n.Nodes)) = true := by simp; omega
  rcases rounds_eq hn h0 h1 m (by omega) with ⟨b, _, e2, _⟩ | ⟨_, last, b, via, r, T, b0, hp, l0, l1, hl, e1⟩
  · exact absurd e2 (hno _)
  · obtain ⟨cyc, c1, c2, c3⟩ := neg_ok hn h0 h1 hp l0 l1 hl m hm
    refine ⟨cyc, ?_, c2, c3, ?_⟩
    · unfold graph_Paths graph_isNode
      rw [Valid_eq n m (by omega)]
      simp only [hn, decide_true, obind, Option.bind_some, Bool.not_true, cond_false, ev, bindJ_go]
      rw [need_pos (by omega), Repeat_eq (by omega) hN m (by omega)]
      simp only [Option.bind_some]
      rw [idx_rep h0 (by omega)]
      have e1' : iter (graph_Paths_L1 m n) m (0, (List.replicate n.Nodes.toNat (⟨false, 0, 0⟩ : S_graph_reached)).set u.toNat ⟨true, 0, 0⟩, List.replicate n.Nodes.toNat (-1)) = some (.stop (⟨[], [], cyc⟩, 0)) := e1 cyc c1
      rw [e1', bindJ_stop]
    · rcases rrounds_eq hn h0 h1 m (by omega) with ⟨l, _, e2, _⟩ | ⟨_, l, e1⟩
      · exact absurd e2 (hno _)
      · unfold ref09_Paths ref09_node
        rw [rValid_eq n m (by omega)]
        simp only [hn, decide_true, obind, Option.bind_some, Bool.not_true, cond_false, ev, bindJ_go]
        rw [need_pos (by omega), idx_rep h0 (by omega)]
        have e1' : iter (ref09_Paths_L1 m n) m ((List.replicate n.Nodes.toNat (⟨false, 0, 0⟩ : S_ref09_Step)).set u.toNat ⟨true, 0, 0⟩, true, 0) = some (.go (l, true)) := e1
        rw [e1', bindJ_go, cond_true]
theorem paths_bad {n : S_api_Net} {u : Int} (m : Nat) (hm : n.Arcs.length < m) (h : ¬ (okNet n ∧ 0 ≤ u ∧ u < n.Nodes)) :
    graph_Paths m n u = some (⟨[], [], []⟩, 1) ∧ ref09_Paths m n u = some ⟨⟨[], [], []⟩, false, 1⟩ := by
  unfold graph_Paths ref09_Paths graph_isNode ref09_node
  rw [Valid_eq n m hm, rValid_eq n m hm]
  simp only [obind, Option.bind_some]
  by_cases hn : okNet n
  · have ev : (decide (0 ≤ u) && decide (u < n.Nodes)) = false := by
      rw [Bool.and_eq_false_iff, decide_eq_false_iff_not, decide_eq_false_iff_not]
      refine Classical.byContradiction fun hc => h ⟨hn, ?_⟩
      omega
    simp [hn, ev]
  · simp [hn]
theorem in64_wf {l : List Int} (h : ∀ a ∈ l, wfI .i64 a) : in64 l := fun x hx => wf64 (h x hx)
theorem paths_true (n : S_api_Net) (u : Int) (r : S_api_Routes) (hn : S_api_Net.wf n) (hu : wfI .i64 u) (hr : S_api_Routes.wf r) : ∃ m, law09_GraphPathsMatchSpec m n u r = some true := by
  refine ⟨n.Arcs.length + 5000 + 40, ?_⟩
  have hs := sane (n.Arcs.length + 5000)
  unfold law09_GraphPathsMatchSpec
  generalize hm : n.Arcs.length + 5000 + 40 = m at *
  unfold law09_few
  simp only [obind, Option.bind_some, hs]
  by_cases hf : (((!(((decide (n.Nodes ≤ 12) || decide (256 < n.Nodes)) && decide ((n.Arcs.length : Int) ≤ 60))) || decide (60 < (r.Dist.length : Int))) || decide (60 < (r.Via.length : Int))) || decide (60 < (r.Cycle.length : Int))) = true
  · rw [hf]; rfl
  · have hlen : r.Dist.length ≤ 1000 ∧ r.Via.length ≤ 1000 ∧ r.Cycle.length ≤ 1000 := by
      simp at hf; omega
    rw [Bool.eq_false_iff.2 hf, cond_false]
    obtain ⟨bq, q1, q2⟩ := checks_same (n := n) (u := u) hlen (in64_wf hr.1) m (by omega)
    by_cases hok : okNet n ∧ 0 ≤ u ∧ u < n.Nodes
    · obtain ⟨hok, h0, h1⟩ := hok
      have hN := hok.2.1
      by_cases ho : ∃ f, Opt n u f
      · obtain ⟨f, ho⟩ := ho
        obtain ⟨p1, p2⟩ := paths_good hok h0 h1 ho m (by omega)
        rw [p1, p2]
        simp only [Option.bind_some]
        rw [Same_eq m (by simp [dist]; omega) (by simp [dist]; omega), Same_eq m (by simp [vias]; omega) (by simp [vias]; omega), q1, q2, own_ok hok h0 h1 ho m (by omega)]
        simp
      · obtain ⟨cyc, p1, p2, p3, p4⟩ := paths_neg hok h0 h1 m (by omega) (fun f h => ho ⟨f, h⟩)
        rw [p1, p4]
        simp only [Option.bind_some]
        rw [Same_eq m (by simp) (by simp; omega), q1, q2, p3]
        have ec : decide (0 < (cyc.length : Int)) = true := by rw [decide_eq_true_iff]; omega
        simp [ec, p2]
    · obtain ⟨p1, p2⟩ := paths_bad m (by omega) hok
      rw [p1, p2]
      simp only [Option.bind_some]
      rw [Same_eq m (by simp) (by simp; omega), q1, q2]
      simp
end Go.Proofs.Ytgelifcckhemiaa
