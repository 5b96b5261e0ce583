/-
  The law GraphTreesMatchSpec, lifted.
-/
import Derived.Test.YtgelifcckhemiaaG5a
namespace Go.Proofs.Ytgelifcckhemiaa
open Go.Abs
set_option linter.unusedVariables false
set_option linter.unusedSimpArgs false
set_option maxRecDepth 20000
set_option maxHeartbeats 4000000


def law09_GraphTreesMatchSpec (n : Nat) (p_0 : (List Int)) (node_1 : Int) : Option (Bool) :=
  cond ((decide (40 < (p_0.length : Int)) && decide ((p_0.length : Int) ≤ 256)) || decide (300 < (p_0.length : Int)))
    (obind (law09_sanity n) fun r8 =>
    some r8)
    (obind (graph_Depths n p_0) fun r10 =>
    obind (graph_Climb n p_0 node_1) fun r13 =>
    obind (graph_Below n p_0 node_1) fun r16 =>
    obind (ref09_Depths n p_0) fun r19 =>
    obind (ref09_Climb n p_0 node_1) fun r24 =>
    obind (ref09_Below n p_0 node_1) fun r29 =>
    obind (law09_sanity n) fun r34 =>
    bindJ (S := Bool)
      (cond r34
        (obind (ref09_Same n r10.1 r19.L) fun r42 =>
        some (.go r42))
        (some (.go false)))
    (fun b36 =>
      bindJ (S := Bool)
        (cond (b36 && decide (r10.2 = r19.E))
          (obind (ref09_Same n r13.1 r24.L) fun r53 =>
          some (.go r53))
          (some (.go false)))
      (fun b47 =>
        bindJ (S := Bool)
          (cond (b47 && decide (r13.2 = r24.E))
            (obind (ref09_Same n r16.1 r29.L) fun r64 =>
            some (.go r64))
            (some (.go false)))
        (fun b58 =>
          some (b58 && decide (r16.2 = r29.E))))))
theorem law09_GraphTreesMatchSpec_ok (n : Nat) (p_0 : (List Int)) (node_1 : Int) (p_0v : Value) {r : Bool} (h : law09_GraphTreesMatchSpec n p_0 node_1 = some r) :
    Meets Try.prog 5 [p_0v, .int .i64 node_1] [ro p_0v 1 (p_0.map (eInt .i64))] (fun v G => v = .bool r ∧ G = []) := by
  refine fn_of_run Try.func5 rfl Try.ntmps5 rfl (fun w0 o0 => ?_)
  refine run_seq ?_
  refine run_region' ?_
  refine ops_y (wn rfl) rfl (y_assign rfl) ?_
  refine ops_nil ?_
  refine goes_code ?_
  refine run_seq ?_
  refine run_seq ?_
  refine run_region' ?_
  refine ops_y (wn rfl) rfl (y_move rfl) ?_
  refine ops_y (wn rfl) rfl ((y_len 0 rfl Try.runUnderlying34 rfl rfl reads_ro).to (v_len (eInt .i64) _)) ?_
  refine ops_y (wn rfl) rfl (y_gtr rfl rfl) ?_
  refine ops_y (wn rfl) rfl (y_move rfl) ?_
  refine ops_cut 4 (Bool) (fun σ => [(0, p_0v), (1, .int .i64 node_1), (21, .bool σ)]) (fun σ => [ro p_0v 1 (p_0.map (eInt .i64))]) (fun σ => σ = (decide (40 < (p_0.length : Int)) && decide ((p_0.length : Int) ≤ 256))) (fun L1 hL2 => ?_) ?_
  · refine ops_split 17 (decide (40 < (p_0.length : Int))) rfl (fun hg3 => ?_) (fun hg3 => ?_)
    · skip
      refine ops_y (wg 3 true 17 rfl rfl rfl rfl) rfl (y_move rfl) ?_
      refine ops_y (wg 3 true 17 rfl rfl rfl rfl) rfl ((y_len 0 rfl Try.runUnderlying34 rfl rfl reads_ro).to (v_len (eInt .i64) _)) ?_
      refine ops_y (wg 3 true 17 rfl rfl rfl rfl) rfl (y_leq rfl rfl) ?_
      refine ops_y (wn rfl) rfl (y_pick (b := true) rfl rfl) ?_
      refine ops_nil ?_
      exact goes_cut hL2 (decide ((p_0.length : Int) ≤ 256)) [0] (vcons rfl (vcons rfl (vcons rfl (vnil)))) (by decide) rfl (by rw [hg3]; simp)
    · skip
      refine ops_no 3 true 17 rfl rfl rfl rfl rfl ?_
      refine ops_no 3 true 17 rfl rfl rfl rfl rfl ?_
      refine ops_no 3 true 17 rfl rfl rfl rfl rfl ?_
      refine ops_y (wn rfl) rfl (y_pick (b := false) rfl rfl) ?_
      refine ops_nil ?_
      exact goes_cut hL2 false [0] (vcons rfl (vcons rfl (vcons rfl (vnil)))) (by decide) rfl (by rw [hg3]; simp)
  rintro _ rfl
  refine ops_y (wn rfl) rfl (y_move rfl) ?_
  refine ops_cut 4 (Bool) (fun σ => [(0, p_0v), (1, .int .i64 node_1), (26, .bool σ)]) (fun σ => [ro p_0v 1 (p_0.map (eInt .i64))]) (fun σ => σ = ((decide (40 < (p_0.length : Int)) && decide ((p_0.length : Int) ≤ 256)) || decide (300 < (p_0.length : Int)))) (fun L4 hL5 => ?_) ?_
  · refine ops_split 22 (decide (40 < (p_0.length : Int)) && decide ((p_0.length : Int) ≤ 256)) rfl (fun hg6 => ?_) (fun hg6 => ?_)
    · skip
      refine ops_no 8 false 22 rfl rfl rfl rfl rfl ?_
      refine ops_no 8 false 22 rfl rfl rfl rfl rfl ?_
      refine ops_no 8 false 22 rfl rfl rfl rfl rfl ?_
      refine ops_y (wn rfl) rfl (y_pick (b := true) rfl rfl) ?_
      refine ops_nil ?_
      exact goes_cut hL5 true [0] (vcons rfl (vcons rfl (vcons rfl (vnil)))) (by decide) rfl (by rw [hg6]; simp)
    · skip
      refine ops_y (wg 8 false 22 rfl rfl rfl rfl) rfl (y_move rfl) ?_
      refine ops_y (wg 8 false 22 rfl rfl rfl rfl) rfl ((y_len 0 rfl Try.runUnderlying34 rfl rfl reads_ro).to (v_len (eInt .i64) _)) ?_
      refine ops_y (wg 8 false 22 rfl rfl rfl rfl) rfl (y_gtr rfl rfl) ?_
      refine ops_y (wn rfl) rfl (y_pick (b := false) rfl rfl) ?_
      refine ops_nil ?_
      exact goes_cut hL5 (decide (300 < (p_0.length : Int))) [0] (vcons rfl (vcons rfl (vcons rfl (vnil)))) (by decide) rfl (by rw [hg6]; simp)
  rintro _ rfl
  refine ops_nil ?_
  refine goes_code ?_
  refine run_cond ((decide (40 < (p_0.length : Int)) && decide ((p_0.length : Int) ≤ 256)) || decide (300 < (p_0.length : Int))) rfl (fun hc7 => ?_) (fun hc7 => ?_)
  · replace h := cond_t h hc7
    refine run_seq ?_
    refine run_region' ?_
    obtain ⟨r8, hr9, h⟩ := obind_some h
    refine ops_t (wn rfl) rfl (t_callx (vs := []) (cs := []) [] rfl Try.call10 rfl (law09_sanity_ok n   hr9) showsX_nil rfl (.inl rfl)) ?_
    rintro _ _ ⟨_, ⟨rfl, rfl⟩, rfl⟩
    refine ops_y (wn rfl) rfl (y_assign rfl) ?_
    refine ops_nil ?_
    refine goes_code ?_
    refine run_ret ?_
    obtain rfl := some_eq h
    refine fin_slots [4] [.bool r8] [] [] Try.results5 rfl (by decide) rfl ?_
    exact ⟨rfl, rfl⟩
  · replace h := cond_f h hc7
    refine run_skip ?_
    refine goes_code ?_
    refine run_seq ?_
    refine run_region' ?_
    refine ops_y (wn rfl) rfl (y_move rfl) ?_
    obtain ⟨r10, hr11, h⟩ := obind_some h
    refine ops_t (wn rfl) rfl (t_callx (vs := [p_0v]) (cs := []) [(0, 0)] rfl Try.call26 rfl (graph_Depths_ok n p_0 p_0v hr11) (showsX_view 0 rfl views_ro showsX_nil) rfl (.inl rfl)) ?_
    rintro _ _ ⟨_, ⟨v12, rfl, rfl⟩, rfl⟩
    refine ops_y (wn rfl) rfl (y_move rfl) ?_
    refine ops_y (wn rfl) rfl (y_extract rfl rfl) ?_
    refine ops_y (wn rfl) rfl (y_extract rfl rfl) ?_
    refine ops_y (wn rfl) rfl (y_assign rfl) ?_
    refine ops_y (wn rfl) rfl (y_assign rfl) ?_
    refine ops_nil ?_
    refine goes_code ?_
    refine run_seq ?_
    refine run_region' ?_
    refine ops_y (wn rfl) rfl (y_move rfl) ?_
    refine ops_y (wn rfl) rfl (y_move rfl) ?_
    obtain ⟨r13, hr14, h⟩ := obind_some h
    refine ops_t (wn rfl) rfl (t_callx (vs := [p_0v, .int .i64 node_1]) (cs := []) [(0, 0)] rfl Try.call27 rfl (graph_Climb_ok n p_0 node_1 p_0v hr14) (showsX_view 0 rfl views_ro showsX_nil) rfl (.inl rfl)) ?_
    rintro _ _ ⟨_, ⟨v15, rfl, rfl⟩, rfl⟩
    refine ops_y (wn rfl) rfl (y_move rfl) ?_
    refine ops_y (wn rfl) rfl (y_extract rfl rfl) ?_
    refine ops_y (wn rfl) rfl (y_extract rfl rfl) ?_
    refine ops_y (wn rfl) rfl (y_assign rfl) ?_
    refine ops_y (wn rfl) rfl (y_assign rfl) ?_
    refine ops_nil ?_
    refine goes_code ?_
    refine run_seq ?_
    refine run_weak [(0, p_0v), (1, .int .i64 node_1), (5, v12), (6, .int .i64 r10.2), (7, v15), (8, .int .i64 r13.2)] [0, 1, 2] [ro p_0v 1 (p_0.map (eInt .i64)), row v12 1 (r10.1.map (eInt .i64)), row v15 1 (r13.1.map (eInt .i64))] (vcons rfl (vcons rfl (vcons rfl (vcons rfl (vcons rfl (vcons rfl (vnil))))))) (by decide) rfl ?_
    refine run_region' ?_
    refine ops_y (wn rfl) rfl (y_move rfl) ?_
    refine ops_y (wn rfl) rfl (y_move rfl) ?_
    obtain ⟨r16, hr17, h⟩ := obind_some h
    refine ops_t (wn rfl) rfl (t_callx (vs := [p_0v, .int .i64 node_1]) (cs := []) [(0, 0)] rfl Try.call28 rfl (graph_Below_ok n p_0 node_1 p_0v hr17) (showsX_view 0 rfl views_ro showsX_nil) rfl (.inl rfl)) ?_
    rintro _ _ ⟨_, ⟨v18, rfl, rfl⟩, rfl⟩
    refine ops_y (wn rfl) rfl (y_move rfl) ?_
    refine ops_y (wn rfl) rfl (y_extract rfl rfl) ?_
    refine ops_y (wn rfl) rfl (y_extract rfl rfl) ?_
    refine ops_y (wn rfl) rfl (y_assign rfl) ?_
    refine ops_y (wn rfl) rfl (y_assign rfl) ?_
    refine ops_nil ?_
    refine goes_code ?_
    refine run_seq ?_
    refine run_weak [(0, p_0v), (1, .int .i64 node_1), (5, v12), (6, .int .i64 r10.2), (7, v15), (8, .int .i64 r13.2), (9, v18), (10, .int .i64 r16.2)] [0, 1, 2, 3] [ro p_0v 1 (p_0.map (eInt .i64)), row v12 1 (r10.1.map (eInt .i64)), row v15 1 (r13.1.map (eInt .i64)), row v18 1 (r16.1.map (eInt .i64))] (vcons rfl (vcons rfl (vcons rfl (vcons rfl (vcons rfl (vcons rfl (vcons rfl (vcons rfl (vnil))))))))) (by decide) rfl ?_
    refine run_region' ?_
    refine ops_y (wn rfl) rfl (y_move rfl) ?_
    obtain ⟨r19, hr20, h⟩ := obind_some h
    refine ops_t (wn rfl) rfl (t_callx (vs := [p_0v]) (cs := []) [(0, 0)] rfl Try.call29 rfl (ref09_Depths_ok n p_0 p_0v hr20) (showsX_view 0 rfl views_ro showsX_nil) rfl (.inl rfl)) ?_
    rintro _ _ ⟨_, ⟨v21, rfl, rfl⟩, rfl⟩
    refine ops_t (wn rfl) rfl (t_alloc Try.zeroValue62) ?_
    rintro _ _ ⟨b22, rfl, rfl⟩
    refine ops_slc 4 rfl reads_row (fun hs23 hs23o => ?_)
    refine ops_t (wn rfl) rfl (t_store 5 Try.sizeOf62 rfl rfl rfl rfl (by simp [Value.cells, boxP]) (by intro u hu; replace hu : u ∈ ([v21, .int .i64 r19.E] : List Value) := hu; simp only [List.mem_cons, List.not_mem_nil, or_false] at hu; rcases hu with rfl | rfl <;> first | rfl | assumption)) ?_
    rintro _ _ ⟨rfl, rfl⟩
    refine ops_turn (retell 5 (g := box b22 [v21, .int .i64 r19.E]) rfl rfl) ?_
    refine ops_nil ?_
    refine goes_code ?_
    refine run_seq ?_
    refine run_region' ?_
    refine ops_y (wn rfl) rfl (y_move rfl) ?_
    refine ops_y (wn rfl) rfl (y_move rfl) ?_
    obtain ⟨r24, hr25, h⟩ := obind_some h
    refine ops_t (wn rfl) rfl (t_callx (vs := [p_0v, .int .i64 node_1]) (cs := []) [(0, 0)] rfl Try.call30 rfl (ref09_Climb_ok n p_0 node_1 p_0v hr25) (showsX_view 0 rfl views_ro showsX_nil) rfl (.inl rfl)) ?_
    rintro _ _ ⟨_, ⟨v26, rfl, rfl⟩, rfl⟩
    refine ops_t (wn rfl) rfl (t_alloc Try.zeroValue62) ?_
    rintro _ _ ⟨b27, rfl, rfl⟩
    refine ops_slc 6 rfl reads_row (fun hs28 hs28o => ?_)
    refine ops_t (wn rfl) rfl (t_store 7 Try.sizeOf62 rfl rfl rfl rfl (by simp [Value.cells, boxP]) (by intro u hu; replace hu : u ∈ ([v26, .int .i64 r24.E] : List Value) := hu; simp only [List.mem_cons, List.not_mem_nil, or_false] at hu; rcases hu with rfl | rfl <;> first | rfl | assumption)) ?_
    rintro _ _ ⟨rfl, rfl⟩
    refine ops_turn (retell 7 (g := box b27 [v26, .int .i64 r24.E]) rfl rfl) ?_
    refine ops_nil ?_
    refine goes_code ?_
    refine run_seq ?_
    refine run_weak [(0, p_0v), (1, .int .i64 node_1), (5, v12), (6, .int .i64 r10.2), (7, v15), (8, .int .i64 r13.2), (9, v18), (10, .int .i64 r16.2), (11, boxP b22 0), (12, boxP b27 0)] [0, 1, 2, 3, 4, 5, 6, 7] [ro p_0v 1 (p_0.map (eInt .i64)), row v12 1 (r10.1.map (eInt .i64)), row v15 1 (r13.1.map (eInt .i64)), row v18 1 (r16.1.map (eInt .i64)), row v21 1 (r19.L.map (eInt .i64)), box b22 [v21, .int .i64 r19.E], row v26 1 (r24.L.map (eInt .i64)), box b27 [v26, .int .i64 r24.E]] (vcons rfl (vcons rfl (vcons rfl (vcons rfl (vcons rfl (vcons rfl (vcons rfl (vcons rfl (vcons rfl (vcons rfl (vnil))))))))))) (by decide) rfl ?_
    refine run_region' ?_
    refine ops_y (wn rfl) rfl (y_move rfl) ?_
    refine ops_y (wn rfl) rfl (y_move rfl) ?_
    obtain ⟨r29, hr30, h⟩ := obind_some h
    refine ops_t (wn rfl) rfl (t_callx (vs := [p_0v, .int .i64 node_1]) (cs := []) [(0, 0)] rfl Try.call31 rfl (ref09_Below_ok n p_0 node_1 p_0v hr30) (showsX_view 0 rfl views_ro showsX_nil) rfl (.inl rfl)) ?_
    rintro _ _ ⟨_, ⟨v31, rfl, rfl⟩, rfl⟩
    refine ops_t (wn rfl) rfl (t_alloc Try.zeroValue62) ?_
    rintro _ _ ⟨b32, rfl, rfl⟩
    refine ops_slc 8 rfl reads_row (fun hs33 hs33o => ?_)
    refine ops_t (wn rfl) rfl (t_store 9 Try.sizeOf62 rfl rfl rfl rfl (by simp [Value.cells, boxP]) (by intro u hu; replace hu : u ∈ ([v31, .int .i64 r29.E] : List Value) := hu; simp only [List.mem_cons, List.not_mem_nil, or_false] at hu; rcases hu with rfl | rfl <;> first | rfl | assumption)) ?_
    rintro _ _ ⟨rfl, rfl⟩
    refine ops_turn (retell 9 (g := box b32 [v31, .int .i64 r29.E]) rfl rfl) ?_
    refine ops_nil ?_
    refine goes_code ?_
    refine run_seq ?_
    refine run_region' ?_
    obtain ⟨r34, hr35, h⟩ := obind_some h
    refine ops_t (wn rfl) rfl (t_callx (vs := []) (cs := []) [] rfl Try.call10 rfl (law09_sanity_ok n   hr35) showsX_nil rfl (.inl rfl)) ?_
    rintro _ _ ⟨_, ⟨rfl, rfl⟩, rfl⟩
    refine ops_y (wn rfl) rfl (y_move rfl) ?_
    obtain ⟨o37, h, ho38⟩ := bindJ_some h
    refine ops_cut 5 (Bool) (fun σ => [(6, .int .i64 r10.2), (7, v15), (8, .int .i64 r13.2), (9, v18), (10, .int .i64 r16.2), (11, boxP b22 0), (12, boxP b27 0), (13, boxP b32 0), (59, .bool σ)]) (fun σ => [row v15 1 (r13.1.map (eInt .i64)), row v18 1 (r16.1.map (eInt .i64)), row v21 1 (r19.L.map (eInt .i64)), box b22 [v21, .int .i64 r19.E], row v26 1 (r24.L.map (eInt .i64)), box b27 [v26, .int .i64 r24.E], row v31 1 (r29.L.map (eInt .i64)), box b32 [v31, .int .i64 r29.E]]) (fun σ => o37 = .go σ) (fun L39 hL40 => ?_) ?_
    · refine ops_split 54 r34 rfl (fun hg41 => ?_) (fun hg41 => ?_)
      · replace h := cond_t h hg41
        refine ops_y (wg 1 true 54 rfl rfl rfl rfl) rfl (y_move rfl) ?_
        refine ops_y (wg 1 true 54 rfl rfl rfl rfl) rfl (y_fieldAddr_box (sz := 0) Try.runUnderlying62 rfl Try.sizeOf34 rfl) ?_
        refine ops_y (wg 1 true 54 rfl rfl rfl rfl) rfl (y_load_box 5 Try.isAgg34 rfl rfl rfl) ?_
        obtain ⟨r42, hr43, h⟩ := obind_some h
        refine ops_t (wg 1 true 54 rfl rfl rfl rfl) rfl (t_callx (vs := [v12, v21]) (cs := []) [(1, 1), (4, 1)] rfl Try.call20 rfl (ref09_Same_ok n r10.1 r19.L v12 v21 hr43) (showsX_look 1 rfl views_row (showsX_look 4 rfl views_row showsX_nil)) rfl (.inr (by rintro _ _ ⟨rfl, rfl⟩ g hg; first | (cases hg; done) | (simp only [List.mem_cons, List.not_mem_nil, or_false] at hg; first | (subst hg; first | exact strict_row | exact strict_box) | (rcases hg with rfl | rfl <;> first | exact strict_row | exact strict_box) | (rcases hg with rfl | rfl | rfl <;> first | exact strict_row | exact strict_box))))) ?_
        rintro _ _ ⟨_, ⟨rfl, rfl⟩, rfl⟩
        refine ops_y (wn rfl) rfl (y_pick (b := true) rfl rfl) ?_
        refine ops_nil ?_
        obtain rfl := some_eq h
        exact goes_cut hL40 r42 [2, 3, 4, 5, 6, 7, 8, 9] (vcons rfl (vcons rfl (vcons rfl (vcons rfl (vcons rfl (vcons rfl (vcons rfl (vcons rfl (vcons rfl (vnil)))))))))) (by decide) rfl rfl
      · replace h := cond_f h hg41
        refine ops_no 1 true 54 rfl rfl rfl rfl rfl ?_
        refine ops_no 1 true 54 rfl rfl rfl rfl rfl ?_
        refine ops_no 1 true 54 rfl rfl rfl rfl rfl ?_
        refine ops_no 1 true 54 rfl rfl rfl rfl rfl ?_
        refine ops_y (wn rfl) rfl (y_pick (b := false) rfl rfl) ?_
        refine ops_nil ?_
        obtain rfl := some_eq h
        exact goes_cut hL40 false [2, 3, 4, 5, 6, 7, 8, 9] (vcons rfl (vcons rfl (vcons rfl (vcons rfl (vcons rfl (vcons rfl (vcons rfl (vcons rfl (vcons rfl (vnil)))))))))) (by decide) rfl rfl
    rintro b36 hj
    obtain rfl : o37 = _ := hj
    replace h := after_go ho38
    clear ho38
    refine ops_y (wn rfl) rfl (y_move rfl) ?_
    refine ops_cut 5 (Bool) (fun σ => [(7, v15), (8, .int .i64 r13.2), (9, v18), (10, .int .i64 r16.2), (12, boxP b27 0), (13, boxP b32 0), (65, .bool σ)]) (fun σ => [row v15 1 (r13.1.map (eInt .i64)), row v18 1 (r16.1.map (eInt .i64)), row v26 1 (r24.L.map (eInt .i64)), box b27 [v26, .int .i64 r24.E], row v31 1 (r29.L.map (eInt .i64)), box b32 [v31, .int .i64 r29.E]]) (fun σ => σ = (b36 && decide (r10.2 = r19.E))) (fun L44 hL45 => ?_) ?_
    · refine ops_split 60 b36 rfl (fun hg46 => ?_) (fun hg46 => ?_)
      · skip
        refine ops_y (wg 7 true 60 rfl rfl rfl rfl) rfl (y_move rfl) ?_
        refine ops_y (wg 7 true 60 rfl rfl rfl rfl) rfl (y_fieldAddr_box (sz := 0) Try.runUnderlying62 rfl Try.sizeOf28 rfl) ?_
        refine ops_y (wg 7 true 60 rfl rfl rfl rfl) rfl (y_load_box 3 Try.isAgg28 rfl rfl rfl) ?_
        refine ops_y (wg 7 true 60 rfl rfl rfl rfl) rfl (y_eql rfl rfl) ?_
        refine ops_y (wn rfl) rfl (y_pick (b := true) rfl rfl) ?_
        refine ops_nil ?_
        exact goes_cut hL45 (decide (r10.2 = r19.E)) [0, 1, 4, 5, 6, 7] (vcons rfl (vcons rfl (vcons rfl (vcons rfl (vcons rfl (vcons rfl (vcons rfl (vnil)))))))) (by decide) rfl (by rw [hg46]; simp)
      · skip
        refine ops_no 7 true 60 rfl rfl rfl rfl rfl ?_
        refine ops_no 7 true 60 rfl rfl rfl rfl rfl ?_
        refine ops_no 7 true 60 rfl rfl rfl rfl rfl ?_
        refine ops_no 7 true 60 rfl rfl rfl rfl rfl ?_
        refine ops_y (wn rfl) rfl (y_pick (b := false) rfl rfl) ?_
        refine ops_nil ?_
        exact goes_cut hL45 false [0, 1, 4, 5, 6, 7] (vcons rfl (vcons rfl (vcons rfl (vcons rfl (vcons rfl (vcons rfl (vcons rfl (vnil)))))))) (by decide) rfl (by rw [hg46]; simp)
    rintro _ rfl
    refine ops_y (wn rfl) rfl (y_move rfl) ?_
    obtain ⟨o48, h, ho49⟩ := bindJ_some h
    refine ops_cut 5 (Bool) (fun σ => [(8, .int .i64 r13.2), (9, v18), (10, .int .i64 r16.2), (12, boxP b27 0), (13, boxP b32 0), (71, .bool σ)]) (fun σ => [row v18 1 (r16.1.map (eInt .i64)), row v26 1 (r24.L.map (eInt .i64)), box b27 [v26, .int .i64 r24.E], row v31 1 (r29.L.map (eInt .i64)), box b32 [v31, .int .i64 r29.E]]) (fun σ => o48 = .go σ) (fun L50 hL51 => ?_) ?_
    · refine ops_split 66 (b36 && decide (r10.2 = r19.E)) rfl (fun hg52 => ?_) (fun hg52 => ?_)
      · replace h := cond_t h hg52
        refine ops_y (wg 13 true 66 rfl rfl rfl rfl) rfl (y_move rfl) ?_
        refine ops_y (wg 13 true 66 rfl rfl rfl rfl) rfl (y_fieldAddr_box (sz := 0) Try.runUnderlying62 rfl Try.sizeOf34 rfl) ?_
        refine ops_y (wg 13 true 66 rfl rfl rfl rfl) rfl (y_load_box 3 Try.isAgg34 rfl rfl rfl) ?_
        obtain ⟨r53, hr54, h⟩ := obind_some h
        refine ops_t (wg 13 true 66 rfl rfl rfl rfl) rfl (t_callx (vs := [v15, v26]) (cs := []) [(0, 1), (2, 1)] rfl Try.call20 rfl (ref09_Same_ok n r13.1 r24.L v15 v26 hr54) (showsX_look 0 rfl views_row (showsX_look 2 rfl views_row showsX_nil)) rfl (.inr (by rintro _ _ ⟨rfl, rfl⟩ g hg; first | (cases hg; done) | (simp only [List.mem_cons, List.not_mem_nil, or_false] at hg; first | (subst hg; first | exact strict_row | exact strict_box) | (rcases hg with rfl | rfl <;> first | exact strict_row | exact strict_box) | (rcases hg with rfl | rfl | rfl <;> first | exact strict_row | exact strict_box))))) ?_
        rintro _ _ ⟨_, ⟨rfl, rfl⟩, rfl⟩
        refine ops_y (wn rfl) rfl (y_pick (b := true) rfl rfl) ?_
        refine ops_nil ?_
        obtain rfl := some_eq h
        exact goes_cut hL51 r53 [1, 2, 3, 4, 5] (vcons rfl (vcons rfl (vcons rfl (vcons rfl (vcons rfl (vcons rfl (vnil))))))) (by decide) rfl rfl
      · replace h := cond_f h hg52
        refine ops_no 13 true 66 rfl rfl rfl rfl rfl ?_
        refine ops_no 13 true 66 rfl rfl rfl rfl rfl ?_
        refine ops_no 13 true 66 rfl rfl rfl rfl rfl ?_
        refine ops_no 13 true 66 rfl rfl rfl rfl rfl ?_
        refine ops_y (wn rfl) rfl (y_pick (b := false) rfl rfl) ?_
        refine ops_nil ?_
        obtain rfl := some_eq h
        exact goes_cut hL51 false [1, 2, 3, 4, 5] (vcons rfl (vcons rfl (vcons rfl (vcons rfl (vcons rfl (vcons rfl (vnil))))))) (by decide) rfl rfl
    rintro b47 hj
    obtain rfl : o48 = _ := hj
    replace h := after_go ho49
    clear ho49
    refine ops_y (wn rfl) rfl (y_move rfl) ?_
    refine ops_cut 5 (Bool) (fun σ => [(9, v18), (10, .int .i64 r16.2), (13, boxP b32 0), (77, .bool σ)]) (fun σ => [row v18 1 (r16.1.map (eInt .i64)), row v31 1 (r29.L.map (eInt .i64)), box b32 [v31, .int .i64 r29.E]]) (fun σ => σ = (b47 && decide (r13.2 = r24.E))) (fun L55 hL56 => ?_) ?_
    · refine ops_split 72 b47 rfl (fun hg57 => ?_) (fun hg57 => ?_)
      · skip
        refine ops_y (wg 19 true 72 rfl rfl rfl rfl) rfl (y_move rfl) ?_
        refine ops_y (wg 19 true 72 rfl rfl rfl rfl) rfl (y_fieldAddr_box (sz := 0) Try.runUnderlying62 rfl Try.sizeOf28 rfl) ?_
        refine ops_y (wg 19 true 72 rfl rfl rfl rfl) rfl (y_load_box 2 Try.isAgg28 rfl rfl rfl) ?_
        refine ops_y (wg 19 true 72 rfl rfl rfl rfl) rfl (y_eql rfl rfl) ?_
        refine ops_y (wn rfl) rfl (y_pick (b := true) rfl rfl) ?_
        refine ops_nil ?_
        exact goes_cut hL56 (decide (r13.2 = r24.E)) [0, 3, 4] (vcons rfl (vcons rfl (vcons rfl (vcons rfl (vnil))))) (by decide) rfl (by rw [hg57]; simp)
      · skip
        refine ops_no 19 true 72 rfl rfl rfl rfl rfl ?_
        refine ops_no 19 true 72 rfl rfl rfl rfl rfl ?_
        refine ops_no 19 true 72 rfl rfl rfl rfl rfl ?_
        refine ops_no 19 true 72 rfl rfl rfl rfl rfl ?_
        refine ops_y (wn rfl) rfl (y_pick (b := false) rfl rfl) ?_
        refine ops_nil ?_
        exact goes_cut hL56 false [0, 3, 4] (vcons rfl (vcons rfl (vcons rfl (vcons rfl (vnil))))) (by decide) rfl (by rw [hg57]; simp)
    rintro _ rfl
    refine ops_y (wn rfl) rfl (y_move rfl) ?_
    obtain ⟨o59, h, ho60⟩ := bindJ_some h
    refine ops_cut 5 (Bool) (fun σ => [(10, .int .i64 r16.2), (13, boxP b32 0), (83, .bool σ)]) (fun σ => [row v31 1 (r29.L.map (eInt .i64)), box b32 [v31, .int .i64 r29.E]]) (fun σ => o59 = .go σ) (fun L61 hL62 => ?_) ?_
    · refine ops_split 78 (b47 && decide (r13.2 = r24.E)) rfl (fun hg63 => ?_) (fun hg63 => ?_)
      · replace h := cond_t h hg63
        refine ops_y (wg 25 true 78 rfl rfl rfl rfl) rfl (y_move rfl) ?_
        refine ops_y (wg 25 true 78 rfl rfl rfl rfl) rfl (y_fieldAddr_box (sz := 0) Try.runUnderlying62 rfl Try.sizeOf34 rfl) ?_
        refine ops_y (wg 25 true 78 rfl rfl rfl rfl) rfl (y_load_box 2 Try.isAgg34 rfl rfl rfl) ?_
        obtain ⟨r64, hr65, h⟩ := obind_some h
        refine ops_t (wg 25 true 78 rfl rfl rfl rfl) rfl (t_callx (vs := [v18, v31]) (cs := []) [(0, 1), (1, 1)] rfl Try.call20 rfl (ref09_Same_ok n r16.1 r29.L v18 v31 hr65) (showsX_look 0 rfl views_row (showsX_look 1 rfl views_row showsX_nil)) rfl (.inr (by rintro _ _ ⟨rfl, rfl⟩ g hg; first | (cases hg; done) | (simp only [List.mem_cons, List.not_mem_nil, or_false] at hg; first | (subst hg; first | exact strict_row | exact strict_box) | (rcases hg with rfl | rfl <;> first | exact strict_row | exact strict_box) | (rcases hg with rfl | rfl | rfl <;> first | exact strict_row | exact strict_box))))) ?_
        rintro _ _ ⟨_, ⟨rfl, rfl⟩, rfl⟩
        refine ops_y (wn rfl) rfl (y_pick (b := true) rfl rfl) ?_
        refine ops_nil ?_
        obtain rfl := some_eq h
        exact goes_cut hL62 r64 [1, 2] (vcons rfl (vcons rfl (vcons rfl (vnil)))) (by decide) rfl rfl
      · replace h := cond_f h hg63
        refine ops_no 25 true 78 rfl rfl rfl rfl rfl ?_
        refine ops_no 25 true 78 rfl rfl rfl rfl rfl ?_
        refine ops_no 25 true 78 rfl rfl rfl rfl rfl ?_
        refine ops_no 25 true 78 rfl rfl rfl rfl rfl ?_
        refine ops_y (wn rfl) rfl (y_pick (b := false) rfl rfl) ?_
        refine ops_nil ?_
        obtain rfl := some_eq h
        exact goes_cut hL62 false [1, 2] (vcons rfl (vcons rfl (vcons rfl (vnil)))) (by decide) rfl rfl
    rintro b58 hj
    obtain rfl : o59 = _ := hj
    replace h := after_go ho60
    clear ho60
    refine ops_y (wn rfl) rfl (y_move rfl) ?_
    refine ops_cut 5 (Bool) (fun σ => [(89, .bool σ)]) (fun σ => []) (fun σ => σ = (b58 && decide (r16.2 = r29.E))) (fun L66 hL67 => ?_) ?_
    · refine ops_split 84 b58 rfl (fun hg68 => ?_) (fun hg68 => ?_)
      · skip
        refine ops_y (wg 31 true 84 rfl rfl rfl rfl) rfl (y_move rfl) ?_
        refine ops_y (wg 31 true 84 rfl rfl rfl rfl) rfl (y_fieldAddr_box (sz := 0) Try.runUnderlying62 rfl Try.sizeOf28 rfl) ?_
        refine ops_y (wg 31 true 84 rfl rfl rfl rfl) rfl (y_load_box 1 Try.isAgg28 rfl rfl rfl) ?_
        refine ops_y (wg 31 true 84 rfl rfl rfl rfl) rfl (y_eql rfl rfl) ?_
        refine ops_y (wn rfl) rfl (y_pick (b := true) rfl rfl) ?_
        refine ops_nil ?_
        exact goes_cut hL67 (decide (r16.2 = r29.E)) [] (vcons rfl (vnil)) (by decide) rfl (by rw [hg68]; simp)
      · skip
        refine ops_no 31 true 84 rfl rfl rfl rfl rfl ?_
        refine ops_no 31 true 84 rfl rfl rfl rfl rfl ?_
        refine ops_no 31 true 84 rfl rfl rfl rfl rfl ?_
        refine ops_no 31 true 84 rfl rfl rfl rfl rfl ?_
        refine ops_y (wn rfl) rfl (y_pick (b := false) rfl rfl) ?_
        refine ops_nil ?_
        exact goes_cut hL67 false [] (vcons rfl (vnil)) (by decide) rfl (by rw [hg68]; simp)
    rintro _ rfl
    refine ops_y (wn rfl) rfl (y_assign rfl) ?_
    refine ops_nil ?_
    refine goes_code ?_
    refine run_ret ?_
    obtain rfl := some_eq h
    refine fin_slots [4] [.bool (b58 && decide (r16.2 = r29.E))] [] [] Try.results5 rfl (by decide) rfl ?_
    exact ⟨rfl, rfl⟩

end Go.Proofs.Ytgelifcckhemiaa
