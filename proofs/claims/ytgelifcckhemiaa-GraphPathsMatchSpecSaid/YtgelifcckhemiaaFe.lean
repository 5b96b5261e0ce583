/-
  Functions of the program, lifted: part 5.
-/
import Derived.Test.YtgelifcckhemiaaFd
namespace Go.Proofs.Ytgelifcckhemiaa
open Go.Abs
set_option linter.unusedVariables false
set_option linter.unusedSimpArgs false
set_option maxRecDepth 20000
set_option maxHeartbeats 4000000

def law09_sanity (n : Nat) : Option (Bool) :=
 obind (law09_example ([] : List S_api_Arc)) fun r1 =>
 obind (graph_Reach n r1 0) fun r6 =>
 obind (graph_Order n r1) fun r9 =>
 obind (law09_example ([(S_api_Arc.mk 2 0 0 0)] : List S_api_Arc)) fun r14 =>
 obind (graph_Parts n r14) fun r17 =>
 obind (graph_Paths n r1 0) fun r20 =>
 obind (law09_example ([(S_api_Arc.mk 2 1 0 0)] : List S_api_Arc)) fun r30 =>
 obind (graph_Paths n r30 0) fun r35 =>
 cond (((((((decide (r6.2 ≠ 0) || decide (r9.2.2 ≠ 0)) || decide (r17.2 ≠ 0)) || decide (r20.2 ≠ 0)) || decide (r35.2 ≠ 0)) || decide ((r6.1.length : Int) ≠ 4)) || decide ((r9.2.1.length : Int) ≠ 0)) || decide ((r35.1.Cycle.length : Int) ≠ 2))
  (some false)
  (obind (graph_Depths n ([(-1), 0, 0, 1] : List Int)) fun r67 =>
  obind (graph_Climb n ([(-1), 0, 0, 1] : List Int) 3) fun r70 =>
  obind (graph_Below n ([(-1), 0, 0, 1] : List Int) 1) fun r73 =>
  idx r6.1 0 fun x76 =>
  bindJ (S := Bool)
   (cond x76
    (idx r6.1 1 fun x83 =>
    some (.go x83))
    (some (.go false)))
  (fun b77 =>
   bindJ (S := Bool)
    (cond b77
     (idx r6.1 2 fun x90 =>
     some (.go x90))
     (some (.go false)))
   (fun b84 =>
    bindJ (S := Bool)
     (cond b84
      (idx r6.1 3 fun x97 =>
      some (.go (!x97)))
      (some (.go false)))
    (fun b91 =>
     bindJ (S := Bool)
      (cond b91
       (obind (ref09_Same n r9.1 ([3, 0, 1, 2] : List Int)) fun r105 =>
       some (.go r105))
       (some (.go false)))
     (fun b98 =>
      bindJ (S := Bool)
       (cond b98
        (obind (ref09_SameSets n r17.1 ([([0, 1, 2] : List Int), ([3] : List Int)] : List (List Int))) fun r118 =>
        some (.go r118))
        (some (.go false)))
      (fun b107 =>
       bindJ (S := Bool)
        (cond b107
         (obind (ref09_Same n r20.1.Dist ([0, 2, 1, 0] : List Int)) fun r127 =>
         some (.go r127))
         (some (.go false)))
       (fun b120 =>
        bindJ (S := Bool)
         (cond b120
          (obind (ref09_Same n r20.1.Via ([(-1), 0, 2, (-1)] : List Int)) fun r136 =>
          some (.go r136))
          (some (.go false)))
        (fun b129 =>
         obind (graph_CheckPaths n r1 0 r20.1) fun r138 =>
         bindJ (S := Bool)
          (cond r138
           (obind (graph_CheckPaths n r30 0 r35.1) fun r146 =>
           some (.go r146))
           (some (.go false)))
         (fun b140 =>
          bindJ (S := Bool)
           (cond b140
            (obind (graph_CheckPaths n r30 0 r20.1) fun r154 =>
            some (.go (!r154)))
            (some (.go false)))
          (fun b148 =>
           bindJ (S := Bool)
            (cond ((((b129 && b148) && decide (r67.2 = 0)) && decide (r70.2 = 0)) && decide (r73.2 = 0))
             (obind (ref09_Same n r67.1 ([0, 1, 1, 2] : List Int)) fun r175 =>
             some (.go r175))
             (some (.go false)))
           (fun b168 =>
            bindJ (S := Bool)
             (cond b168
              (obind (ref09_Same n r70.1 ([3, 1, 0] : List Int)) fun r184 =>
              some (.go r184))
              (some (.go false)))
            (fun b177 =>
             bindJ (S := Bool)
              (cond b177
               (obind (ref09_Same n r73.1 ([1, 3] : List Int)) fun r193 =>
               some (.go r193))
               (some (.go false)))
             (fun b186 =>
              some b186)))))))))))))
theorem law09_sanity_ok (n : Nat)  {r : Bool} (h : law09_sanity n = some r) :
  Meets Try.prog 10 [] [] (fun v G => v = .bool r ∧ G = []) := by
 refine fn_of_run Try.func10 rfl Try.ntmps10 rfl (fun w0 o0 => ?_)
 refine run_seq ?_
 refine run_region' ?_
 refine oy rfl rfl (y_assign rfl) ?_
 refine ops_nil ?_
 refine goes_code ?_
 refine run_seq ?_
 refine run_region' ?_
 refine ops_turn (nilro 4) ?_
 refine ops_turn (retell 0 (g := ro (.slice none 0 0) 4 (([] : List S_api_Arc).map S_api_Arc.enc)) rfl rfl) ?_
 obtain ⟨r1, hr2, h⟩ := obind_some h
 refine ot rfl rfl (t_callx (vs := [(.slice none 0 0)]) (cs := []) [(0, 0)] rfl Try.call33 rfl (law09_example_ok ([] : List S_api_Arc) (.slice none 0 0) hr2) (showsX_view 0 rfl views_ro showsX_nil) rfl (.inl rfl)) ?_
 rintro _ _ ⟨_, ⟨v3, rfl, rfl⟩, rfl⟩
 refine ot rfl rfl (t_alloc Try.zeroValue24) ?_
 rintro _ _ ⟨b4, rfl, rfl⟩
 refine ops_slc 1 rfl reads_row (fun hs5 hs5o => ?_)
 refine ot rfl rfl (t_store 2 Try.sizeOf24 rfl rfl rfl rfl (by simp [Value.cells, boxP]) (by intro u hu; replace hu : u ∈ ([.int .i64 r1.Nodes, v3] : List Value) := hu; simp only [List.mem_cons, List.not_mem_nil, or_false] at hu; rcases hu with rfl | rfl <;> first | rfl | assumption)) ?_
 rintro _ _ ⟨rfl, rfl⟩
 refine ops_turn (retell 2 (g := box b4 [.int .i64 r1.Nodes, v3]) rfl rfl) ?_
 refine ops_nil ?_
 refine goes_code ?_
 refine run_seq ?_
 refine run_region' ?_
 refine oy rfl rfl (y_load_boxagg (c := [.int .i64 r1.Nodes, v3]) 2 Try.isAgg24 Try.sizeOf24 rfl rfl rfl) ?_
 obtain ⟨r6, hr7, h⟩ := obind_some h
 refine ot rfl rfl (t_callx (vs := [.agg #[.int .i64 r1.Nodes, v3], .int .i64 0]) (cs := []) [(1, 1)] rfl Try.call11 rfl (graph_Reach_ok n r1 0 v3 hr7) (showsX_look 1 rfl views_row showsX_nil) rfl (.inr (by rintro _ _ ⟨_, rfl, rfl⟩ g hg; first | (cases hg; done) | (simp only [List.mem_cons, List.not_mem_nil, or_false] at hg; first | (subst hg; first | exact strict_row | exact strict_box) | (rcases hg with rfl | rfl <;> first | exact strict_row | exact strict_box) | (rcases hg with rfl | rfl | rfl <;> first | exact strict_row | exact strict_box))))) ?_
 rintro _ _ ⟨_, ⟨v8, rfl, rfl⟩, rfl⟩
 refine oy rfl rfl (y_move rfl) ?_
 refine oy rfl rfl (y_extract rfl rfl) ?_
 refine oy rfl rfl (y_extract rfl rfl) ?_
 refine oy rfl rfl (y_assign rfl) ?_
 refine oy rfl rfl (y_assign rfl) ?_
 refine ops_nil ?_
 refine goes_code ?_
 refine run_seq ?_
 refine run_weak [(1, boxP b4 0), (2, v8), (3, .int .i64 r6.2)] [1, 2, 3] [row v3 4 (r1.Arcs.map S_api_Arc.enc), box b4 [.int .i64 r1.Nodes, v3], row v8 1 (r6.1.map eBool)] (qv3 rfl rfl rfl) (by decide) rfl ?_
 refine run_region' ?_
 refine oy rfl rfl (y_load_boxagg (c := [.int .i64 r1.Nodes, v3]) 1 Try.isAgg24 Try.sizeOf24 rfl rfl rfl) ?_
 obtain ⟨r9, hr10, h⟩ := obind_some h
 refine ot rfl rfl (t_callx (vs := [.agg #[.int .i64 r1.Nodes, v3]]) (cs := []) [(0, 1)] rfl Try.call13 rfl (graph_Order_ok n r1 v3 hr10) (showsX_look 0 rfl views_row showsX_nil) rfl (.inr (by rintro _ _ ⟨_, _, rfl, rfl⟩ g hg; first | (cases hg; done) | (simp only [List.mem_cons, List.not_mem_nil, or_false] at hg; first | (subst hg; first | exact strict_row | exact strict_box) | (rcases hg with rfl | rfl <;> first | exact strict_row | exact strict_box) | (rcases hg with rfl | rfl | rfl <;> first | exact strict_row | exact strict_box))))) ?_
 rintro _ _ ⟨_, ⟨v11, v12, rfl, rfl⟩, rfl⟩
 refine oy rfl rfl (y_move rfl) ?_
 refine oy rfl rfl (y_extract rfl rfl) ?_
 refine oy rfl rfl (y_extract rfl rfl) ?_
 refine oy rfl rfl (y_extract rfl rfl) ?_
 refine oy rfl rfl (y_assign rfl) ?_
 refine oy rfl rfl (y_assign rfl) ?_
 refine oy rfl rfl (y_assign rfl) ?_
 refine ops_nil ?_
 refine goes_code ?_
 refine run_seq ?_
 refine run_weak [(1, boxP b4 0), (2, v8), (3, .int .i64 r6.2), (4, v11), (5, v12), (6, .int .i64 r9.2.2)] [0, 1, 2, 3, 4] [row v3 4 (r1.Arcs.map S_api_Arc.enc), box b4 [.int .i64 r1.Nodes, v3], row v8 1 (r6.1.map eBool), row v11 1 (r9.1.map (eInt .i64)), row v12 1 (r9.2.1.map (eInt .i64))] (qv6 rfl rfl rfl rfl rfl rfl) (by decide) rfl ?_
 refine run_region' ?_
 refine oy rfl rfl (y_build_struct (cells := #[.int .i64 2, .int .i64 0, .int .i64 0, .int .i64 0]) [(0, .int .i64 2), (1, .int .i64 0)] [(0, [.int .i64 2]), (1, [.int .i64 0])] Try.zeroValue67 Try.runUnderlying67 (fs_cons Try.sizeOf3 (fs_cons Try.sizeOf3 (fs_cons Try.sizeOf3 (fs_cons Try.sizeOf3 fs_nil)))) rfl rfl rfl) ?_
 refine ot rfl rfl (t_lit [.agg #[.int .i64 2, .int .i64 0, .int .i64 0, .int .i64 0]] Try.runUnderlying22 Try.sizeOf67 Try.zeroValue67 rfl (by decide) (by decide) rfl (by simp [Value.cells, boxP])) ?_
 rintro v13 _ ⟨rfl, _⟩
 refine ops_turn (retell 5 (g := row v13 4 (([(S_api_Arc.mk 2 0 0 0)] : List S_api_Arc).map S_api_Arc.enc)) rfl rfl) ?_
 obtain ⟨r14, hr15, h⟩ := obind_some h
 refine ot rfl rfl (t_callx (vs := [v13]) (cs := []) [(5, 1)] rfl Try.call33 rfl (law09_example_ok ([(S_api_Arc.mk 2 0 0 0)] : List S_api_Arc) v13 hr15) (showsX_look 5 rfl views_row showsX_nil) rfl (.inr (by rintro _ _ ⟨_, rfl, rfl⟩ g hg; first | (cases hg; done) | (simp only [List.mem_cons, List.not_mem_nil, or_false] at hg; first | (subst hg; first | exact strict_row | exact strict_box) | (rcases hg with rfl | rfl <;> first | exact strict_row | exact strict_box) | (rcases hg with rfl | rfl | rfl <;> first | exact strict_row | exact strict_box))))) ?_
 rintro _ _ ⟨_, ⟨v16, rfl, rfl⟩, rfl⟩
 refine ops_turn (Go.Abs.freeze 6 rfl) ?_
 obtain ⟨r17, hr18, h⟩ := obind_some h
 refine ot rfl rfl (t_callx (vs := [.agg #[.int .i64 r14.Nodes, v16]]) (cs := []) [(6, 0)] rfl Try.call12 rfl (graph_Parts_ok n r14 v16 hr18) (showsX_view 6 rfl views_ro showsX_nil) rfl (.inl rfl)) ?_
 rintro _ _ ⟨_, ⟨v19, rfl, rfl⟩, rfl⟩
 refine oy rfl rfl (y_move rfl) ?_
 refine oy rfl rfl (y_extract rfl rfl) ?_
 refine oy rfl rfl (y_extract rfl rfl) ?_
 refine oy rfl rfl (y_assign rfl) ?_
 refine oy rfl rfl (y_assign rfl) ?_
 refine ops_nil ?_
 refine goes_code ?_
 refine run_seq ?_
 refine run_weak [(1, boxP b4 0), (2, v8), (3, .int .i64 r6.2), (4, v11), (5, v12), (6, .int .i64 r9.2.2), (7, v19), (8, .int .i64 r17.2)] [0, 1, 2, 3, 4, 7] [row v3 4 (r1.Arcs.map S_api_Arc.enc), box b4 [.int .i64 r1.Nodes, v3], row v8 1 (r6.1.map eBool), row v11 1 (r9.1.map (eInt .i64)), row v12 1 (r9.2.1.map (eInt .i64)), nrow v19 NC_L_int_34 r17.1] (qv8 rfl rfl rfl rfl rfl rfl rfl rfl) (by decide) rfl ?_
 refine run_region' ?_
 refine oy rfl rfl (y_load_boxagg (c := [.int .i64 r1.Nodes, v3]) 1 Try.isAgg24 Try.sizeOf24 rfl rfl rfl) ?_
 obtain ⟨r20, hr21, h⟩ := obind_some h
 refine ot rfl rfl (t_callx (vs := [.agg #[.int .i64 r1.Nodes, v3], .int .i64 0]) (cs := []) [(0, 1)] rfl Try.call22 rfl (graph_Paths_ok n r1 0 v3 hr21) (showsX_look 0 rfl views_row showsX_nil) rfl (.inr (by rintro _ _ ⟨_, _, _, rfl, rfl⟩ g hg; first | (cases hg; done) | (simp only [List.mem_cons, List.not_mem_nil, or_false] at hg; first | (subst hg; first | exact strict_row | exact strict_box) | (rcases hg with rfl | rfl <;> first | exact strict_row | exact strict_box) | (rcases hg with rfl | rfl | rfl <;> first | exact strict_row | exact strict_box))))) ?_
 rintro _ _ ⟨_, ⟨v22, v23, v24, rfl, rfl⟩, rfl⟩
 refine oy rfl rfl (y_move rfl) ?_
 refine oy rfl rfl (y_extract rfl rfl) ?_
 refine oy rfl rfl (y_extract rfl rfl) ?_
 refine ot rfl rfl (t_alloc Try.zeroValue51) ?_
 rintro _ _ ⟨b25, rfl, rfl⟩
 refine ops_slc 6 rfl reads_row (fun hs26 hs26o => ?_)
 refine ops_slc 7 rfl reads_row (fun hs27 hs27o => ?_)
 refine ops_slc 8 rfl reads_row (fun hs28 hs28o => ?_)
 refine ot rfl rfl (t_store 9 Try.sizeOf51 rfl rfl rfl rfl (by simp [Value.cells, boxP]) (by intro u hu; replace hu : u ∈ ([v22, v23, v24] : List Value) := hu; simp only [List.mem_cons, List.not_mem_nil, or_false] at hu; rcases hu with rfl | rfl | rfl <;> first | rfl | assumption)) ?_
 rintro _ _ ⟨rfl, rfl⟩
 refine ops_turn (retell 9 (g := box b25 [v22, v23, v24]) rfl rfl) ?_
 refine oy rfl rfl (y_assign rfl) ?_
 refine ops_nil ?_
 refine goes_code ?_
 refine run_seq ?_
 refine run_weak [(1, boxP b4 0), (2, v8), (3, .int .i64 r6.2), (4, v11), (5, v12), (6, .int .i64 r9.2.2), (7, v19), (8, .int .i64 r17.2), (9, boxP b25 0), (10, .int .i64 r20.2)] [0, 1, 2, 3, 4, 5, 6, 7, 8, 9] [row v3 4 (r1.Arcs.map S_api_Arc.enc), box b4 [.int .i64 r1.Nodes, v3], row v8 1 (r6.1.map eBool), row v11 1 (r9.1.map (eInt .i64)), row v12 1 (r9.2.1.map (eInt .i64)), nrow v19 NC_L_int_34 r17.1, row v22 1 (r20.1.Dist.map (eInt .i64)), row v23 1 (r20.1.Via.map (eInt .i64)), row v24 1 (r20.1.Cycle.map (eInt .i64)), box b25 [v22, v23, v24]] (qv10 rfl rfl rfl rfl rfl rfl rfl rfl rfl rfl) (by decide) rfl ?_
 refine run_region' ?_
 refine oy rfl rfl (y_build_struct (cells := #[.int .i64 2, .int .i64 1, .int .i64 0, .int .i64 0]) [(0, .int .i64 2), (1, .int .i64 1)] [(0, [.int .i64 2]), (1, [.int .i64 1])] Try.zeroValue67 Try.runUnderlying67 (fs_cons Try.sizeOf3 (fs_cons Try.sizeOf3 (fs_cons Try.sizeOf3 (fs_cons Try.sizeOf3 fs_nil)))) rfl rfl rfl) ?_
 refine ot rfl rfl (t_lit [.agg #[.int .i64 2, .int .i64 1, .int .i64 0, .int .i64 0]] Try.runUnderlying22 Try.sizeOf67 Try.zeroValue67 rfl (by decide) (by decide) rfl (by simp [Value.cells, boxP])) ?_
 rintro v29 _ ⟨rfl, _⟩
 refine ops_turn (retell 10 (g := row v29 4 (([(S_api_Arc.mk 2 1 0 0)] : List S_api_Arc).map S_api_Arc.enc)) rfl rfl) ?_
 obtain ⟨r30, hr31, h⟩ := obind_some h
 refine ot rfl rfl (t_callx (vs := [v29]) (cs := []) [(10, 1)] rfl Try.call33 rfl (law09_example_ok ([(S_api_Arc.mk 2 1 0 0)] : List S_api_Arc) v29 hr31) (showsX_look 10 rfl views_row showsX_nil) rfl (.inr (by rintro _ _ ⟨_, rfl, rfl⟩ g hg; first | (cases hg; done) | (simp only [List.mem_cons, List.not_mem_nil, or_false] at hg; first | (subst hg; first | exact strict_row | exact strict_box) | (rcases hg with rfl | rfl <;> first | exact strict_row | exact strict_box) | (rcases hg with rfl | rfl | rfl <;> first | exact strict_row | exact strict_box))))) ?_
 rintro _ _ ⟨_, ⟨v32, rfl, rfl⟩, rfl⟩
 refine ot rfl rfl (t_alloc Try.zeroValue24) ?_
 rintro _ _ ⟨b33, rfl, rfl⟩
 refine ops_slc 11 rfl reads_row (fun hs34 hs34o => ?_)
 refine ot rfl rfl (t_store 12 Try.sizeOf24 rfl rfl rfl rfl (by simp [Value.cells, boxP]) (by intro u hu; replace hu : u ∈ ([.int .i64 r30.Nodes, v32] : List Value) := hu; simp only [List.mem_cons, List.not_mem_nil, or_false] at hu; rcases hu with rfl | rfl <;> first | rfl | assumption)) ?_
 rintro _ _ ⟨rfl, rfl⟩
 refine ops_turn (retell 12 (g := box b33 [.int .i64 r30.Nodes, v32]) rfl rfl) ?_
 refine ops_nil ?_
 refine goes_code ?_
 refine run_seq ?_
 refine run_region' ?_
 refine oy rfl rfl (y_load_boxagg (c := [.int .i64 r30.Nodes, v32]) 12 Try.isAgg24 Try.sizeOf24 rfl rfl rfl) ?_
 obtain ⟨r35, hr36, h⟩ := obind_some h
 refine ot rfl rfl (t_callx (vs := [.agg #[.int .i64 r30.Nodes, v32], .int .i64 0]) (cs := []) [(11, 1)] rfl Try.call22 rfl (graph_Paths_ok n r30 0 v32 hr36) (showsX_look 11 rfl views_row showsX_nil) rfl (.inr (by rintro _ _ ⟨_, _, _, rfl, rfl⟩ g hg; first | (cases hg; done) | (simp only [List.mem_cons, List.not_mem_nil, or_false] at hg; first | (subst hg; first | exact strict_row | exact strict_box) | (rcases hg with rfl | rfl <;> first | exact strict_row | exact strict_box) | (rcases hg with rfl | rfl | rfl <;> first | exact strict_row | exact strict_box))))) ?_
 rintro _ _ ⟨_, ⟨v37, v38, v39, rfl, rfl⟩, rfl⟩
 refine oy rfl rfl (y_move rfl) ?_
 refine oy rfl rfl (y_extract rfl rfl) ?_
 refine oy rfl rfl (y_extract rfl rfl) ?_
 refine ot rfl rfl (t_alloc Try.zeroValue51) ?_
 rintro _ _ ⟨b40, rfl, rfl⟩
 refine ops_slc 13 rfl reads_row (fun hs41 hs41o => ?_)
 refine ops_slc 14 rfl reads_row (fun hs42 hs42o => ?_)
 refine ops_slc 15 rfl reads_row (fun hs43 hs43o => ?_)
 refine ot rfl rfl (t_store 16 Try.sizeOf51 rfl rfl rfl rfl (by simp [Value.cells, boxP]) (by intro u hu; replace hu : u ∈ ([v37, v38, v39] : List Value) := hu; simp only [List.mem_cons, List.not_mem_nil, or_false] at hu; rcases hu with rfl | rfl | rfl <;> first | rfl | assumption)) ?_
 rintro _ _ ⟨rfl, rfl⟩
 refine ops_turn (retell 16 (g := box b40 [v37, v38, v39]) rfl rfl) ?_
 refine oy rfl rfl (y_assign rfl) ?_
 refine ops_nil ?_
 refine goes_code ?_
 refine run_seq ?_
 refine run_seq ?_
 refine run_weak [(1, boxP b4 0), (2, v8), (3, .int .i64 r6.2), (4, v11), (5, v12), (6, .int .i64 r9.2.2), (7, v19), (8, .int .i64 r17.2), (9, boxP b25 0), (10, .int .i64 r20.2), (11, boxP b33 0), (12, boxP b40 0), (13, .int .i64 r35.2)] [0, 1, 2, 3, 4, 5, 6, 7, 8, 9, 11, 12, 13, 14, 15, 16] [row v3 4 (r1.Arcs.map S_api_Arc.enc), box b4 [.int .i64 r1.Nodes, v3], row v8 1 (r6.1.map eBool), row v11 1 (r9.1.map (eInt .i64)), row v12 1 (r9.2.1.map (eInt .i64)), nrow v19 NC_L_int_34 r17.1, row v22 1 (r20.1.Dist.map (eInt .i64)), row v23 1 (r20.1.Via.map (eInt .i64)), row v24 1 (r20.1.Cycle.map (eInt .i64)), box b25 [v22, v23, v24], row v32 4 (r30.Arcs.map S_api_Arc.enc), box b33 [.int .i64 r30.Nodes, v32], row v37 1 (r35.1.Dist.map (eInt .i64)), row v38 1 (r35.1.Via.map (eInt .i64)), row v39 1 (r35.1.Cycle.map (eInt .i64)), box b40 [v37, v38, v39]] (qw6 rfl rfl rfl rfl rfl rfl (qv7 rfl rfl rfl rfl rfl rfl rfl)) (by decide) rfl ?_
 refine run_region' ?_
 refine oy rfl rfl (y_move rfl) ?_
 refine oy rfl rfl (y_neq rfl rfl) ?_
 refine oy rfl rfl (y_move rfl) ?_
 refine ops_cut 3 (Bool) (fun σ => [(1, boxP b4 0), (2, v8), (4, v11), (5, v12), (7, v19), (8, .int .i64 r17.2), (9, boxP b25 0), (10, .int .i64 r20.2), (11, boxP b33 0), (12, boxP b40 0), (13, .int .i64 r35.2), (60, .bool σ)]) (fun σ => [row v3 4 (r1.Arcs.map S_api_Arc.enc), box b4 [.int .i64 r1.Nodes, v3], row v8 1 (r6.1.map eBool), row v11 1 (r9.1.map (eInt .i64)), row v12 1 (r9.2.1.map (eInt .i64)), nrow v19 NC_L_int_34 r17.1, row v22 1 (r20.1.Dist.map (eInt .i64)), row v23 1 (r20.1.Via.map (eInt .i64)), row v24 1 (r20.1.Cycle.map (eInt .i64)), box b25 [v22, v23, v24], row v32 4 (r30.Arcs.map S_api_Arc.enc), box b33 [.int .i64 r30.Nodes, v32], row v37 1 (r35.1.Dist.map (eInt .i64)), row v38 1 (r35.1.Via.map (eInt .i64)), row v39 1 (r35.1.Cycle.map (eInt .i64)), box b40 [v37, v38, v39]]) (fun σ => σ = (decide (r6.2 ≠ 0) || decide (r9.2.2 ≠ 0))) (fun L44 hL45 => ?_) ?_
 ·refine ops_split 57 (decide (r6.2 ≠ 0)) rfl (fun hg46 => ?_) (fun hg46 => ?_)
  ·skip
   refine ops_no 2 false 57 rfl rfl rfl rfl rfl ?_
   refine ops_no 2 false 57 rfl rfl rfl rfl rfl ?_
   refine oy rfl rfl (y_pick (b := true) rfl rfl) ?_
   refine ops_nil ?_
   exact goes_cut hL45 true [0, 1, 2, 3, 4, 5, 6, 7, 8, 9, 10, 11, 12, 13, 14, 15] (qv12 rfl rfl rfl rfl rfl rfl rfl rfl rfl rfl rfl rfl) (by decide) rfl (by rw [hg46]; simp)
  ·skip
   refine ops_y (wg 2 false 57 rfl rfl rfl rfl) rfl (y_move rfl) ?_
   refine ops_y (wg 2 false 57 rfl rfl rfl rfl) rfl (y_neq rfl rfl) ?_
   refine oy rfl rfl (y_pick (b := false) rfl rfl) ?_
   refine ops_nil ?_
   exact goes_cut hL45 (decide (r9.2.2 ≠ 0)) [0, 1, 2, 3, 4, 5, 6, 7, 8, 9, 10, 11, 12, 13, 14, 15] (qv12 rfl rfl rfl rfl rfl rfl rfl rfl rfl rfl rfl rfl) (by decide) rfl (by rw [hg46]; simp)
 rintro _ rfl
 refine oy rfl rfl (y_move rfl) ?_
 refine ops_cut 3 (Bool) (fun σ => [(1, boxP b4 0), (2, v8), (4, v11), (5, v12), (7, v19), (9, boxP b25 0), (10, .int .i64 r20.2), (11, boxP b33 0), (12, boxP b40 0), (13, .int .i64 r35.2), (64, .bool σ)]) (fun σ => [row v3 4 (r1.Arcs.map S_api_Arc.enc), box b4 [.int .i64 r1.Nodes, v3], row v8 1 (r6.1.map eBool), row v11 1 (r9.1.map (eInt .i64)), row v12 1 (r9.2.1.map (eInt .i64)), nrow v19 NC_L_int_34 r17.1, row v22 1 (r20.1.Dist.map (eInt .i64)), row v23 1 (r20.1.Via.map (eInt .i64)), row v24 1 (r20.1.Cycle.map (eInt .i64)), box b25 [v22, v23, v24], row v32 4 (r30.Arcs.map S_api_Arc.enc), box b33 [.int .i64 r30.Nodes, v32], row v37 1 (r35.1.Dist.map (eInt .i64)), row v38 1 (r35.1.Via.map (eInt .i64)), row v39 1 (r35.1.Cycle.map (eInt .i64)), box b40 [v37, v38, v39]]) (fun σ => σ = ((decide (r6.2 ≠ 0) || decide (r9.2.2 ≠ 0)) || decide (r17.2 ≠ 0))) (fun L47 hL48 => ?_) ?_
 ·refine ops_split 61 (decide (r6.2 ≠ 0) || decide (r9.2.2 ≠ 0)) rfl (fun hg49 => ?_) (fun hg49 => ?_)
  ·skip
   refine ops_no 6 false 61 rfl rfl rfl rfl rfl ?_
   refine ops_no 6 false 61 rfl rfl rfl rfl rfl ?_
   refine oy rfl rfl (y_pick (b := true) rfl rfl) ?_
   refine ops_nil ?_
   exact goes_cut hL48 true [0, 1, 2, 3, 4, 5, 6, 7, 8, 9, 10, 11, 12, 13, 14, 15] (qv11 rfl rfl rfl rfl rfl rfl rfl rfl rfl rfl rfl) (by decide) rfl (by rw [hg49]; simp)
  ·skip
   refine ops_y (wg 6 false 61 rfl rfl rfl rfl) rfl (y_move rfl) ?_
   refine ops_y (wg 6 false 61 rfl rfl rfl rfl) rfl (y_neq rfl rfl) ?_
   refine oy rfl rfl (y_pick (b := false) rfl rfl) ?_
   refine ops_nil ?_
   exact goes_cut hL48 (decide (r17.2 ≠ 0)) [0, 1, 2, 3, 4, 5, 6, 7, 8, 9, 10, 11, 12, 13, 14, 15] (qv11 rfl rfl rfl rfl rfl rfl rfl rfl rfl rfl rfl) (by decide) rfl (by rw [hg49]; simp)
 rintro _ rfl
 refine oy rfl rfl (y_move rfl) ?_
 refine ops_cut 3 (Bool) (fun σ => [(1, boxP b4 0), (2, v8), (4, v11), (5, v12), (7, v19), (9, boxP b25 0), (11, boxP b33 0), (12, boxP b40 0), (13, .int .i64 r35.2), (68, .bool σ)]) (fun σ => [row v3 4 (r1.Arcs.map S_api_Arc.enc), box b4 [.int .i64 r1.Nodes, v3], row v8 1 (r6.1.map eBool), row v11 1 (r9.1.map (eInt .i64)), row v12 1 (r9.2.1.map (eInt .i64)), nrow v19 NC_L_int_34 r17.1, row v22 1 (r20.1.Dist.map (eInt .i64)), row v23 1 (r20.1.Via.map (eInt .i64)), row v24 1 (r20.1.Cycle.map (eInt .i64)), box b25 [v22, v23, v24], row v32 4 (r30.Arcs.map S_api_Arc.enc), box b33 [.int .i64 r30.Nodes, v32], row v37 1 (r35.1.Dist.map (eInt .i64)), row v38 1 (r35.1.Via.map (eInt .i64)), row v39 1 (r35.1.Cycle.map (eInt .i64)), box b40 [v37, v38, v39]]) (fun σ => σ = (((decide (r6.2 ≠ 0) || decide (r9.2.2 ≠ 0)) || decide (r17.2 ≠ 0)) || decide (r20.2 ≠ 0))) (fun L50 hL51 => ?_) ?_
 ·refine ops_split 65 ((decide (r6.2 ≠ 0) || decide (r9.2.2 ≠ 0)) || decide (r17.2 ≠ 0)) rfl (fun hg52 => ?_) (fun hg52 => ?_)
  ·skip
   refine ops_no 10 false 65 rfl rfl rfl rfl rfl ?_
   refine ops_no 10 false 65 rfl rfl rfl rfl rfl ?_
   refine oy rfl rfl (y_pick (b := true) rfl rfl) ?_
   refine ops_nil ?_
   exact goes_cut hL51 true [0, 1, 2, 3, 4, 5, 6, 7, 8, 9, 10, 11, 12, 13, 14, 15] (qv10 rfl rfl rfl rfl rfl rfl rfl rfl rfl rfl) (by decide) rfl (by rw [hg52]; simp)
  ·skip
   refine ops_y (wg 10 false 65 rfl rfl rfl rfl) rfl (y_move rfl) ?_
   refine ops_y (wg 10 false 65 rfl rfl rfl rfl) rfl (y_neq rfl rfl) ?_
   refine oy rfl rfl (y_pick (b := false) rfl rfl) ?_
   refine ops_nil ?_
   exact goes_cut hL51 (decide (r20.2 ≠ 0)) [0, 1, 2, 3, 4, 5, 6, 7, 8, 9, 10, 11, 12, 13, 14, 15] (qv10 rfl rfl rfl rfl rfl rfl rfl rfl rfl rfl) (by decide) rfl (by rw [hg52]; simp)
 rintro _ rfl
 refine oy rfl rfl (y_move rfl) ?_
 refine ops_cut 3 (Bool) (fun σ => [(1, boxP b4 0), (2, v8), (4, v11), (5, v12), (7, v19), (9, boxP b25 0), (11, boxP b33 0), (12, boxP b40 0), (72, .bool σ)]) (fun σ => [row v3 4 (r1.Arcs.map S_api_Arc.enc), box b4 [.int .i64 r1.Nodes, v3], row v8 1 (r6.1.map eBool), row v11 1 (r9.1.map (eInt .i64)), row v12 1 (r9.2.1.map (eInt .i64)), nrow v19 NC_L_int_34 r17.1, row v22 1 (r20.1.Dist.map (eInt .i64)), row v23 1 (r20.1.Via.map (eInt .i64)), row v24 1 (r20.1.Cycle.map (eInt .i64)), box b25 [v22, v23, v24], row v32 4 (r30.Arcs.map S_api_Arc.enc), box b33 [.int .i64 r30.Nodes, v32], row v37 1 (r35.1.Dist.map (eInt .i64)), row v38 1 (r35.1.Via.map (eInt .i64)), row v39 1 (r35.1.Cycle.map (eInt .i64)), box b40 [v37, v38, v39]]) (fun σ => σ = ((((decide (r6.2 ≠ 0) || decide (r9.2.2 ≠ 0)) || decide (r17.2 ≠ 0)) || decide (r20.2 ≠ 0)) || decide (r35.2 ≠ 0))) (fun L53 hL54 => ?_) ?_
 ·refine ops_split 69 (((decide (r6.2 ≠ 0) || decide (r9.2.2 ≠ 0)) || decide (r17.2 ≠ 0)) || decide (r20.2 ≠ 0)) rfl (fun hg55 => ?_) (fun hg55 => ?_)
  ·skip
   refine ops_no 14 false 69 rfl rfl rfl rfl rfl ?_
   refine ops_no 14 false 69 rfl rfl rfl rfl rfl ?_
   refine oy rfl rfl (y_pick (b := true) rfl rfl) ?_
   refine ops_nil ?_
   exact goes_cut hL54 true [0, 1, 2, 3, 4, 5, 6, 7, 8, 9, 10, 11, 12, 13, 14, 15] (qv9 rfl rfl rfl rfl rfl rfl rfl rfl rfl) (by decide) rfl (by rw [hg55]; simp)
  ·skip
   refine ops_y (wg 14 false 69 rfl rfl rfl rfl) rfl (y_move rfl) ?_
   refine ops_y (wg 14 false 69 rfl rfl rfl rfl) rfl (y_neq rfl rfl) ?_
   refine oy rfl rfl (y_pick (b := false) rfl rfl) ?_
   refine ops_nil ?_
   exact goes_cut hL54 (decide (r35.2 ≠ 0)) [0, 1, 2, 3, 4, 5, 6, 7, 8, 9, 10, 11, 12, 13, 14, 15] (qv9 rfl rfl rfl rfl rfl rfl rfl rfl rfl) (by decide) rfl (by rw [hg55]; simp)
 rintro _ rfl
 refine oy rfl rfl (y_move rfl) ?_
 refine ops_cut 4 (Bool) (fun σ => [(1, boxP b4 0), (2, v8), (4, v11), (5, v12), (7, v19), (9, boxP b25 0), (11, boxP b33 0), (12, boxP b40 0), (77, .bool σ)]) (fun σ => [row v3 4 (r1.Arcs.map S_api_Arc.enc), box b4 [.int .i64 r1.Nodes, v3], row v8 1 (r6.1.map eBool), row v11 1 (r9.1.map (eInt .i64)), row v12 1 (r9.2.1.map (eInt .i64)), nrow v19 NC_L_int_34 r17.1, row v22 1 (r20.1.Dist.map (eInt .i64)), row v23 1 (r20.1.Via.map (eInt .i64)), row v24 1 (r20.1.Cycle.map (eInt .i64)), box b25 [v22, v23, v24], row v32 4 (r30.Arcs.map S_api_Arc.enc), box b33 [.int .i64 r30.Nodes, v32], row v37 1 (r35.1.Dist.map (eInt .i64)), row v38 1 (r35.1.Via.map (eInt .i64)), row v39 1 (r35.1.Cycle.map (eInt .i64)), box b40 [v37, v38, v39]]) (fun σ => σ = (((((decide (r6.2 ≠ 0) || decide (r9.2.2 ≠ 0)) || decide (r17.2 ≠ 0)) || decide (r20.2 ≠ 0)) || decide (r35.2 ≠ 0)) || decide ((r6.1.length : Int) ≠ 4))) (fun L56 hL57 => ?_) ?_
 ·refine ops_split 73 ((((decide (r6.2 ≠ 0) || decide (r9.2.2 ≠ 0)) || decide (r17.2 ≠ 0)) || decide (r20.2 ≠ 0)) || decide (r35.2 ≠ 0)) rfl (fun hg58 => ?_) (fun hg58 => ?_)
  ·skip
   refine ops_no 18 false 73 rfl rfl rfl rfl rfl ?_
   refine ops_no 18 false 73 rfl rfl rfl rfl rfl ?_
   refine ops_no 18 false 73 rfl rfl rfl rfl rfl ?_
   refine oy rfl rfl (y_pick (b := true) rfl rfl) ?_
   refine ops_nil ?_
   exact goes_cut hL57 true [0, 1, 2, 3, 4, 5, 6, 7, 8, 9, 10, 11, 12, 13, 14, 15] (qv9 rfl rfl rfl rfl rfl rfl rfl rfl rfl) (by decide) rfl (by rw [hg58]; simp)
  ·skip
   refine ops_y (wg 18 false 73 rfl rfl rfl rfl) rfl (y_move rfl) ?_
   refine ops_y (wg 18 false 73 rfl rfl rfl rfl) rfl ((y_len 2 rfl Try.runUnderlying27 rfl rfl reads_row).to (v_len eBool _)) ?_
   refine ops_y (wg 18 false 73 rfl rfl rfl rfl) rfl (y_neq rfl rfl) ?_
   refine oy rfl rfl (y_pick (b := false) rfl rfl) ?_
   refine ops_nil ?_
   exact goes_cut hL57 (decide ((r6.1.length : Int) ≠ 4)) [0, 1, 2, 3, 4, 5, 6, 7, 8, 9, 10, 11, 12, 13, 14, 15] (qv9 rfl rfl rfl rfl rfl rfl rfl rfl rfl) (by decide) rfl (by rw [hg58]; simp)
 rintro _ rfl
 refine oy rfl rfl (y_move rfl) ?_
 refine ops_cut 4 (Bool) (fun σ => [(1, boxP b4 0), (2, v8), (4, v11), (7, v19), (9, boxP b25 0), (11, boxP b33 0), (12, boxP b40 0), (82, .bool σ)]) (fun σ => [row v3 4 (r1.Arcs.map S_api_Arc.enc), box b4 [.int .i64 r1.Nodes, v3], row v8 1 (r6.1.map eBool), row v11 1 (r9.1.map (eInt .i64)), nrow v19 NC_L_int_34 r17.1, row v22 1 (r20.1.Dist.map (eInt .i64)), row v23 1 (r20.1.Via.map (eInt .i64)), row v24 1 (r20.1.Cycle.map (eInt .i64)), box b25 [v22, v23, v24], row v32 4 (r30.Arcs.map S_api_Arc.enc), box b33 [.int .i64 r30.Nodes, v32], row v37 1 (r35.1.Dist.map (eInt .i64)), row v38 1 (r35.1.Via.map (eInt .i64)), row v39 1 (r35.1.Cycle.map (eInt .i64)), box b40 [v37, v38, v39]]) (fun σ => σ = ((((((decide (r6.2 ≠ 0) || decide (r9.2.2 ≠ 0)) || decide (r17.2 ≠ 0)) || decide (r20.2 ≠ 0)) || decide (r35.2 ≠ 0)) || decide ((r6.1.length : Int) ≠ 4)) || decide ((r9.2.1.length : Int) ≠ 0))) (fun L59 hL60 => ?_) ?_
 ·refine ops_split 78 (((((decide (r6.2 ≠ 0) || decide (r9.2.2 ≠ 0)) || decide (r17.2 ≠ 0)) || decide (r20.2 ≠ 0)) || decide (r35.2 ≠ 0)) || decide ((r6.1.length : Int) ≠ 4)) rfl (fun hg61 => ?_) (fun hg61 => ?_)
  ·skip
   refine ops_no 23 false 78 rfl rfl rfl rfl rfl ?_
   refine ops_no 23 false 78 rfl rfl rfl rfl rfl ?_
   refine ops_no 23 false 78 rfl rfl rfl rfl rfl ?_
   refine oy rfl rfl (y_pick (b := true) rfl rfl) ?_
   refine ops_nil ?_
   exact goes_cut hL60 true [0, 1, 2, 3, 5, 6, 7, 8, 9, 10, 11, 12, 13, 14, 15] (qv8 rfl rfl rfl rfl rfl rfl rfl rfl) (by decide) rfl (by rw [hg61]; simp)
  ·skip
   refine ops_y (wg 23 false 78 rfl rfl rfl rfl) rfl (y_move rfl) ?_
   refine ops_y (wg 23 false 78 rfl rfl rfl rfl) rfl ((y_len 4 rfl Try.runUnderlying34 rfl rfl reads_row).to (v_len (eInt .i64) _)) ?_
   refine ops_y (wg 23 false 78 rfl rfl rfl rfl) rfl (y_neq rfl rfl) ?_
   refine oy rfl rfl (y_pick (b := false) rfl rfl) ?_
   refine ops_nil ?_
   exact goes_cut hL60 (decide ((r9.2.1.length : Int) ≠ 0)) [0, 1, 2, 3, 5, 6, 7, 8, 9, 10, 11, 12, 13, 14, 15] (qv8 rfl rfl rfl rfl rfl rfl rfl rfl) (by decide) rfl (by rw [hg61]; simp)
 rintro _ rfl
 refine oy rfl rfl (y_move rfl) ?_
 refine ops_cut 5 (Bool) (fun σ => [(1, boxP b4 0), (2, v8), (4, v11), (7, v19), (9, boxP b25 0), (11, boxP b33 0), (12, boxP b40 0), (88, .bool σ)]) (fun σ => [row v3 4 (r1.Arcs.map S_api_Arc.enc), box b4 [.int .i64 r1.Nodes, v3], row v8 1 (r6.1.map eBool), row v11 1 (r9.1.map (eInt .i64)), nrow v19 NC_L_int_34 r17.1, row v22 1 (r20.1.Dist.map (eInt .i64)), row v23 1 (r20.1.Via.map (eInt .i64)), row v24 1 (r20.1.Cycle.map (eInt .i64)), box b25 [v22, v23, v24], row v32 4 (r30.Arcs.map S_api_Arc.enc), box b33 [.int .i64 r30.Nodes, v32], row v37 1 (r35.1.Dist.map (eInt .i64)), row v38 1 (r35.1.Via.map (eInt .i64)), row v39 1 (r35.1.Cycle.map (eInt .i64)), box b40 [v37, v38, v39]]) (fun σ => σ = (((((((decide (r6.2 ≠ 0) || decide (r9.2.2 ≠ 0)) || decide (r17.2 ≠ 0)) || decide (r20.2 ≠ 0)) || decide (r35.2 ≠ 0)) || decide ((r6.1.length : Int) ≠ 4)) || decide ((r9.2.1.length : Int) ≠ 0)) || decide ((r35.1.Cycle.length : Int) ≠ 2))) (fun L62 hL63 => ?_) ?_
 ·refine ops_split 83 ((((((decide (r6.2 ≠ 0) || decide (r9.2.2 ≠ 0)) || decide (r17.2 ≠ 0)) || decide (r20.2 ≠ 0)) || decide (r35.2 ≠ 0)) || decide ((r6.1.length : Int) ≠ 4)) || decide ((r9.2.1.length : Int) ≠ 0)) rfl (fun hg64 => ?_) (fun hg64 => ?_)
  ·skip
   refine ops_no 28 false 83 rfl rfl rfl rfl rfl ?_
   refine ops_no 28 false 83 rfl rfl rfl rfl rfl ?_
   refine ops_no 28 false 83 rfl rfl rfl rfl rfl ?_
   refine ops_no 28 false 83 rfl rfl rfl rfl rfl ?_
   refine oy rfl rfl (y_pick (b := true) rfl rfl) ?_
   refine ops_nil ?_
   exact goes_cut hL63 true [0, 1, 2, 3, 4, 5, 6, 7, 8, 9, 10, 11, 12, 13, 14] (qv8 rfl rfl rfl rfl rfl rfl rfl rfl) (by decide) rfl (by rw [hg64]; simp)
  ·skip
   refine ops_y (wg 28 false 83 rfl rfl rfl rfl) rfl (y_fieldAddr_box (sz := 0) Try.runUnderlying51 rfl Try.sizeOf34 rfl) ?_
   refine ops_y (wg 28 false 83 rfl rfl rfl rfl) rfl (y_load_box 14 Try.isAgg34 rfl rfl rfl) ?_
   refine ops_y (wg 28 false 83 rfl rfl rfl rfl) rfl ((y_len 13 rfl Try.runUnderlying34 rfl rfl reads_row).to (v_len (eInt .i64) _)) ?_
   refine ops_y (wg 28 false 83 rfl rfl rfl rfl) rfl (y_neq rfl rfl) ?_
   refine oy rfl rfl (y_pick (b := false) rfl rfl) ?_
   refine ops_nil ?_
   exact goes_cut hL63 (decide ((r35.1.Cycle.length : Int) ≠ 2)) [0, 1, 2, 3, 4, 5, 6, 7, 8, 9, 10, 11, 12, 13, 14] (qv8 rfl rfl rfl rfl rfl rfl rfl rfl) (by decide) rfl (by rw [hg64]; simp)
 rintro _ rfl
 refine ops_nil ?_
 refine goes_code ?_
 refine run_cond (((((((decide (r6.2 ≠ 0) || decide (r9.2.2 ≠ 0)) || decide (r17.2 ≠ 0)) || decide (r20.2 ≠ 0)) || decide (r35.2 ≠ 0)) || decide ((r6.1.length : Int) ≠ 4)) || decide ((r9.2.1.length : Int) ≠ 0)) || decide ((r35.1.Cycle.length : Int) ≠ 2)) rfl (fun hc65 => ?_) (fun hc65 => ?_)
 ·replace h := cond_t h hc65
  refine run_seq ?_
  refine run_region' ?_
  refine oy rfl rfl (y_assign rfl) ?_
  refine ops_nil ?_
  refine goes_code ?_
  refine run_ret ?_
  obtain rfl := some_eq h
  refine fin_slots [0] [.bool false] [] [] Try.results10 rfl (by decide) rfl ?_
  exact ⟨rfl, rfl⟩
 ·replace h := cond_f h hc65
  refine run_skip ?_
  refine goes_code ?_
  refine run_seq ?_
  refine run_region' ?_
  refine ot rfl rfl (t_lit [.int .i64 (-1), .int .i64 0, .int .i64 0, .int .i64 1] Try.runUnderlying34 Try.sizeOf3 Try.zeroValue3 rfl (by decide) (by decide) rfl (by simp [Value.cells, boxP])) ?_
  rintro v66 _ ⟨rfl, _⟩
  refine ops_turn (retell 15 (g := row v66 1 (([(-1), 0, 0, 1] : List Int).map (eInt .i64))) rfl rfl) ?_
  refine oy rfl rfl (y_assign rfl) ?_
  refine ops_nil ?_
  refine goes_code ?_
  refine run_seq ?_
  refine run_region' ?_
  refine oy rfl rfl (y_move rfl) ?_
  obtain ⟨r67, hr68, h⟩ := obind_some h
  refine ot rfl rfl (t_callx (vs := [v66]) (cs := []) [(15, 1)] rfl Try.call26 rfl (graph_Depths_ok n ([(-1), 0, 0, 1] : List Int) v66 hr68) (showsX_look 15 rfl views_row showsX_nil) rfl (.inr (by rintro _ _ ⟨_, rfl, rfl⟩ g hg; first | (cases hg; done) | (simp only [List.mem_cons, List.not_mem_nil, or_false] at hg; first | (subst hg; first | exact strict_row | exact strict_box) | (rcases hg with rfl | rfl <;> first | exact strict_row | exact strict_box) | (rcases hg with rfl | rfl | rfl <;> first | exact strict_row | exact strict_box))))) ?_
  rintro _ _ ⟨_, ⟨v69, rfl, rfl⟩, rfl⟩
  refine oy rfl rfl (y_move rfl) ?_
  refine oy rfl rfl (y_extract rfl rfl) ?_
  refine oy rfl rfl (y_extract rfl rfl) ?_
  refine oy rfl rfl (y_assign rfl) ?_
  refine oy rfl rfl (y_assign rfl) ?_
  refine ops_nil ?_
  refine goes_code ?_
  refine run_seq ?_
  refine run_weak [(1, boxP b4 0), (2, v8), (4, v11), (7, v19), (9, boxP b25 0), (11, boxP b33 0), (12, boxP b40 0), (14, v66), (15, v69), (16, .int .i64 r67.2)] [0, 1, 2, 3, 4, 5, 6, 7, 8, 9, 10, 11, 12, 13, 14, 15, 16] [row v3 4 (r1.Arcs.map S_api_Arc.enc), box b4 [.int .i64 r1.Nodes, v3], row v8 1 (r6.1.map eBool), row v11 1 (r9.1.map (eInt .i64)), nrow v19 NC_L_int_34 r17.1, row v22 1 (r20.1.Dist.map (eInt .i64)), row v23 1 (r20.1.Via.map (eInt .i64)), row v24 1 (r20.1.Cycle.map (eInt .i64)), box b25 [v22, v23, v24], row v32 4 (r30.Arcs.map S_api_Arc.enc), box b33 [.int .i64 r30.Nodes, v32], row v37 1 (r35.1.Dist.map (eInt .i64)), row v38 1 (r35.1.Via.map (eInt .i64)), row v39 1 (r35.1.Cycle.map (eInt .i64)), box b40 [v37, v38, v39], row v66 1 (([(-1), 0, 0, 1] : List Int).map (eInt .i64)), row v69 1 (r67.1.map (eInt .i64))] (qv10 rfl rfl rfl rfl rfl rfl rfl rfl rfl rfl) (by decide) rfl ?_
  refine run_region' ?_
  refine oy rfl rfl (y_move rfl) ?_
  obtain ⟨r70, hr71, h⟩ := obind_some h
  refine ot rfl rfl (t_callx (vs := [v66, .int .i64 3]) (cs := []) [(15, 1)] rfl Try.call27 rfl (graph_Climb_ok n ([(-1), 0, 0, 1] : List Int) 3 v66 hr71) (showsX_look 15 rfl views_row showsX_nil) rfl (.inr (by rintro _ _ ⟨_, rfl, rfl⟩ g hg; first | (cases hg; done) | (simp only [List.mem_cons, List.not_mem_nil, or_false] at hg; first | (subst hg; first | exact strict_row | exact strict_box) | (rcases hg with rfl | rfl <;> first | exact strict_row | exact strict_box) | (rcases hg with rfl | rfl | rfl <;> first | exact strict_row | exact strict_box))))) ?_
  rintro _ _ ⟨_, ⟨v72, rfl, rfl⟩, rfl⟩
  refine oy rfl rfl (y_move rfl) ?_
  refine oy rfl rfl (y_extract rfl rfl) ?_
  refine oy rfl rfl (y_extract rfl rfl) ?_
  refine oy rfl rfl (y_assign rfl) ?_
  refine oy rfl rfl (y_assign rfl) ?_
  refine ops_nil ?_
  refine goes_code ?_
  refine run_seq ?_
  refine run_region' ?_
  refine oy rfl rfl (y_move rfl) ?_
  obtain ⟨r73, hr74, h⟩ := obind_some h
  refine ot rfl rfl (t_callx (vs := [v66, .int .i64 1]) (cs := []) [(15, 1)] rfl Try.call28 rfl (graph_Below_ok n ([(-1), 0, 0, 1] : List Int) 1 v66 hr74) (showsX_look 15 rfl views_row showsX_nil) rfl (.inr (by rintro _ _ ⟨_, rfl, rfl⟩ g hg; first | (cases hg; done) | (simp only [List.mem_cons, List.not_mem_nil, or_false] at hg; first | (subst hg; first | exact strict_row | exact strict_box) | (rcases hg with rfl | rfl <;> first | exact strict_row | exact strict_box) | (rcases hg with rfl | rfl | rfl <;> first | exact strict_row | exact strict_box))))) ?_
  rintro _ _ ⟨_, ⟨v75, rfl, rfl⟩, rfl⟩
  refine oy rfl rfl (y_move rfl) ?_
  refine oy rfl rfl (y_extract rfl rfl) ?_
  refine oy rfl rfl (y_extract rfl rfl) ?_
  refine oy rfl rfl (y_assign rfl) ?_
  refine oy rfl rfl (y_assign rfl) ?_
  refine ops_nil ?_
  refine goes_code ?_
  refine run_seq ?_
  refine run_weak [(1, boxP b4 0), (2, v8), (4, v11), (7, v19), (9, boxP b25 0), (11, boxP b33 0), (12, boxP b40 0), (15, v69), (16, .int .i64 r67.2), (17, v72), (18, .int .i64 r70.2), (19, v75), (20, .int .i64 r73.2)] [0, 1, 2, 3, 4, 5, 6, 7, 8, 9, 10, 11, 12, 13, 14, 16, 17, 18] [row v3 4 (r1.Arcs.map S_api_Arc.enc), box b4 [.int .i64 r1.Nodes, v3], row v8 1 (r6.1.map eBool), row v11 1 (r9.1.map (eInt .i64)), nrow v19 NC_L_int_34 r17.1, row v22 1 (r20.1.Dist.map (eInt .i64)), row v23 1 (r20.1.Via.map (eInt .i64)), row v24 1 (r20.1.Cycle.map (eInt .i64)), box b25 [v22, v23, v24], row v32 4 (r30.Arcs.map S_api_Arc.enc), box b33 [.int .i64 r30.Nodes, v32], row v37 1 (r35.1.Dist.map (eInt .i64)), row v38 1 (r35.1.Via.map (eInt .i64)), row v39 1 (r35.1.Cycle.map (eInt .i64)), box b40 [v37, v38, v39], row v69 1 (r67.1.map (eInt .i64)), row v72 1 (r70.1.map (eInt .i64)), row v75 1 (r73.1.map (eInt .i64))] (qw6 rfl rfl rfl rfl rfl rfl (qv7 rfl rfl rfl rfl rfl rfl rfl)) (by decide) rfl ?_
  refine run_region' ?_
  refine oy rfl rfl (y_move rfl) ?_
  obtain ⟨x76, hzx76, hlx76, hxx76, h⟩ := idx_some h
  refine oy rfl rfl (y_indexAddrI (kd := .i64) (i := 0) 2 Try.runUnderlying27 Try.sizeOf4 rfl rfl rfl reads_row hzx76 (map_lt hlx76)) ?_
  refine oy rfl rfl (y_load_elem (i := (0 : Int).toNat) 2 Try.isAgg4 rfl rfl reads_row (map_get hxx76)) ?_
  refine oy rfl rfl (y_move rfl) ?_
  obtain ⟨o78, h, ho79⟩ := bindJ_some h
  refine ops_cut 4 (Bool) (fun σ => [(1, boxP b4 0), (2, v8), (4, v11), (7, v19), (9, boxP b25 0), (11, boxP b33 0), (12, boxP b40 0), (15, v69), (16, .int .i64 r67.2), (17, v72), (18, .int .i64 r70.2), (19, v75), (20, .int .i64 r73.2), (112, .bool σ)]) (fun σ => [row v3 4 (r1.Arcs.map S_api_Arc.enc), box b4 [.int .i64 r1.Nodes, v3], row v8 1 (r6.1.map eBool), row v11 1 (r9.1.map (eInt .i64)), nrow v19 NC_L_int_34 r17.1, row v22 1 (r20.1.Dist.map (eInt .i64)), row v23 1 (r20.1.Via.map (eInt .i64)), row v24 1 (r20.1.Cycle.map (eInt .i64)), box b25 [v22, v23, v24], row v32 4 (r30.Arcs.map S_api_Arc.enc), box b33 [.int .i64 r30.Nodes, v32], row v37 1 (r35.1.Dist.map (eInt .i64)), row v38 1 (r35.1.Via.map (eInt .i64)), row v39 1 (r35.1.Cycle.map (eInt .i64)), box b40 [v37, v38, v39], row v69 1 (r67.1.map (eInt .i64)), row v72 1 (r70.1.map (eInt .i64)), row v75 1 (r73.1.map (eInt .i64))]) (fun σ => o78 = .go σ) (fun L80 hL81 => ?_) ?_
  ·refine ops_split 108 x76 rfl (fun hg82 => ?_) (fun hg82 => ?_)
   ·replace h := cond_t h hg82
    refine ops_y (wg 3 true 108 rfl rfl rfl rfl) rfl (y_move rfl) ?_
    obtain ⟨x83, hzx83, hlx83, hxx83, h⟩ := idx_some h
    refine ops_y (wg 3 true 108 rfl rfl rfl rfl) rfl (y_indexAddrI (kd := .i64) (i := 1) 2 Try.runUnderlying27 Try.sizeOf4 rfl rfl rfl reads_row hzx83 (map_lt hlx83)) ?_
    refine ops_y (wg 3 true 108 rfl rfl rfl rfl) rfl (y_load_elem (i := (1 : Int).toNat) 2 Try.isAgg4 rfl rfl reads_row (map_get hxx83)) ?_
    refine oy rfl rfl (y_pick (b := true) rfl rfl) ?_
    refine ops_nil ?_
    obtain rfl := some_eq h
    exact goes_cut hL81 x83 [0, 1, 2, 3, 4, 5, 6, 7, 8, 9, 10, 11, 12, 13, 14, 15, 16, 17] (qw6 rfl rfl rfl rfl rfl rfl (qv8 rfl rfl rfl rfl rfl rfl rfl rfl)) (by decide) rfl rfl
   ·replace h := cond_f h hg82
    refine ops_no 3 true 108 rfl rfl rfl rfl rfl ?_
    refine ops_no 3 true 108 rfl rfl rfl rfl rfl ?_
    refine ops_no 3 true 108 rfl rfl rfl rfl rfl ?_
    refine oy rfl rfl (y_pick (b := false) rfl rfl) ?_
    refine ops_nil ?_
    obtain rfl := some_eq h
    exact goes_cut hL81 false [0, 1, 2, 3, 4, 5, 6, 7, 8, 9, 10, 11, 12, 13, 14, 15, 16, 17] (qw6 rfl rfl rfl rfl rfl rfl (qv8 rfl rfl rfl rfl rfl rfl rfl rfl)) (by decide) rfl rfl
  rintro b77 hj
  obtain rfl : o78 = _ := hj
  replace h := after_go ho79
  clear ho79
  refine oy rfl rfl (y_move rfl) ?_
  obtain ⟨o85, h, ho86⟩ := bindJ_some h
  refine ops_cut 4 (Bool) (fun σ => [(1, boxP b4 0), (2, v8), (4, v11), (7, v19), (9, boxP b25 0), (11, boxP b33 0), (12, boxP b40 0), (15, v69), (16, .int .i64 r67.2), (17, v72), (18, .int .i64 r70.2), (19, v75), (20, .int .i64 r73.2), (117, .bool σ)]) (fun σ => [row v3 4 (r1.Arcs.map S_api_Arc.enc), box b4 [.int .i64 r1.Nodes, v3], row v8 1 (r6.1.map eBool), row v11 1 (r9.1.map (eInt .i64)), nrow v19 NC_L_int_34 r17.1, row v22 1 (r20.1.Dist.map (eInt .i64)), row v23 1 (r20.1.Via.map (eInt .i64)), row v24 1 (r20.1.Cycle.map (eInt .i64)), box b25 [v22, v23, v24], row v32 4 (r30.Arcs.map S_api_Arc.enc), box b33 [.int .i64 r30.Nodes, v32], row v37 1 (r35.1.Dist.map (eInt .i64)), row v38 1 (r35.1.Via.map (eInt .i64)), row v39 1 (r35.1.Cycle.map (eInt .i64)), box b40 [v37, v38, v39], row v69 1 (r67.1.map (eInt .i64)), row v72 1 (r70.1.map (eInt .i64)), row v75 1 (r73.1.map (eInt .i64))]) (fun σ => o85 = .go σ) (fun L87 hL88 => ?_) ?_
  ·refine ops_split 113 b77 rfl (fun hg89 => ?_) (fun hg89 => ?_)
   ·replace h := cond_t h hg89
    refine ops_y (wg 8 true 113 rfl rfl rfl rfl) rfl (y_move rfl) ?_
    obtain ⟨x90, hzx90, hlx90, hxx90, h⟩ := idx_some h
    refine ops_y (wg 8 true 113 rfl rfl rfl rfl) rfl (y_indexAddrI (kd := .i64) (i := 2) 2 Try.runUnderlying27 Try.sizeOf4 rfl rfl rfl reads_row hzx90 (map_lt hlx90)) ?_
    refine ops_y (wg 8 true 113 rfl rfl rfl rfl) rfl (y_load_elem (i := (2 : Int).toNat) 2 Try.isAgg4 rfl rfl reads_row (map_get hxx90)) ?_
    refine oy rfl rfl (y_pick (b := true) rfl rfl) ?_
    refine ops_nil ?_
    obtain rfl := some_eq h
    exact goes_cut hL88 x90 [0, 1, 2, 3, 4, 5, 6, 7, 8, 9, 10, 11, 12, 13, 14, 15, 16, 17] (qw6 rfl rfl rfl rfl rfl rfl (qv8 rfl rfl rfl rfl rfl rfl rfl rfl)) (by decide) rfl rfl
   ·replace h := cond_f h hg89
    refine ops_no 8 true 113 rfl rfl rfl rfl rfl ?_
    refine ops_no 8 true 113 rfl rfl rfl rfl rfl ?_
    refine ops_no 8 true 113 rfl rfl rfl rfl rfl ?_
    refine oy rfl rfl (y_pick (b := false) rfl rfl) ?_
    refine ops_nil ?_
    obtain rfl := some_eq h
    exact goes_cut hL88 false [0, 1, 2, 3, 4, 5, 6, 7, 8, 9, 10, 11, 12, 13, 14, 15, 16, 17] (qw6 rfl rfl rfl rfl rfl rfl (qv8 rfl rfl rfl rfl rfl rfl rfl rfl)) (by decide) rfl rfl
  rintro b84 hj
  obtain rfl : o85 = _ := hj
  replace h := after_go ho86
  clear ho86
  refine oy rfl rfl (y_move rfl) ?_
  obtain ⟨o92, h, ho93⟩ := bindJ_some h
  refine ops_cut 5 (Bool) (fun σ => [(1, boxP b4 0), (4, v11), (7, v19), (9, boxP b25 0), (11, boxP b33 0), (12, boxP b40 0), (15, v69), (16, .int .i64 r67.2), (17, v72), (18, .int .i64 r70.2), (19, v75), (20, .int .i64 r73.2), (123, .bool σ)]) (fun σ => [row v3 4 (r1.Arcs.map S_api_Arc.enc), box b4 [.int .i64 r1.Nodes, v3], row v11 1 (r9.1.map (eInt .i64)), nrow v19 NC_L_int_34 r17.1, row v22 1 (r20.1.Dist.map (eInt .i64)), row v23 1 (r20.1.Via.map (eInt .i64)), row v24 1 (r20.1.Cycle.map (eInt .i64)), box b25 [v22, v23, v24], row v32 4 (r30.Arcs.map S_api_Arc.enc), box b33 [.int .i64 r30.Nodes, v32], row v37 1 (r35.1.Dist.map (eInt .i64)), row v38 1 (r35.1.Via.map (eInt .i64)), row v39 1 (r35.1.Cycle.map (eInt .i64)), box b40 [v37, v38, v39], row v69 1 (r67.1.map (eInt .i64)), row v72 1 (r70.1.map (eInt .i64)), row v75 1 (r73.1.map (eInt .i64))]) (fun σ => o92 = .go σ) (fun L94 hL95 => ?_) ?_
  ·refine ops_split 118 b84 rfl (fun hg96 => ?_) (fun hg96 => ?_)
   ·replace h := cond_t h hg96
    refine ops_y (wg 13 true 118 rfl rfl rfl rfl) rfl (y_move rfl) ?_
    obtain ⟨x97, hzx97, hlx97, hxx97, h⟩ := idx_some h
    refine ops_y (wg 13 true 118 rfl rfl rfl rfl) rfl (y_indexAddrI (kd := .i64) (i := 3) 2 Try.runUnderlying27 Try.sizeOf4 rfl rfl rfl reads_row hzx97 (map_lt hlx97)) ?_
    refine ops_y (wg 13 true 118 rfl rfl rfl rfl) rfl (y_load_elem (i := (3 : Int).toNat) 2 Try.isAgg4 rfl rfl reads_row (map_get hxx97)) ?_
    refine ops_y (wg 13 true 118 rfl rfl rfl rfl) rfl (y_not rfl) ?_
    refine oy rfl rfl (y_pick (b := true) rfl rfl) ?_
    refine ops_nil ?_
    obtain rfl := some_eq h
    exact goes_cut hL95 (!x97) [0, 1, 3, 4, 5, 6, 7, 8, 9, 10, 11, 12, 13, 14, 15, 16, 17] (qw6 rfl rfl rfl rfl rfl rfl (qv7 rfl rfl rfl rfl rfl rfl rfl)) (by decide) rfl rfl
   ·replace h := cond_f h hg96
    refine ops_no 13 true 118 rfl rfl rfl rfl rfl ?_
    refine ops_no 13 true 118 rfl rfl rfl rfl rfl ?_
    refine ops_no 13 true 118 rfl rfl rfl rfl rfl ?_
    refine ops_no 13 true 118 rfl rfl rfl rfl rfl ?_
    refine oy rfl rfl (y_pick (b := false) rfl rfl) ?_
    refine ops_nil ?_
    obtain rfl := some_eq h
    exact goes_cut hL95 false [0, 1, 3, 4, 5, 6, 7, 8, 9, 10, 11, 12, 13, 14, 15, 16, 17] (qw6 rfl rfl rfl rfl rfl rfl (qv7 rfl rfl rfl rfl rfl rfl rfl)) (by decide) rfl rfl
  rintro b91 hj
  obtain rfl : o92 = _ := hj
  replace h := after_go ho93
  clear ho93
  refine oy rfl rfl (y_move rfl) ?_
  obtain ⟨o99, h, ho100⟩ := bindJ_some h
  refine ops_cut 4 (Bool) (fun σ => [(1, boxP b4 0), (7, v19), (9, boxP b25 0), (11, boxP b33 0), (12, boxP b40 0), (15, v69), (16, .int .i64 r67.2), (17, v72), (18, .int .i64 r70.2), (19, v75), (20, .int .i64 r73.2), (128, .bool σ)]) (fun σ => [row v3 4 (r1.Arcs.map S_api_Arc.enc), box b4 [.int .i64 r1.Nodes, v3], nrow v19 NC_L_int_34 r17.1, row v22 1 (r20.1.Dist.map (eInt .i64)), row v23 1 (r20.1.Via.map (eInt .i64)), row v24 1 (r20.1.Cycle.map (eInt .i64)), box b25 [v22, v23, v24], row v32 4 (r30.Arcs.map S_api_Arc.enc), box b33 [.int .i64 r30.Nodes, v32], row v37 1 (r35.1.Dist.map (eInt .i64)), row v38 1 (r35.1.Via.map (eInt .i64)), row v39 1 (r35.1.Cycle.map (eInt .i64)), box b40 [v37, v38, v39], row v69 1 (r67.1.map (eInt .i64)), row v72 1 (r70.1.map (eInt .i64)), row v75 1 (r73.1.map (eInt .i64))]) (fun σ => o99 = .go σ) (fun L101 hL102 => ?_) ?_
  ·refine ops_split 124 b91 rfl (fun hg103 => ?_) (fun hg103 => ?_)
   ·replace h := cond_t h hg103
    refine ops_y (wg 19 true 124 rfl rfl rfl rfl) rfl (y_move rfl) ?_
    refine ops_t (wg 19 true 124 rfl rfl rfl rfl) rfl (t_lit [.int .i64 3, .int .i64 0, .int .i64 1, .int .i64 2] Try.runUnderlying34 Try.sizeOf3 Try.zeroValue3 rfl (by decide) (by decide) rfl (by simp [Value.cells, boxP])) ?_
    rintro v104 _ ⟨rfl, _⟩
    refine ops_turn (retell 17 (g := row v104 1 (([3, 0, 1, 2] : List Int).map (eInt .i64))) rfl rfl) ?_
    obtain ⟨r105, hr106, h⟩ := obind_some h
    refine ops_t (wg 19 true 124 rfl rfl rfl rfl) rfl (t_callx (vs := [v11, v104]) (cs := []) [(2, 1), (17, 1)] rfl Try.call20 rfl (ref09_Same_ok n r9.1 ([3, 0, 1, 2] : List Int) v11 v104 hr106) (showsX_look 2 rfl views_row (showsX_look 17 rfl views_row showsX_nil)) rfl (.inr (by rintro _ _ ⟨rfl, rfl⟩ g hg; first | (cases hg; done) | (simp only [List.mem_cons, List.not_mem_nil, or_false] at hg; first | (subst hg; first | exact strict_row | exact strict_box) | (rcases hg with rfl | rfl <;> first | exact strict_row | exact strict_box) | (rcases hg with rfl | rfl | rfl <;> first | exact strict_row | exact strict_box))))) ?_
    rintro _ _ ⟨_, ⟨rfl, rfl⟩, rfl⟩
    refine oy rfl rfl (y_pick (b := true) rfl rfl) ?_
    refine ops_nil ?_
    obtain rfl := some_eq h
    exact goes_cut hL102 r105 [0, 1, 3, 4, 5, 6, 7, 8, 9, 10, 11, 12, 13, 14, 15, 16] (qv12 rfl rfl rfl rfl rfl rfl rfl rfl rfl rfl rfl rfl) (by decide) rfl rfl
   ·replace h := cond_f h hg103
    refine ops_no 19 true 124 rfl rfl rfl rfl rfl ?_
    refine ops_no 19 true 124 rfl rfl rfl rfl rfl ?_
    refine ops_no 19 true 124 rfl rfl rfl rfl rfl ?_
    refine oy rfl rfl (y_pick (b := false) rfl rfl) ?_
    refine ops_nil ?_
    obtain rfl := some_eq h
    exact goes_cut hL102 false [0, 1, 3, 4, 5, 6, 7, 8, 9, 10, 11, 12, 13, 14, 15, 16] (qv12 rfl rfl rfl rfl rfl rfl rfl rfl rfl rfl rfl rfl) (by decide) rfl rfl
  rintro b98 hj
  obtain rfl : o99 = _ := hj
  replace h := after_go ho100
  clear ho100
  refine oy rfl rfl (y_move rfl) ?_
  obtain ⟨o108, h, ho109⟩ := bindJ_some h
  refine ops_cut 6 (Bool) (fun σ => [(1, boxP b4 0), (9, boxP b25 0), (11, boxP b33 0), (12, boxP b40 0), (15, v69), (16, .int .i64 r67.2), (17, v72), (18, .int .i64 r70.2), (19, v75), (20, .int .i64 r73.2), (135, .bool σ)]) (fun σ => [row v3 4 (r1.Arcs.map S_api_Arc.enc), box b4 [.int .i64 r1.Nodes, v3], row v22 1 (r20.1.Dist.map (eInt .i64)), row v23 1 (r20.1.Via.map (eInt .i64)), row v24 1 (r20.1.Cycle.map (eInt .i64)), box b25 [v22, v23, v24], row v32 4 (r30.Arcs.map S_api_Arc.enc), box b33 [.int .i64 r30.Nodes, v32], row v37 1 (r35.1.Dist.map (eInt .i64)), row v38 1 (r35.1.Via.map (eInt .i64)), row v39 1 (r35.1.Cycle.map (eInt .i64)), box b40 [v37, v38, v39], row v69 1 (r67.1.map (eInt .i64)), row v72 1 (r70.1.map (eInt .i64)), row v75 1 (r73.1.map (eInt .i64))]) (fun σ => o108 = .go σ) (fun L110 hL111 => ?_) ?_
  ·refine ops_split 129 b98 rfl (fun hg112 => ?_) (fun hg112 => ?_)
   ·replace h := cond_t h hg112
    refine ops_y (wg 24 true 129 rfl rfl rfl rfl) rfl (y_move rfl) ?_
    refine ops_t (wg 24 true 129 rfl rfl rfl rfl) rfl (t_lit [.int .i64 0, .int .i64 1, .int .i64 2] Try.runUnderlying34 Try.sizeOf3 Try.zeroValue3 rfl (by decide) (by decide) rfl (by simp [Value.cells, boxP])) ?_
    rintro v113 _ ⟨rfl, _⟩
    refine ops_turn (retell 16 (g := row v113 1 (([0, 1, 2] : List Int).map (eInt .i64))) rfl rfl) ?_
    refine ops_t (wg 24 true 129 rfl rfl rfl rfl) rfl (t_lit [.int .i64 3] Try.runUnderlying34 Try.sizeOf3 Try.zeroValue3 rfl (by decide) (by decide) rfl (by simp [Value.cells, boxP])) ?_
    rintro v114 _ ⟨rfl, _⟩
    refine ops_turn (retell 17 (g := row v114 1 (([3] : List Int).map (eInt .i64))) rfl rfl) ?_
    refine ops_turn (Go.Abs.freeze 16 rfl) ?_
    refine ops_turn (Go.Abs.freeze 17 rfl) ?_
    refine ops_slc 16 rfl reads_ro (fun hs116 hs116o => ?_)
    refine ops_slc 17 rfl reads_ro (fun hs117 hs117o => ?_)
    refine ops_t (wg 24 true 129 rfl rfl rfl rfl) rfl (t_lit [v113, v114] Try.runUnderlying31 Try.sizeOf34 Try.zeroValue34 rfl (by decide) (by decide) rfl (by intro q hq; simp only [List.mem_cons, List.not_mem_nil, or_false] at hq; rcases hq with rfl | rfl <;> first | rfl | (rw [hs116]; rfl) | (rw [hs117]; rfl))) ?_
    rintro v115 _ ⟨rfl, _⟩
    refine ops_turn (turn_closeR (C := NC_L_int_34) (l := ([([0, 1, 2] : List Int), ([3] : List Int)] : List (List Int))) 18 [(([0, 1, 2] : List Int), v113), (([3] : List Int), v114)] rfl (by simp only [List.map_cons, List.map_nil, hs116, hs117]; rfl) rfl (hasall_cons (has_cons 16 rfl has_nil) (hasall_cons (has_cons 17 rfl has_nil) hasall_nil))) ?_
    obtain ⟨r118, hr119, h⟩ := obind_some h
    refine ops_t (wg 24 true 129 rfl rfl rfl rfl) rfl (t_callx (vs := [v19, v115]) (cs := []) [(2, 1), (18, 1)] rfl Try.call19 rfl (ref09_SameSets_ok n r17.1 ([([0, 1, 2] : List Int), ([3] : List Int)] : List (List Int)) v19 v115 hr119) (showsX_look 2 rfl views_nrow (showsX_look 18 rfl views_nrow showsX_nil)) rfl (.inr (by rintro _ _ ⟨rfl, rfl⟩ g hg; first | (cases hg; done) | (simp only [List.mem_cons, List.not_mem_nil, or_false] at hg; first | (subst hg; first | exact strict_row | exact strict_box) | (rcases hg with rfl | rfl <;> first | exact strict_row | exact strict_box) | (rcases hg with rfl | rfl | rfl <;> first | exact strict_row | exact strict_box))))) ?_
    rintro _ _ ⟨_, ⟨rfl, rfl⟩, rfl⟩
    refine oy rfl rfl (y_pick (b := true) rfl rfl) ?_
    refine ops_nil ?_
    obtain rfl := some_eq h
    exact goes_cut hL111 r118 [0, 1, 3, 4, 5, 6, 7, 8, 9, 10, 11, 12, 13, 14, 15] (qv11 rfl rfl rfl rfl rfl rfl rfl rfl rfl rfl rfl) (by decide) rfl rfl
   ·replace h := cond_f h hg112
    refine ops_no 24 true 129 rfl rfl rfl rfl rfl ?_
    refine ops_no 24 true 129 rfl rfl rfl rfl rfl ?_
    refine ops_no 24 true 129 rfl rfl rfl rfl rfl ?_
    refine ops_no 24 true 129 rfl rfl rfl rfl rfl ?_
    refine ops_no 24 true 129 rfl rfl rfl rfl rfl ?_
    refine oy rfl rfl (y_pick (b := false) rfl rfl) ?_
    refine ops_nil ?_
    obtain rfl := some_eq h
    exact goes_cut hL111 false [0, 1, 3, 4, 5, 6, 7, 8, 9, 10, 11, 12, 13, 14, 15] (qv11 rfl rfl rfl rfl rfl rfl rfl rfl rfl rfl rfl) (by decide) rfl rfl
  rintro b107 hj
  obtain rfl : o108 = _ := hj
  replace h := after_go ho109
  clear ho109
  refine oy rfl rfl (y_move rfl) ?_
  obtain ⟨o121, h, ho122⟩ := bindJ_some h
  refine ops_cut 5 (Bool) (fun σ => [(1, boxP b4 0), (9, boxP b25 0), (11, boxP b33 0), (12, boxP b40 0), (15, v69), (16, .int .i64 r67.2), (17, v72), (18, .int .i64 r70.2), (19, v75), (20, .int .i64 r73.2), (141, .bool σ)]) (fun σ => [row v3 4 (r1.Arcs.map S_api_Arc.enc), box b4 [.int .i64 r1.Nodes, v3], row v22 1 (r20.1.Dist.map (eInt .i64)), row v23 1 (r20.1.Via.map (eInt .i64)), row v24 1 (r20.1.Cycle.map (eInt .i64)), box b25 [v22, v23, v24], row v32 4 (r30.Arcs.map S_api_Arc.enc), box b33 [.int .i64 r30.Nodes, v32], row v37 1 (r35.1.Dist.map (eInt .i64)), row v38 1 (r35.1.Via.map (eInt .i64)), row v39 1 (r35.1.Cycle.map (eInt .i64)), box b40 [v37, v38, v39], row v69 1 (r67.1.map (eInt .i64)), row v72 1 (r70.1.map (eInt .i64)), row v75 1 (r73.1.map (eInt .i64))]) (fun σ => o121 = .go σ) (fun L123 hL124 => ?_) ?_
  ·refine ops_split 136 b107 rfl (fun hg125 => ?_) (fun hg125 => ?_)
   ·replace h := cond_t h hg125
    refine ops_y (wg 31 true 136 rfl rfl rfl rfl) rfl (y_fieldAddr_box (sz := 0) Try.runUnderlying51 rfl Try.sizeOf34 rfl) ?_
    refine ops_y (wg 31 true 136 rfl rfl rfl rfl) rfl (y_load_box 5 Try.isAgg34 rfl rfl rfl) ?_
    refine ops_t (wg 31 true 136 rfl rfl rfl rfl) rfl (t_lit [.int .i64 0, .int .i64 2, .int .i64 1, .int .i64 0] Try.runUnderlying34 Try.sizeOf3 Try.zeroValue3 rfl (by decide) (by decide) rfl (by simp [Value.cells, boxP])) ?_
    rintro v126 _ ⟨rfl, _⟩
    refine ops_turn (retell 15 (g := row v126 1 (([0, 2, 1, 0] : List Int).map (eInt .i64))) rfl rfl) ?_
    obtain ⟨r127, hr128, h⟩ := obind_some h
    refine ops_t (wg 31 true 136 rfl rfl rfl rfl) rfl (t_callx (vs := [v22, v126]) (cs := []) [(2, 1), (15, 1)] rfl Try.call20 rfl (ref09_Same_ok n r20.1.Dist ([0, 2, 1, 0] : List Int) v22 v126 hr128) (showsX_look 2 rfl views_row (showsX_look 15 rfl views_row showsX_nil)) rfl (.inr (by rintro _ _ ⟨rfl, rfl⟩ g hg; first | (cases hg; done) | (simp only [List.mem_cons, List.not_mem_nil, or_false] at hg; first | (subst hg; first | exact strict_row | exact strict_box) | (rcases hg with rfl | rfl <;> first | exact strict_row | exact strict_box) | (rcases hg with rfl | rfl | rfl <;> first | exact strict_row | exact strict_box))))) ?_
    rintro _ _ ⟨_, ⟨rfl, rfl⟩, rfl⟩
    refine oy rfl rfl (y_pick (b := true) rfl rfl) ?_
    refine ops_nil ?_
    obtain rfl := some_eq h
    exact goes_cut hL124 r127 [0, 1, 2, 3, 4, 5, 6, 7, 8, 9, 10, 11, 12, 13, 14] (qv11 rfl rfl rfl rfl rfl rfl rfl rfl rfl rfl rfl) (by decide) rfl rfl
   ·replace h := cond_f h hg125
    refine ops_no 31 true 136 rfl rfl rfl rfl rfl ?_
    refine ops_no 31 true 136 rfl rfl rfl rfl rfl ?_
    refine ops_no 31 true 136 rfl rfl rfl rfl rfl ?_
    refine ops_no 31 true 136 rfl rfl rfl rfl rfl ?_
    refine oy rfl rfl (y_pick (b := false) rfl rfl) ?_
    refine ops_nil ?_
    obtain rfl := some_eq h
    exact goes_cut hL124 false [0, 1, 2, 3, 4, 5, 6, 7, 8, 9, 10, 11, 12, 13, 14] (qv11 rfl rfl rfl rfl rfl rfl rfl rfl rfl rfl rfl) (by decide) rfl rfl
  rintro b120 hj
  obtain rfl : o121 = _ := hj
  replace h := after_go ho122
  clear ho122
  refine oy rfl rfl (y_move rfl) ?_
  obtain ⟨o130, h, ho131⟩ := bindJ_some h
  refine ops_cut 5 (Bool) (fun σ => [(1, boxP b4 0), (9, boxP b25 0), (11, boxP b33 0), (12, boxP b40 0), (15, v69), (16, .int .i64 r67.2), (17, v72), (18, .int .i64 r70.2), (19, v75), (20, .int .i64 r73.2), (147, .bool σ)]) (fun σ => [row v3 4 (r1.Arcs.map S_api_Arc.enc), box b4 [.int .i64 r1.Nodes, v3], row v22 1 (r20.1.Dist.map (eInt .i64)), row v23 1 (r20.1.Via.map (eInt .i64)), row v24 1 (r20.1.Cycle.map (eInt .i64)), box b25 [v22, v23, v24], row v32 4 (r30.Arcs.map S_api_Arc.enc), box b33 [.int .i64 r30.Nodes, v32], row v37 1 (r35.1.Dist.map (eInt .i64)), row v38 1 (r35.1.Via.map (eInt .i64)), row v39 1 (r35.1.Cycle.map (eInt .i64)), box b40 [v37, v38, v39], row v69 1 (r67.1.map (eInt .i64)), row v72 1 (r70.1.map (eInt .i64)), row v75 1 (r73.1.map (eInt .i64))]) (fun σ => o130 = .go σ) (fun L132 hL133 => ?_) ?_
  ·refine ops_split 142 b120 rfl (fun hg134 => ?_) (fun hg134 => ?_)
   ·replace h := cond_t h hg134
    refine ops_y (wg 37 true 142 rfl rfl rfl rfl) rfl (y_fieldAddr_box (sz := 0) Try.runUnderlying51 rfl Try.sizeOf34 rfl) ?_
    refine ops_y (wg 37 true 142 rfl rfl rfl rfl) rfl (y_load_box 5 Try.isAgg34 rfl rfl rfl) ?_
    refine ops_t (wg 37 true 142 rfl rfl rfl rfl) rfl (t_lit [.int .i64 (-1), .int .i64 0, .int .i64 2, .int .i64 (-1)] Try.runUnderlying34 Try.sizeOf3 Try.zeroValue3 rfl (by decide) (by decide) rfl (by simp [Value.cells, boxP])) ?_
    rintro v135 _ ⟨rfl, _⟩
    refine ops_turn (retell 15 (g := row v135 1 (([(-1), 0, 2, (-1)] : List Int).map (eInt .i64))) rfl rfl) ?_
    obtain ⟨r136, hr137, h⟩ := obind_some h
    refine ops_t (wg 37 true 142 rfl rfl rfl rfl) rfl (t_callx (vs := [v23, v135]) (cs := []) [(3, 1), (15, 1)] rfl Try.call20 rfl (ref09_Same_ok n r20.1.Via ([(-1), 0, 2, (-1)] : List Int) v23 v135 hr137) (showsX_look 3 rfl views_row (showsX_look 15 rfl views_row showsX_nil)) rfl (.inr (by rintro _ _ ⟨rfl, rfl⟩ g hg; first | (cases hg; done) | (simp only [List.mem_cons, List.not_mem_nil, or_false] at hg; first | (subst hg; first | exact strict_row | exact strict_box) | (rcases hg with rfl | rfl <;> first | exact strict_row | exact strict_box) | (rcases hg with rfl | rfl | rfl <;> first | exact strict_row | exact strict_box))))) ?_
    rintro _ _ ⟨_, ⟨rfl, rfl⟩, rfl⟩
    refine oy rfl rfl (y_pick (b := true) rfl rfl) ?_
    refine ops_nil ?_
    obtain rfl := some_eq h
    exact goes_cut hL133 r136 [0, 1, 2, 3, 4, 5, 6, 7, 8, 9, 10, 11, 12, 13, 14] (qv11 rfl rfl rfl rfl rfl rfl rfl rfl rfl rfl rfl) (by decide) rfl rfl
   ·replace h := cond_f h hg134
    refine ops_no 37 true 142 rfl rfl rfl rfl rfl ?_
    refine ops_no 37 true 142 rfl rfl rfl rfl rfl ?_
    refine ops_no 37 true 142 rfl rfl rfl rfl rfl ?_
    refine ops_no 37 true 142 rfl rfl rfl rfl rfl ?_
    refine oy rfl rfl (y_pick (b := false) rfl rfl) ?_
    refine ops_nil ?_
    obtain rfl := some_eq h
    exact goes_cut hL133 false [0, 1, 2, 3, 4, 5, 6, 7, 8, 9, 10, 11, 12, 13, 14] (qv11 rfl rfl rfl rfl rfl rfl rfl rfl rfl rfl rfl) (by decide) rfl rfl
  rintro b129 hj
  obtain rfl : o130 = _ := hj
  replace h := after_go ho131
  clear ho131
  refine oy rfl rfl (y_assign rfl) ?_
  refine ops_nil ?_
  refine goes_code ?_
  refine run_seq ?_
  refine run_region' ?_
  refine oy rfl rfl (y_load_boxagg (c := [.int .i64 r1.Nodes, v3]) 1 Try.isAgg24 Try.sizeOf24 rfl rfl rfl) ?_
  refine oy rfl rfl (y_load_boxagg (c := [v22, v23, v24]) 5 Try.isAgg51 Try.sizeOf51 rfl rfl rfl) ?_
  obtain ⟨r138, hr139, h⟩ := obind_some h
  refine ot rfl rfl (t_callx (vs := [.agg #[.int .i64 r1.Nodes, v3], .int .i64 0, .agg #[v22, v23, v24]]) (cs := []) [(0, 1), (2, 1), (3, 1), (4, 1)] rfl Try.call24 rfl (graph_CheckPaths_ok n r1 0 r20.1 v3 v22 v23 v24 hr139) (showsX_look 0 rfl views_row (showsX_look 2 rfl views_row (showsX_look 3 rfl views_row (showsX_look 4 rfl views_row showsX_nil)))) rfl (.inr (by rintro _ _ ⟨rfl, rfl⟩ g hg; first | (cases hg; done) | (simp only [List.mem_cons, List.not_mem_nil, or_false] at hg; first | (subst hg; first | exact strict_row | exact strict_box) | (rcases hg with rfl | rfl <;> first | exact strict_row | exact strict_box) | (rcases hg with rfl | rfl | rfl <;> first | exact strict_row | exact strict_box))))) ?_
  rintro _ _ ⟨_, ⟨rfl, rfl⟩, rfl⟩
  refine oy rfl rfl (y_move rfl) ?_
  obtain ⟨o141, h, ho142⟩ := bindJ_some h
  refine ops_cut 4 (Bool) (fun σ => [(9, boxP b25 0), (11, boxP b33 0), (15, v69), (16, .int .i64 r67.2), (17, v72), (18, .int .i64 r70.2), (19, v75), (20, .int .i64 r73.2), (21, .bool b129), (155, .bool σ)]) (fun σ => [row v22 1 (r20.1.Dist.map (eInt .i64)), row v23 1 (r20.1.Via.map (eInt .i64)), row v24 1 (r20.1.Cycle.map (eInt .i64)), box b25 [v22, v23, v24], row v32 4 (r30.Arcs.map S_api_Arc.enc), box b33 [.int .i64 r30.Nodes, v32], row v69 1 (r67.1.map (eInt .i64)), row v72 1 (r70.1.map (eInt .i64)), row v75 1 (r73.1.map (eInt .i64))]) (fun σ => o141 = .go σ) (fun L143 hL144 => ?_) ?_
  ·refine ops_split 151 r138 rfl (fun hg145 => ?_) (fun hg145 => ?_)
   ·replace h := cond_t h hg145
    refine ops_y (wg 3 true 151 rfl rfl rfl rfl) rfl (y_load_boxagg (c := [.int .i64 r30.Nodes, v32]) 7 Try.isAgg24 Try.sizeOf24 rfl rfl rfl) ?_
    refine ops_y (wg 3 true 151 rfl rfl rfl rfl) rfl (y_load_boxagg (c := [v37, v38, v39]) 11 Try.isAgg51 Try.sizeOf51 rfl rfl rfl) ?_
    obtain ⟨r146, hr147, h⟩ := obind_some h
    refine ops_t (wg 3 true 151 rfl rfl rfl rfl) rfl (t_callx (vs := [.agg #[.int .i64 r30.Nodes, v32], .int .i64 0, .agg #[v37, v38, v39]]) (cs := []) [(6, 1), (8, 1), (9, 1), (10, 1)] rfl Try.call24 rfl (graph_CheckPaths_ok n r30 0 r35.1 v32 v37 v38 v39 hr147) (showsX_look 6 rfl views_row (showsX_look 8 rfl views_row (showsX_look 9 rfl views_row (showsX_look 10 rfl views_row showsX_nil)))) rfl (.inr (by rintro _ _ ⟨rfl, rfl⟩ g hg; first | (cases hg; done) | (simp only [List.mem_cons, List.not_mem_nil, or_false] at hg; first | (subst hg; first | exact strict_row | exact strict_box) | (rcases hg with rfl | rfl <;> first | exact strict_row | exact strict_box) | (rcases hg with rfl | rfl | rfl <;> first | exact strict_row | exact strict_box))))) ?_
    rintro _ _ ⟨_, ⟨rfl, rfl⟩, rfl⟩
    refine oy rfl rfl (y_pick (b := true) rfl rfl) ?_
    refine ops_nil ?_
    obtain rfl := some_eq h
    exact goes_cut hL144 r146 [2, 3, 4, 5, 6, 7, 12, 13, 14] (qv10 rfl rfl rfl rfl rfl rfl rfl rfl rfl rfl) (by decide) rfl rfl
   ·replace h := cond_f h hg145
    refine ops_no 3 true 151 rfl rfl rfl rfl rfl ?_
    refine ops_no 3 true 151 rfl rfl rfl rfl rfl ?_
    refine ops_no 3 true 151 rfl rfl rfl rfl rfl ?_
    refine oy rfl rfl (y_pick (b := false) rfl rfl) ?_
    refine ops_nil ?_
    obtain rfl := some_eq h
    exact goes_cut hL144 false [2, 3, 4, 5, 6, 7, 12, 13, 14] (qv10 rfl rfl rfl rfl rfl rfl rfl rfl rfl rfl) (by decide) rfl rfl
  rintro b140 hj
  obtain rfl : o141 = _ := hj
  replace h := after_go ho142
  clear ho142
  refine oy rfl rfl (y_move rfl) ?_
  obtain ⟨o149, h, ho150⟩ := bindJ_some h
  refine ops_cut 5 (Bool) (fun σ => [(15, v69), (16, .int .i64 r67.2), (17, v72), (18, .int .i64 r70.2), (19, v75), (20, .int .i64 r73.2), (21, .bool b129), (161, .bool σ)]) (fun σ => [row v69 1 (r67.1.map (eInt .i64)), row v72 1 (r70.1.map (eInt .i64)), row v75 1 (r73.1.map (eInt .i64))]) (fun σ => o149 = .go σ) (fun L151 hL152 => ?_) ?_
  ·refine ops_split 156 b140 rfl (fun hg153 => ?_) (fun hg153 => ?_)
   ·replace h := cond_t h hg153
    refine ops_y (wg 8 true 156 rfl rfl rfl rfl) rfl (y_load_boxagg (c := [.int .i64 r30.Nodes, v32]) 5 Try.isAgg24 Try.sizeOf24 rfl rfl rfl) ?_
    refine ops_y (wg 8 true 156 rfl rfl rfl rfl) rfl (y_load_boxagg (c := [v22, v23, v24]) 3 Try.isAgg51 Try.sizeOf51 rfl rfl rfl) ?_
    obtain ⟨r154, hr155, h⟩ := obind_some h
    refine ops_t (wg 8 true 156 rfl rfl rfl rfl) rfl (t_callx (vs := [.agg #[.int .i64 r30.Nodes, v32], .int .i64 0, .agg #[v22, v23, v24]]) (cs := []) [(4, 1), (0, 1), (1, 1), (2, 1)] rfl Try.call24 rfl (graph_CheckPaths_ok n r30 0 r20.1 v32 v22 v23 v24 hr155) (showsX_look 4 rfl views_row (showsX_look 0 rfl views_row (showsX_look 1 rfl views_row (showsX_look 2 rfl views_row showsX_nil)))) rfl (.inr (by rintro _ _ ⟨rfl, rfl⟩ g hg; first | (cases hg; done) | (simp only [List.mem_cons, List.not_mem_nil, or_false] at hg; first | (subst hg; first | exact strict_row | exact strict_box) | (rcases hg with rfl | rfl <;> first | exact strict_row | exact strict_box) | (rcases hg with rfl | rfl | rfl <;> first | exact strict_row | exact strict_box))))) ?_
    rintro _ _ ⟨_, ⟨rfl, rfl⟩, rfl⟩
    refine ops_y (wg 8 true 156 rfl rfl rfl rfl) rfl (y_not rfl) ?_
    refine oy rfl rfl (y_pick (b := true) rfl rfl) ?_
    refine ops_nil ?_
    obtain rfl := some_eq h
    exact goes_cut hL152 (!r154) [6, 7, 8] (qv8 rfl rfl rfl rfl rfl rfl rfl rfl) (by decide) rfl rfl
   ·replace h := cond_f h hg153
    refine ops_no 8 true 156 rfl rfl rfl rfl rfl ?_
    refine ops_no 8 true 156 rfl rfl rfl rfl rfl ?_
    refine ops_no 8 true 156 rfl rfl rfl rfl rfl ?_
    refine ops_no 8 true 156 rfl rfl rfl rfl rfl ?_
    refine oy rfl rfl (y_pick (b := false) rfl rfl) ?_
    refine ops_nil ?_
    obtain rfl := some_eq h
    exact goes_cut hL152 false [6, 7, 8] (qv8 rfl rfl rfl rfl rfl rfl rfl rfl) (by decide) rfl rfl
  rintro b148 hj
  obtain rfl : o149 = _ := hj
  replace h := after_go ho150
  clear ho150
  refine oy rfl rfl (y_assign rfl) ?_
  refine ops_nil ?_
  refine goes_code ?_
  refine run_seq ?_
  refine run_region' ?_
  refine oy rfl rfl (y_move rfl) ?_
  refine oy rfl rfl (y_move rfl) ?_
  refine ops_cut 2 (Bool) (fun σ => [(15, v69), (16, .int .i64 r67.2), (17, v72), (18, .int .i64 r70.2), (19, v75), (20, .int .i64 r73.2), (165, .bool σ)]) (fun σ => [row v69 1 (r67.1.map (eInt .i64)), row v72 1 (r70.1.map (eInt .i64)), row v75 1 (r73.1.map (eInt .i64))]) (fun σ => σ = (b129 && b148)) (fun L156 hL157 => ?_) ?_
  ·refine ops_split 163 b129 rfl (fun hg158 => ?_) (fun hg158 => ?_)
   ·skip
    refine ops_y (wg 1 true 163 rfl rfl rfl rfl) rfl (y_move rfl) ?_
    refine oy rfl rfl (y_pick (b := true) rfl rfl) ?_
    refine ops_nil ?_
    exact goes_cut hL157 b148 [0, 1, 2] (qv7 rfl rfl rfl rfl rfl rfl rfl) (by decide) rfl (by rw [hg158]; simp)
   ·skip
    refine ops_no 1 true 163 rfl rfl rfl rfl rfl ?_
    refine oy rfl rfl (y_pick (b := false) rfl rfl) ?_
    refine ops_nil ?_
    exact goes_cut hL157 false [0, 1, 2] (qv7 rfl rfl rfl rfl rfl rfl rfl) (by decide) rfl (by rw [hg158]; simp)
  rintro _ rfl
  refine oy rfl rfl (y_move rfl) ?_
  refine ops_cut 3 (Bool) (fun σ => [(15, v69), (17, v72), (18, .int .i64 r70.2), (19, v75), (20, .int .i64 r73.2), (169, .bool σ)]) (fun σ => [row v69 1 (r67.1.map (eInt .i64)), row v72 1 (r70.1.map (eInt .i64)), row v75 1 (r73.1.map (eInt .i64))]) (fun σ => σ = ((b129 && b148) && decide (r67.2 = 0))) (fun L159 hL160 => ?_) ?_
  ·refine ops_split 166 (b129 && b148) rfl (fun hg161 => ?_) (fun hg161 => ?_)
   ·skip
    refine ops_y (wg 4 true 166 rfl rfl rfl rfl) rfl (y_move rfl) ?_
    refine ops_y (wg 4 true 166 rfl rfl rfl rfl) rfl (y_eql rfl rfl) ?_
    refine oy rfl rfl (y_pick (b := true) rfl rfl) ?_
    refine ops_nil ?_
    exact goes_cut hL160 (decide (r67.2 = 0)) [0, 1, 2] (qv6 rfl rfl rfl rfl rfl rfl) (by decide) rfl (by rw [hg161]; simp)
   ·skip
    refine ops_no 4 true 166 rfl rfl rfl rfl rfl ?_
    refine ops_no 4 true 166 rfl rfl rfl rfl rfl ?_
    refine oy rfl rfl (y_pick (b := false) rfl rfl) ?_
    refine ops_nil ?_
    exact goes_cut hL160 false [0, 1, 2] (qv6 rfl rfl rfl rfl rfl rfl) (by decide) rfl (by rw [hg161]; simp)
  rintro _ rfl
  refine oy rfl rfl (y_move rfl) ?_
  refine ops_cut 3 (Bool) (fun σ => [(15, v69), (17, v72), (19, v75), (20, .int .i64 r73.2), (173, .bool σ)]) (fun σ => [row v69 1 (r67.1.map (eInt .i64)), row v72 1 (r70.1.map (eInt .i64)), row v75 1 (r73.1.map (eInt .i64))]) (fun σ => σ = (((b129 && b148) && decide (r67.2 = 0)) && decide (r70.2 = 0))) (fun L162 hL163 => ?_) ?_
  ·refine ops_split 170 ((b129 && b148) && decide (r67.2 = 0)) rfl (fun hg164 => ?_) (fun hg164 => ?_)
   ·skip
    refine ops_y (wg 8 true 170 rfl rfl rfl rfl) rfl (y_move rfl) ?_
    refine ops_y (wg 8 true 170 rfl rfl rfl rfl) rfl (y_eql rfl rfl) ?_
    refine oy rfl rfl (y_pick (b := true) rfl rfl) ?_
    refine ops_nil ?_
    exact goes_cut hL163 (decide (r70.2 = 0)) [0, 1, 2] (qv5 rfl rfl rfl rfl rfl) (by decide) rfl (by rw [hg164]; simp)
   ·skip
    refine ops_no 8 true 170 rfl rfl rfl rfl rfl ?_
    refine ops_no 8 true 170 rfl rfl rfl rfl rfl ?_
    refine oy rfl rfl (y_pick (b := false) rfl rfl) ?_
    refine ops_nil ?_
    exact goes_cut hL163 false [0, 1, 2] (qv5 rfl rfl rfl rfl rfl) (by decide) rfl (by rw [hg164]; simp)
  rintro _ rfl
  refine oy rfl rfl (y_move rfl) ?_
  refine ops_cut 3 (Bool) (fun σ => [(15, v69), (17, v72), (19, v75), (177, .bool σ)]) (fun σ => [row v69 1 (r67.1.map (eInt .i64)), row v72 1 (r70.1.map (eInt .i64)), row v75 1 (r73.1.map (eInt .i64))]) (fun σ => σ = ((((b129 && b148) && decide (r67.2 = 0)) && decide (r70.2 = 0)) && decide (r73.2 = 0))) (fun L165 hL166 => ?_) ?_
  ·refine ops_split 174 (((b129 && b148) && decide (r67.2 = 0)) && decide (r70.2 = 0)) rfl (fun hg167 => ?_) (fun hg167 => ?_)
   ·skip
    refine ops_y (wg 12 true 174 rfl rfl rfl rfl) rfl (y_move rfl) ?_
    refine ops_y (wg 12 true 174 rfl rfl rfl rfl) rfl (y_eql rfl rfl) ?_
    refine oy rfl rfl (y_pick (b := true) rfl rfl) ?_
    refine ops_nil ?_
    exact goes_cut hL166 (decide (r73.2 = 0)) [0, 1, 2] (qv4 rfl rfl rfl rfl) (by decide) rfl (by rw [hg167]; simp)
   ·skip
    refine ops_no 12 true 174 rfl rfl rfl rfl rfl ?_
    refine ops_no 12 true 174 rfl rfl rfl rfl rfl ?_
    refine oy rfl rfl (y_pick (b := false) rfl rfl) ?_
    refine ops_nil ?_
    exact goes_cut hL166 false [0, 1, 2] (qv4 rfl rfl rfl rfl) (by decide) rfl (by rw [hg167]; simp)
  rintro _ rfl
  refine oy rfl rfl (y_move rfl) ?_
  obtain ⟨o169, h, ho170⟩ := bindJ_some h
  refine ops_cut 4 (Bool) (fun σ => [(17, v72), (19, v75), (182, .bool σ)]) (fun σ => [row v72 1 (r70.1.map (eInt .i64)), row v75 1 (r73.1.map (eInt .i64))]) (fun σ => o169 = .go σ) (fun L171 hL172 => ?_) ?_
  ·refine ops_split 178 ((((b129 && b148) && decide (r67.2 = 0)) && decide (r70.2 = 0)) && decide (r73.2 = 0)) rfl (fun hg173 => ?_) (fun hg173 => ?_)
   ·replace h := cond_t h hg173
    refine ops_y (wg 16 true 178 rfl rfl rfl rfl) rfl (y_move rfl) ?_
    refine ops_t (wg 16 true 178 rfl rfl rfl rfl) rfl (t_lit [.int .i64 0, .int .i64 1, .int .i64 1, .int .i64 2] Try.runUnderlying34 Try.sizeOf3 Try.zeroValue3 rfl (by decide) (by decide) rfl (by simp [Value.cells, boxP])) ?_
    rintro v174 _ ⟨rfl, _⟩
    refine ops_turn (retell 3 (g := row v174 1 (([0, 1, 1, 2] : List Int).map (eInt .i64))) rfl rfl) ?_
    obtain ⟨r175, hr176, h⟩ := obind_some h
    refine ops_t (wg 16 true 178 rfl rfl rfl rfl) rfl (t_callx (vs := [v69, v174]) (cs := []) [(0, 1), (3, 1)] rfl Try.call20 rfl (ref09_Same_ok n r67.1 ([0, 1, 1, 2] : List Int) v69 v174 hr176) (showsX_look 0 rfl views_row (showsX_look 3 rfl views_row showsX_nil)) rfl (.inr (by rintro _ _ ⟨rfl, rfl⟩ g hg; first | (cases hg; done) | (simp only [List.mem_cons, List.not_mem_nil, or_false] at hg; first | (subst hg; first | exact strict_row | exact strict_box) | (rcases hg with rfl | rfl <;> first | exact strict_row | exact strict_box) | (rcases hg with rfl | rfl | rfl <;> first | exact strict_row | exact strict_box))))) ?_
    rintro _ _ ⟨_, ⟨rfl, rfl⟩, rfl⟩
    refine oy rfl rfl (y_pick (b := true) rfl rfl) ?_
    refine ops_nil ?_
    obtain rfl := some_eq h
    exact goes_cut hL172 r175 [1, 2] (qv3 rfl rfl rfl) (by decide) rfl rfl
   ·replace h := cond_f h hg173
    refine ops_no 16 true 178 rfl rfl rfl rfl rfl ?_
    refine ops_no 16 true 178 rfl rfl rfl rfl rfl ?_
    refine ops_no 16 true 178 rfl rfl rfl rfl rfl ?_
    refine oy rfl rfl (y_pick (b := false) rfl rfl) ?_
    refine ops_nil ?_
    obtain rfl := some_eq h
    exact goes_cut hL172 false [1, 2] (qv3 rfl rfl rfl) (by decide) rfl rfl
  rintro b168 hj
  obtain rfl : o169 = _ := hj
  replace h := after_go ho170
  clear ho170
  refine oy rfl rfl (y_move rfl) ?_
  obtain ⟨o178, h, ho179⟩ := bindJ_some h
  refine ops_cut 4 (Bool) (fun σ => [(19, v75), (187, .bool σ)]) (fun σ => [row v75 1 (r73.1.map (eInt .i64))]) (fun σ => o178 = .go σ) (fun L180 hL181 => ?_) ?_
  ·refine ops_split 183 b168 rfl (fun hg182 => ?_) (fun hg182 => ?_)
   ·replace h := cond_t h hg182
    refine ops_y (wg 21 true 183 rfl rfl rfl rfl) rfl (y_move rfl) ?_
    refine ops_t (wg 21 true 183 rfl rfl rfl rfl) rfl (t_lit [.int .i64 3, .int .i64 1, .int .i64 0] Try.runUnderlying34 Try.sizeOf3 Try.zeroValue3 rfl (by decide) (by decide) rfl (by simp [Value.cells, boxP])) ?_
    rintro v183 _ ⟨rfl, _⟩
    refine ops_turn (retell 2 (g := row v183 1 (([3, 1, 0] : List Int).map (eInt .i64))) rfl rfl) ?_
    obtain ⟨r184, hr185, h⟩ := obind_some h
    refine ops_t (wg 21 true 183 rfl rfl rfl rfl) rfl (t_callx (vs := [v72, v183]) (cs := []) [(0, 1), (2, 1)] rfl Try.call20 rfl (ref09_Same_ok n r70.1 ([3, 1, 0] : List Int) v72 v183 hr185) (showsX_look 0 rfl views_row (showsX_look 2 rfl views_row showsX_nil)) rfl (.inr (by rintro _ _ ⟨rfl, rfl⟩ g hg; first | (cases hg; done) | (simp only [List.mem_cons, List.not_mem_nil, or_false] at hg; first | (subst hg; first | exact strict_row | exact strict_box) | (rcases hg with rfl | rfl <;> first | exact strict_row | exact strict_box) | (rcases hg with rfl | rfl | rfl <;> first | exact strict_row | exact strict_box))))) ?_
    rintro _ _ ⟨_, ⟨rfl, rfl⟩, rfl⟩
    refine oy rfl rfl (y_pick (b := true) rfl rfl) ?_
    refine ops_nil ?_
    obtain rfl := some_eq h
    exact goes_cut hL181 r184 [1] (qv2 rfl rfl) (by decide) rfl rfl
   ·replace h := cond_f h hg182
    refine ops_no 21 true 183 rfl rfl rfl rfl rfl ?_
    refine ops_no 21 true 183 rfl rfl rfl rfl rfl ?_
    refine ops_no 21 true 183 rfl rfl rfl rfl rfl ?_
    refine oy rfl rfl (y_pick (b := false) rfl rfl) ?_
    refine ops_nil ?_
    obtain rfl := some_eq h
    exact goes_cut hL181 false [1] (qv2 rfl rfl) (by decide) rfl rfl
  rintro b177 hj
  obtain rfl : o178 = _ := hj
  replace h := after_go ho179
  clear ho179
  refine oy rfl rfl (y_move rfl) ?_
  obtain ⟨o187, h, ho188⟩ := bindJ_some h
  refine ops_cut 4 (Bool) (fun σ => [(192, .bool σ)]) (fun σ => []) (fun σ => o187 = .go σ) (fun L189 hL190 => ?_) ?_
  ·refine ops_split 188 b177 rfl (fun hg191 => ?_) (fun hg191 => ?_)
   ·replace h := cond_t h hg191
    refine ops_y (wg 26 true 188 rfl rfl rfl rfl) rfl (y_move rfl) ?_
    refine ops_t (wg 26 true 188 rfl rfl rfl rfl) rfl (t_lit [.int .i64 1, .int .i64 3] Try.runUnderlying34 Try.sizeOf3 Try.zeroValue3 rfl (by decide) (by decide) rfl (by simp [Value.cells, boxP])) ?_
    rintro v192 _ ⟨rfl, _⟩
    refine ops_turn (retell 1 (g := row v192 1 (([1, 3] : List Int).map (eInt .i64))) rfl rfl) ?_
    obtain ⟨r193, hr194, h⟩ := obind_some h
    refine ops_t (wg 26 true 188 rfl rfl rfl rfl) rfl (t_callx (vs := [v75, v192]) (cs := []) [(0, 1), (1, 1)] rfl Try.call20 rfl (ref09_Same_ok n r73.1 ([1, 3] : List Int) v75 v192 hr194) (showsX_look 0 rfl views_row (showsX_look 1 rfl views_row showsX_nil)) rfl (.inr (by rintro _ _ ⟨rfl, rfl⟩ g hg; first | (cases hg; done) | (simp only [List.mem_cons, List.not_mem_nil, or_false] at hg; first | (subst hg; first | exact strict_row | exact strict_box) | (rcases hg with rfl | rfl <;> first | exact strict_row | exact strict_box) | (rcases hg with rfl | rfl | rfl <;> first | exact strict_row | exact strict_box))))) ?_
    rintro _ _ ⟨_, ⟨rfl, rfl⟩, rfl⟩
    refine oy rfl rfl (y_pick (b := true) rfl rfl) ?_
    refine ops_nil ?_
    obtain rfl := some_eq h
    exact goes_cut hL190 r193 [] (qv1 rfl) (by decide) rfl rfl
   ·replace h := cond_f h hg191
    refine ops_no 26 true 188 rfl rfl rfl rfl rfl ?_
    refine ops_no 26 true 188 rfl rfl rfl rfl rfl ?_
    refine ops_no 26 true 188 rfl rfl rfl rfl rfl ?_
    refine oy rfl rfl (y_pick (b := false) rfl rfl) ?_
    refine ops_nil ?_
    obtain rfl := some_eq h
    exact goes_cut hL190 false [] (qv1 rfl) (by decide) rfl rfl
  rintro b186 hj
  obtain rfl : o187 = _ := hj
  replace h := after_go ho188
  clear ho188
  refine oy rfl rfl (y_assign rfl) ?_
  refine ops_nil ?_
  refine goes_code ?_
  refine run_ret ?_
  obtain rfl := some_eq h
  refine fin_slots [0] [.bool b186] [] [] Try.results10 rfl (by decide) rfl ?_
  exact ⟨rfl, rfl⟩

end Go.Proofs.Ytgelifcckhemiaa
