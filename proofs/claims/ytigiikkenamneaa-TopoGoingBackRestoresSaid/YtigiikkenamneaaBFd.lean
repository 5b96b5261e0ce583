/-
  Functions of the program, lifted: part 4.
-/
import Derived.Test.YtigiikkenamneaaBFc
namespace Go.Proofs.Ytigiikkenamneaa
open Go.Abs
set_option linter.unusedVariables false
set_option linter.unusedSimpArgs false
set_option maxRecDepth 20000
set_option maxHeartbeats 4000000

def law42_sanity (n : Nat) : Option (Bool) :=
 obind (topo_Entry n (S_api_Map.mk ([(S_api_Hub.mk 1 (-1) true), (S_api_Hub.mk 2 1 true), (S_api_Hub.mk 3 2 true)] : List S_api_Hub) ([(S_api_Route.mk [] ([1] : List Int)), (S_api_Route.mk [100, 101] ([3, 2] : List Int))] : List S_api_Route)) [100, 101]) fun r14 =>
 obind (topo_Entry n (S_api_Map.mk ([(S_api_Hub.mk 1 (-1) true), (S_api_Hub.mk 2 1 true), (S_api_Hub.mk 3 2 true)] : List S_api_Hub) ([(S_api_Route.mk [] ([1] : List Int)), (S_api_Route.mk [100, 101] ([3, 2] : List Int))] : List S_api_Route)) [102, 114]) fun r16 =>
 obind (topo_Turn n (S_api_Map.mk ([(S_api_Hub.mk 1 (-1) true), (S_api_Hub.mk 2 1 true), (S_api_Hub.mk 3 2 true)] : List S_api_Hub) ([(S_api_Route.mk [] ([1] : List Int)), (S_api_Route.mk [100, 101] ([3, 2] : List Int))] : List S_api_Route)) 3 false) fun r18 =>
 obind (topo_Entry n r18.1 [100, 101]) fun r25 =>
 obind (topo_Turn n r18.1 2 false) fun r27 =>
 obind (topo_Entry n r27.1 [100, 101]) fun r34 =>
 obind (topo_Climb n (S_api_Map.mk ([(S_api_Hub.mk 1 (-1) true), (S_api_Hub.mk 2 1 true), (S_api_Hub.mk 3 2 true)] : List S_api_Hub) ([(S_api_Route.mk [] ([1] : List Int)), (S_api_Route.mk [100, 101] ([3, 2] : List Int))] : List S_api_Route)) 3) fun r36 =>
 obind (topo_Turn n (S_api_Map.mk ([(S_api_Hub.mk 1 (-1) true), (S_api_Hub.mk 2 1 true), (S_api_Hub.mk 3 2 true)] : List S_api_Hub) ([(S_api_Route.mk [] ([1] : List Int)), (S_api_Route.mk [100, 101] ([3, 2] : List Int))] : List S_api_Route)) 2 false) fun r39 =>
 obind (topo_Climb n r39.1 3) fun r46 =>
 bindJ (S := Bool)
  (cond ((((!((((((((decide (r14.2 = 0) && decide (r16.2 = 0)) && decide (r18.2 = 0)) && decide (r25.2 = 0)) && decide (r27.2 = 0)) && decide (r34.2 = 5)) && decide (r36.2 = 0)) && decide (r39.2 = 0)) && decide (r46.2 = 0))) || decide (r14.1 ≠ 3)) || decide (r16.1 ≠ 1)) || decide (r25.1 ≠ 2))
   (some (.go true))
   (obind (ref42_SameList n r36.1 ([3, 2, 1] : List Int)) fun r89 =>
   some (.go (!r89))))
 (fun b82 =>
  bindJ (S := Bool)
   (cond b82
    (some (.go true))
    (obind (ref42_SameList n r46.1 ([3, 1] : List Int)) fun r98 =>
    some (.go (!r98))))
  (fun b91 =>
   cond b91
    (some false)
    (obind (topo_NewFleet n ([1, 2, 3] : List Int) 7) fun r102 =>
    need (0 < (([([3] : List Int), ([1, 2] : List Int)] : List (List Int)) : List (List Int)).length) (
    obind (topo_Begin n r102.1 ([([3] : List Int), ([1, 2] : List Int)] : List (List Int))) fun r115 =>
    obind (topo_Forward n r115.1) fun r121 =>
    obind (topo_Forward n r121.1) fun r127 =>
    obind (topo_Confirm n r121.1 3 1) fun r134 =>
    obind (topo_Forward n r134.1) fun r140 =>
    obind (topo_OrderOf n r140.1 2) fun r146 =>
    obind (topo_Retreat n r140.1) fun r149 =>
    obind (topo_OrderOf n r149.1 1) fun r155 =>
    bindJ (S := Bool)
     (cond ((((((((((decide (r102.2 = 0) && decide (r115.2 = 0)) && decide (r121.2 = 0)) && decide (r127.2 = 4)) && decide (r134.2 = 0)) && decide (r140.2 = 0)) && decide (r146.2 = 0)) && decide (r149.2 = 0)) && decide (r155.2 = 0)) && (decide (r146.1.Site = 2) && (decide (r146.1.Version = 8) && (decide (r146.1.Serial = 2))))) && (decide (r155.1.Site = 1) && (decide (r155.1.Version = 7) && (decide (r155.1.Serial = 3)))))
      (obind (topo_Apply (S_api_Node.mk 1 7 0) r155.1) fun r194 =>
      some (.go (decide (r194.Site = r155.1.Site) && (decide (r194.Version = r155.1.Version) && (decide (r194.Serial = r155.1.Serial))))))
      (some (.go false)))
    (fun b188 =>
     some b188)))))
theorem law42_sanity_ok (n : Nat)  {r : Bool} (h : law42_sanity n = some r) :
  Meets Try.prog 8 [] [] (fun v G => v = .bool r ∧ G = []) := by
 refine fn_of_run Try.func8 rfl Try.ntmps8 rfl (fun w0 o0 => ?_)
 refine run_seq ?_
 refine run_region' ?_
 refine oy rfl rfl (y_assign rfl) ?_
 refine ops_nil ?_
 refine goes_code ?_
 refine run_seq ?_
 refine run_region' ?_
 refine oy rfl rfl (y_build_struct (cells := #[.int .i64 1, .int .i64 (-1), .bool true]) [(0, .int .i64 1), (1, .int .i64 (-1)), (2, .bool true)] [(0, [.int .i64 1]), (1, [.int .i64 (-1)]), (2, [.bool true])] Try.zeroValue52 Try.runUnderlying52 (fs_cons Try.sizeOf3 (fs_cons Try.sizeOf3 (fs_cons Try.sizeOf4 fs_nil))) rfl rfl rfl) ?_
 refine oy rfl rfl (y_build_struct (cells := #[.int .i64 2, .int .i64 1, .bool true]) [(0, .int .i64 2), (1, .int .i64 1), (2, .bool true)] [(0, [.int .i64 2]), (1, [.int .i64 1]), (2, [.bool true])] Try.zeroValue52 Try.runUnderlying52 (fs_cons Try.sizeOf3 (fs_cons Try.sizeOf3 (fs_cons Try.sizeOf4 fs_nil))) rfl rfl rfl) ?_
 refine oy rfl rfl (y_build_struct (cells := #[.int .i64 3, .int .i64 2, .bool true]) [(0, .int .i64 3), (1, .int .i64 2), (2, .bool true)] [(0, [.int .i64 3]), (1, [.int .i64 2]), (2, [.bool true])] Try.zeroValue52 Try.runUnderlying52 (fs_cons Try.sizeOf3 (fs_cons Try.sizeOf3 (fs_cons Try.sizeOf4 fs_nil))) rfl rfl rfl) ?_
 refine ot rfl rfl (t_lit [.agg #[.int .i64 1, .int .i64 (-1), .bool true], .agg #[.int .i64 2, .int .i64 1, .bool true], .agg #[.int .i64 3, .int .i64 2, .bool true]] Try.runUnderlying22 Try.sizeOf52 Try.zeroValue52 rfl (by decide) (by decide) rfl (by simp [Value.cells, boxP])) ?_
 rintro v1 _ ⟨rfl, _⟩
 refine ops_turn (retell 0 (g := row v1 3 (([(S_api_Hub.mk 1 (-1) true), (S_api_Hub.mk 2 1 true), (S_api_Hub.mk 3 2 true)] : List S_api_Hub).map S_api_Hub.enc)) rfl rfl) ?_
 refine ot rfl rfl (t_lit [.int .i64 1] Try.runUnderlying35 Try.sizeOf3 Try.zeroValue3 rfl (by decide) (by decide) rfl (by simp [Value.cells, boxP])) ?_
 rintro v2 _ ⟨rfl, _⟩
 refine ops_turn (retell 1 (g := row v2 1 (([1] : List Int).map (eInt .i64))) rfl rfl) ?_
 refine ops_slc 1 rfl reads_row (fun hs3 hs3o => ?_)
 refine oy rfl rfl (y_build_struct (cells := #[.string (bs []), v2]) [(1, v2)] [(1, [v2])] Try.zeroValue82 Try.runUnderlying82 (fs_cons Try.sizeOf9 (fs_cons Try.sizeOf35 fs_nil)) rfl (by first | (simp only [List.map_cons, List.map_nil, hs3]; done) | (simp only [List.map_cons, List.map_nil, hs3]; rfl)) rfl) ?_
 refine ot rfl rfl (t_lit [.int .i64 3, .int .i64 2] Try.runUnderlying35 Try.sizeOf3 Try.zeroValue3 rfl (by decide) (by decide) rfl (by simp [Value.cells, boxP])) ?_
 rintro v4 _ ⟨rfl, _⟩
 refine ops_turn (retell 2 (g := row v4 1 (([3, 2] : List Int).map (eInt .i64))) rfl rfl) ?_
 refine ops_slc 2 rfl reads_row (fun hs5 hs5o => ?_)
 refine oy rfl rfl (y_build_struct (cells := #[.string (bs [100, 101]), v4]) [(0, .string (bs [100, 101])), (1, v4)] [(0, [.string (bs [100, 101])]), (1, [v4])] Try.zeroValue82 Try.runUnderlying82 (fs_cons Try.sizeOf9 (fs_cons Try.sizeOf35 fs_nil)) rfl (by first | (simp only [List.map_cons, List.map_nil, hs5]; done) | (simp only [List.map_cons, List.map_nil, hs5]; rfl)) rfl) ?_
 refine ops_turn (Go.Abs.freeze 1 rfl) ?_
 refine ops_turn (Go.Abs.freeze 2 rfl) ?_
 refine ops_slc 1 rfl reads_ro (fun hs7 hs7o => ?_)
 refine ops_slc 2 rfl reads_ro (fun hs8 hs8o => ?_)
 refine ot rfl rfl (t_lit [.agg #[.string (bs []), v2], .agg #[.string (bs [100, 101]), v4]] Try.runUnderlying23 Try.sizeOf82 Try.zeroValue82 rfl (by decide) (by decide) rfl (by intro q hq; simp only [List.mem_cons, List.not_mem_nil, or_false] at hq; rcases hq with rfl | rfl <;> first | rfl | (rw [hs7]; rfl) | (rw [hs8]; rfl))) ?_
 rintro v6 _ ⟨rfl, _⟩
 refine ops_turn (turn_closeR (C := NC_api_Route_82) (l := ([(S_api_Route.mk [] ([1] : List Int)), (S_api_Route.mk [100, 101] ([3, 2] : List Int))] : List S_api_Route)) 3 [((S_api_Route.mk [] ([1] : List Int)), v2), ((S_api_Route.mk [100, 101] ([3, 2] : List Int)), v4)] rfl (by simp only [List.map_cons, List.map_nil, hs7, hs8]; rfl) rfl (hasall_cons (has_cons 1 rfl has_nil) (hasall_cons (has_cons 2 rfl has_nil) hasall_nil))) ?_
 refine ops_slc 0 rfl reads_row (fun hs9 hs9o => ?_)
 refine ops_slcN 3 rfl readsN_row (fun hs10 hs10o => ?_)
 refine oy rfl rfl (y_build_struct (cells := #[v1, v6]) [(0, v1), (1, v6)] [(0, [v1]), (1, [v6])] Try.zeroValue25 Try.runUnderlying25 (fs_cons Try.sizeOf22 (fs_cons Try.sizeOf23 fs_nil)) rfl (by first | (simp only [List.map_cons, List.map_nil, hs9, hs10]; done) | (simp only [List.map_cons, List.map_nil, hs9, hs10]; rfl)) rfl) ?_
 refine ot rfl rfl (t_alloc Try.zeroValue25) ?_
 rintro _ _ ⟨b11, rfl, rfl⟩
 refine ops_slc 0 rfl reads_row (fun hs12 hs12o => ?_)
 refine ops_slcN 3 rfl readsN_row (fun hs13 hs13o => ?_)
 refine ot rfl rfl (t_store 4 Try.sizeOf25 rfl rfl rfl rfl (by simp [Value.cells, boxP]) (allL_cons hs12o (allL_cons hs13o (allL_nil)))) ?_
 rintro _ _ ⟨rfl, rfl⟩
 refine ops_turn (retell 4 (g := box b11 [v1, v6]) rfl rfl) ?_
 refine ops_nil ?_
 refine goes_code ?_
 refine run_seq ?_
 refine run_weak [(1, boxP b11 0)] [0, 3, 4] [row v1 3 (([(S_api_Hub.mk 1 (-1) true), (S_api_Hub.mk 2 1 true), (S_api_Hub.mk 3 2 true)] : List S_api_Hub).map S_api_Hub.enc), nrow v6 NC_api_Route_82 ([(S_api_Route.mk [] ([1] : List Int)), (S_api_Route.mk [100, 101] ([3, 2] : List Int))] : List S_api_Route), box b11 [v1, v6]] (qv1 rfl) (by decide) rfl ?_
 refine run_region' ?_
 refine oy rfl rfl (y_load_boxagg (c := [v1, v6]) 2 Try.isAgg25 Try.sizeOf25 rfl rfl rfl) ?_
 obtain ⟨r14, hr15, h⟩ := obind_some h
 refine ot rfl rfl (t_callx (vs := [.agg #[v1, v6], .string (bs [100, 101])]) (cs := []) [(0, 1), (1, 1)] rfl Try.call9 rfl (topo_Entry_ok n (S_api_Map.mk ([(S_api_Hub.mk 1 (-1) true), (S_api_Hub.mk 2 1 true), (S_api_Hub.mk 3 2 true)] : List S_api_Hub) ([(S_api_Route.mk [] ([1] : List Int)), (S_api_Route.mk [100, 101] ([3, 2] : List Int))] : List S_api_Route)) [100, 101] v1 v6 hr15) (showsX_look 0 rfl views_row (showsX_look 1 rfl views_nrow showsX_nil)) rfl (.inr (by rintro _ _ ⟨rfl, rfl⟩ g hg; first | (cases hg; done) | (simp only [List.mem_cons, List.not_mem_nil, or_false] at hg; first | (subst hg; first | exact strict_row | exact strict_box) | (rcases hg with rfl | rfl <;> first | exact strict_row | exact strict_box) | (rcases hg with rfl | rfl | rfl <;> first | exact strict_row | exact strict_box))))) ?_
 rintro _ _ ⟨_, ⟨rfl, rfl⟩, rfl⟩
 refine oy rfl rfl (y_move rfl) ?_
 refine oy rfl rfl (y_extract rfl rfl) ?_
 refine oy rfl rfl (y_extract rfl rfl) ?_
 refine oy rfl rfl (y_assign rfl) ?_
 refine oy rfl rfl (y_assign rfl) ?_
 refine ops_nil ?_
 refine goes_code ?_
 refine run_seq ?_
 refine run_region' ?_
 refine oy rfl rfl (y_load_boxagg (c := [v1, v6]) 2 Try.isAgg25 Try.sizeOf25 rfl rfl rfl) ?_
 obtain ⟨r16, hr17, h⟩ := obind_some h
 refine ot rfl rfl (t_callx (vs := [.agg #[v1, v6], .string (bs [102, 114])]) (cs := []) [(0, 1), (1, 1)] rfl Try.call9 rfl (topo_Entry_ok n (S_api_Map.mk ([(S_api_Hub.mk 1 (-1) true), (S_api_Hub.mk 2 1 true), (S_api_Hub.mk 3 2 true)] : List S_api_Hub) ([(S_api_Route.mk [] ([1] : List Int)), (S_api_Route.mk [100, 101] ([3, 2] : List Int))] : List S_api_Route)) [102, 114] v1 v6 hr17) (showsX_look 0 rfl views_row (showsX_look 1 rfl views_nrow showsX_nil)) rfl (.inr (by rintro _ _ ⟨rfl, rfl⟩ g hg; first | (cases hg; done) | (simp only [List.mem_cons, List.not_mem_nil, or_false] at hg; first | (subst hg; first | exact strict_row | exact strict_box) | (rcases hg with rfl | rfl <;> first | exact strict_row | exact strict_box) | (rcases hg with rfl | rfl | rfl <;> first | exact strict_row | exact strict_box))))) ?_
 rintro _ _ ⟨_, ⟨rfl, rfl⟩, rfl⟩
 refine oy rfl rfl (y_move rfl) ?_
 refine oy rfl rfl (y_extract rfl rfl) ?_
 refine oy rfl rfl (y_extract rfl rfl) ?_
 refine oy rfl rfl (y_assign rfl) ?_
 refine oy rfl rfl (y_assign rfl) ?_
 refine ops_nil ?_
 refine goes_code ?_
 refine run_seq ?_
 refine run_weak [(1, boxP b11 0), (2, .int .i64 r14.1), (3, .int .i64 r14.2), (4, .int .i64 r16.1), (5, .int .i64 r16.2)] [0, 1, 2] [row v1 3 (([(S_api_Hub.mk 1 (-1) true), (S_api_Hub.mk 2 1 true), (S_api_Hub.mk 3 2 true)] : List S_api_Hub).map S_api_Hub.enc), nrow v6 NC_api_Route_82 ([(S_api_Route.mk [] ([1] : List Int)), (S_api_Route.mk [100, 101] ([3, 2] : List Int))] : List S_api_Route), box b11 [v1, v6]] (qv5 rfl rfl rfl rfl rfl) (by decide) rfl ?_
 refine run_region' ?_
 refine oy rfl rfl (y_load_boxagg (c := [v1, v6]) 2 Try.isAgg25 Try.sizeOf25 rfl rfl rfl) ?_
 refine ops_turn (Go.Abs.freeze 0 rfl) ?_
 refine ops_turn (freezeN 1 rfl) ?_
 obtain ⟨r18, hr19, h⟩ := obind_some h
 refine ot rfl rfl (t_callx (vs := [.agg #[v1, v6], .int .i64 3, .bool false]) (cs := []) [(0, 0), (1, 0)] rfl Try.call12 rfl (topo_Turn_ok n (S_api_Map.mk ([(S_api_Hub.mk 1 (-1) true), (S_api_Hub.mk 2 1 true), (S_api_Hub.mk 3 2 true)] : List S_api_Hub) ([(S_api_Route.mk [] ([1] : List Int)), (S_api_Route.mk [100, 101] ([3, 2] : List Int))] : List S_api_Route)) 3 false v1 v6 hr19) (showsX_view 0 rfl views_ro (showsX_view 1 rfl views_nro showsX_nil)) rfl (.inl rfl)) ?_
 rintro _ _ ⟨_, ⟨v20, v21, rfl, rfl⟩, rfl⟩
 refine oy rfl rfl (y_move rfl) ?_
 refine oy rfl rfl (y_extract rfl rfl) ?_
 refine oy rfl rfl (y_extract rfl rfl) ?_
 refine ot rfl rfl (t_alloc Try.zeroValue25) ?_
 rintro _ _ ⟨b22, rfl, rfl⟩
 refine ops_slc 3 rfl reads_row (fun hs23 hs23o => ?_)
 refine ops_slcN 4 rfl readsN_ro (fun hs24 hs24o => ?_)
 refine ot rfl rfl (t_store 5 Try.sizeOf25 rfl rfl rfl rfl (by simp [Value.cells, boxP]) (allL_cons hs23o (allL_cons hs24o (allL_nil)))) ?_
 rintro _ _ ⟨rfl, rfl⟩
 refine ops_turn (retell 5 (g := box b22 [v20, v21]) rfl rfl) ?_
 refine oy rfl rfl (y_assign rfl) ?_
 refine ops_nil ?_
 refine goes_code ?_
 refine run_seq ?_
 refine run_weak [(1, boxP b11 0), (2, .int .i64 r14.1), (3, .int .i64 r14.2), (4, .int .i64 r16.1), (5, .int .i64 r16.2), (6, boxP b22 0), (7, .int .i64 r18.2)] [0, 1, 2, 3, 4, 5] [ro v1 3 (([(S_api_Hub.mk 1 (-1) true), (S_api_Hub.mk 2 1 true), (S_api_Hub.mk 3 2 true)] : List S_api_Hub).map S_api_Hub.enc), nro v6 NC_api_Route_82 ([(S_api_Route.mk [] ([1] : List Int)), (S_api_Route.mk [100, 101] ([3, 2] : List Int))] : List S_api_Route), box b11 [v1, v6], row v20 3 (r18.1.Hubs.map S_api_Hub.enc), nro v21 NC_api_Route_82 r18.1.Routes, box b22 [v20, v21]] (qv7 rfl rfl rfl rfl rfl rfl rfl) (by decide) rfl ?_
 refine run_region' ?_
 refine oy rfl rfl (y_load_boxagg (c := [v20, v21]) 5 Try.isAgg25 Try.sizeOf25 rfl rfl rfl) ?_
 obtain ⟨r25, hr26, h⟩ := obind_some h
 refine ot rfl rfl (t_callx (vs := [.agg #[v20, v21], .string (bs [100, 101])]) (cs := []) [(3, 1), (4, 0)] rfl Try.call9 rfl (topo_Entry_ok n r18.1 [100, 101] v20 v21 hr26) (showsX_look 3 rfl views_row (showsX_view 4 rfl views_nro showsX_nil)) rfl (.inr (by rintro _ _ ⟨rfl, rfl⟩ g hg; first | (cases hg; done) | (simp only [List.mem_cons, List.not_mem_nil, or_false] at hg; first | (subst hg; first | exact strict_row | exact strict_box) | (rcases hg with rfl | rfl <;> first | exact strict_row | exact strict_box) | (rcases hg with rfl | rfl | rfl <;> first | exact strict_row | exact strict_box))))) ?_
 rintro _ _ ⟨_, ⟨rfl, rfl⟩, rfl⟩
 refine oy rfl rfl (y_move rfl) ?_
 refine oy rfl rfl (y_extract rfl rfl) ?_
 refine oy rfl rfl (y_extract rfl rfl) ?_
 refine oy rfl rfl (y_assign rfl) ?_
 refine oy rfl rfl (y_assign rfl) ?_
 refine ops_nil ?_
 refine goes_code ?_
 refine run_seq ?_
 refine run_region' ?_
 refine oy rfl rfl (y_load_boxagg (c := [v20, v21]) 5 Try.isAgg25 Try.sizeOf25 rfl rfl rfl) ?_
 refine ops_turn (Go.Abs.freeze 3 rfl) ?_
 obtain ⟨r27, hr28, h⟩ := obind_some h
 refine ot rfl rfl (t_callx (vs := [.agg #[v20, v21], .int .i64 2, .bool false]) (cs := []) [(3, 0), (4, 0)] rfl Try.call12 rfl (topo_Turn_ok n r18.1 2 false v20 v21 hr28) (showsX_view 3 rfl views_ro (showsX_view 4 rfl views_nro showsX_nil)) rfl (.inl rfl)) ?_
 rintro _ _ ⟨_, ⟨v29, v30, rfl, rfl⟩, rfl⟩
 refine oy rfl rfl (y_move rfl) ?_
 refine oy rfl rfl (y_extract rfl rfl) ?_
 refine oy rfl rfl (y_extract rfl rfl) ?_
 refine ot rfl rfl (t_alloc Try.zeroValue25) ?_
 rintro _ _ ⟨b31, rfl, rfl⟩
 refine ops_slc 6 rfl reads_row (fun hs32 hs32o => ?_)
 refine ops_slcN 7 rfl readsN_ro (fun hs33 hs33o => ?_)
 refine ot rfl rfl (t_store 8 Try.sizeOf25 rfl rfl rfl rfl (by simp [Value.cells, boxP]) (allL_cons hs32o (allL_cons hs33o (allL_nil)))) ?_
 rintro _ _ ⟨rfl, rfl⟩
 refine ops_turn (retell 8 (g := box b31 [v29, v30]) rfl rfl) ?_
 refine oy rfl rfl (y_assign rfl) ?_
 refine ops_nil ?_
 refine goes_code ?_
 refine run_seq ?_
 refine run_weak [(1, boxP b11 0), (2, .int .i64 r14.1), (3, .int .i64 r14.2), (4, .int .i64 r16.1), (5, .int .i64 r16.2), (7, .int .i64 r18.2), (8, .int .i64 r25.1), (9, .int .i64 r25.2), (10, boxP b31 0), (11, .int .i64 r27.2)] [0, 1, 2, 6, 7, 8] [ro v1 3 (([(S_api_Hub.mk 1 (-1) true), (S_api_Hub.mk 2 1 true), (S_api_Hub.mk 3 2 true)] : List S_api_Hub).map S_api_Hub.enc), nro v6 NC_api_Route_82 ([(S_api_Route.mk [] ([1] : List Int)), (S_api_Route.mk [100, 101] ([3, 2] : List Int))] : List S_api_Route), box b11 [v1, v6], row v29 3 (r27.1.Hubs.map S_api_Hub.enc), nro v30 NC_api_Route_82 r27.1.Routes, box b31 [v29, v30]] (qv10 rfl rfl rfl rfl rfl rfl rfl rfl rfl rfl) (by decide) rfl ?_
 refine run_region' ?_
 refine oy rfl rfl (y_load_boxagg (c := [v29, v30]) 5 Try.isAgg25 Try.sizeOf25 rfl rfl rfl) ?_
 obtain ⟨r34, hr35, h⟩ := obind_some h
 refine ot rfl rfl (t_callx (vs := [.agg #[v29, v30], .string (bs [100, 101])]) (cs := []) [(3, 1), (4, 0)] rfl Try.call9 rfl (topo_Entry_ok n r27.1 [100, 101] v29 v30 hr35) (showsX_look 3 rfl views_row (showsX_view 4 rfl views_nro showsX_nil)) rfl (.inr (by rintro _ _ ⟨rfl, rfl⟩ g hg; first | (cases hg; done) | (simp only [List.mem_cons, List.not_mem_nil, or_false] at hg; first | (subst hg; first | exact strict_row | exact strict_box) | (rcases hg with rfl | rfl <;> first | exact strict_row | exact strict_box) | (rcases hg with rfl | rfl | rfl <;> first | exact strict_row | exact strict_box))))) ?_
 rintro _ _ ⟨_, ⟨rfl, rfl⟩, rfl⟩
 refine oy rfl rfl (y_move rfl) ?_
 refine oy rfl rfl (y_extract rfl rfl) ?_
 refine oy rfl rfl (y_extract rfl rfl) ?_
 refine oy rfl rfl (y_assign rfl) ?_
 refine oy rfl rfl (y_assign rfl) ?_
 refine ops_nil ?_
 refine goes_code ?_
 refine run_seq ?_
 refine run_region' ?_
 refine oy rfl rfl (y_load_boxagg (c := [v1, v6]) 2 Try.isAgg25 Try.sizeOf25 rfl rfl rfl) ?_
 obtain ⟨r36, hr37, h⟩ := obind_some h
 refine ot rfl rfl (t_callx (vs := [.agg #[v1, v6], .int .i64 3]) (cs := []) [(0, 0), (1, 0)] rfl Try.call11 rfl (topo_Climb_ok n (S_api_Map.mk ([(S_api_Hub.mk 1 (-1) true), (S_api_Hub.mk 2 1 true), (S_api_Hub.mk 3 2 true)] : List S_api_Hub) ([(S_api_Route.mk [] ([1] : List Int)), (S_api_Route.mk [100, 101] ([3, 2] : List Int))] : List S_api_Route)) 3 v1 v6 hr37) (showsX_view 0 rfl views_ro (showsX_view 1 rfl views_nro showsX_nil)) rfl (.inl rfl)) ?_
 rintro _ _ ⟨_, ⟨v38, rfl, rfl⟩, rfl⟩
 refine oy rfl rfl (y_move rfl) ?_
 refine oy rfl rfl (y_extract rfl rfl) ?_
 refine oy rfl rfl (y_extract rfl rfl) ?_
 refine oy rfl rfl (y_assign rfl) ?_
 refine oy rfl rfl (y_assign rfl) ?_
 refine ops_nil ?_
 refine goes_code ?_
 refine run_seq ?_
 refine run_weak [(1, boxP b11 0), (2, .int .i64 r14.1), (3, .int .i64 r14.2), (4, .int .i64 r16.1), (5, .int .i64 r16.2), (7, .int .i64 r18.2), (8, .int .i64 r25.1), (9, .int .i64 r25.2), (11, .int .i64 r27.2), (13, .int .i64 r34.2), (14, v38), (15, .int .i64 r36.2)] [0, 1, 2, 6] [ro v1 3 (([(S_api_Hub.mk 1 (-1) true), (S_api_Hub.mk 2 1 true), (S_api_Hub.mk 3 2 true)] : List S_api_Hub).map S_api_Hub.enc), nro v6 NC_api_Route_82 ([(S_api_Route.mk [] ([1] : List Int)), (S_api_Route.mk [100, 101] ([3, 2] : List Int))] : List S_api_Route), box b11 [v1, v6], row v38 1 (r36.1.map (eInt .i64))] (qv12 rfl rfl rfl rfl rfl rfl rfl rfl rfl rfl rfl rfl) (by decide) rfl ?_
 refine run_region' ?_
 refine oy rfl rfl (y_load_boxagg (c := [v1, v6]) 2 Try.isAgg25 Try.sizeOf25 rfl rfl rfl) ?_
 obtain ⟨r39, hr40, h⟩ := obind_some h
 refine ot rfl rfl (t_callx (vs := [.agg #[v1, v6], .int .i64 2, .bool false]) (cs := []) [(0, 0), (1, 0)] rfl Try.call12 rfl (topo_Turn_ok n (S_api_Map.mk ([(S_api_Hub.mk 1 (-1) true), (S_api_Hub.mk 2 1 true), (S_api_Hub.mk 3 2 true)] : List S_api_Hub) ([(S_api_Route.mk [] ([1] : List Int)), (S_api_Route.mk [100, 101] ([3, 2] : List Int))] : List S_api_Route)) 2 false v1 v6 hr40) (showsX_view 0 rfl views_ro (showsX_view 1 rfl views_nro showsX_nil)) rfl (.inl rfl)) ?_
 rintro _ _ ⟨_, ⟨v41, v42, rfl, rfl⟩, rfl⟩
 refine oy rfl rfl (y_move rfl) ?_
 refine oy rfl rfl (y_extract rfl rfl) ?_
 refine oy rfl rfl (y_extract rfl rfl) ?_
 refine ot rfl rfl (t_alloc Try.zeroValue25) ?_
 rintro _ _ ⟨b43, rfl, rfl⟩
 refine ops_slc 4 rfl reads_row (fun hs44 hs44o => ?_)
 refine ops_slcN 5 rfl readsN_ro (fun hs45 hs45o => ?_)
 refine ot rfl rfl (t_store 6 Try.sizeOf25 rfl rfl rfl rfl (by simp [Value.cells, boxP]) (allL_cons hs44o (allL_cons hs45o (allL_nil)))) ?_
 rintro _ _ ⟨rfl, rfl⟩
 refine ops_turn (retell 6 (g := box b43 [v41, v42]) rfl rfl) ?_
 refine oy rfl rfl (y_assign rfl) ?_
 refine ops_nil ?_
 refine goes_code ?_
 refine run_seq ?_
 refine run_weak [(2, .int .i64 r14.1), (3, .int .i64 r14.2), (4, .int .i64 r16.1), (5, .int .i64 r16.2), (7, .int .i64 r18.2), (8, .int .i64 r25.1), (9, .int .i64 r25.2), (11, .int .i64 r27.2), (13, .int .i64 r34.2), (14, v38), (15, .int .i64 r36.2), (16, boxP b43 0), (17, .int .i64 r39.2)] [3, 4, 5, 6] [row v38 1 (r36.1.map (eInt .i64)), row v41 3 (r39.1.Hubs.map S_api_Hub.enc), nro v42 NC_api_Route_82 r39.1.Routes, box b43 [v41, v42]] (qw6 rfl rfl rfl rfl rfl rfl (qv7 rfl rfl rfl rfl rfl rfl rfl)) (by decide) rfl ?_
 refine run_region' ?_
 refine oy rfl rfl (y_load_boxagg (c := [v41, v42]) 3 Try.isAgg25 Try.sizeOf25 rfl rfl rfl) ?_
 obtain ⟨r46, hr47, h⟩ := obind_some h
 refine ot rfl rfl (t_callx (vs := [.agg #[v41, v42], .int .i64 3]) (cs := []) [(1, 1), (2, 0)] rfl Try.call11 rfl (topo_Climb_ok n r39.1 3 v41 v42 hr47) (showsX_look 1 rfl views_row (showsX_view 2 rfl views_nro showsX_nil)) rfl (.inr (by rintro _ _ ⟨_, rfl, rfl⟩ g hg; first | (cases hg; done) | (simp only [List.mem_cons, List.not_mem_nil, or_false] at hg; first | (subst hg; first | exact strict_row | exact strict_box) | (rcases hg with rfl | rfl <;> first | exact strict_row | exact strict_box) | (rcases hg with rfl | rfl | rfl <;> first | exact strict_row | exact strict_box))))) ?_
 rintro _ _ ⟨_, ⟨v48, rfl, rfl⟩, rfl⟩
 refine oy rfl rfl (y_move rfl) ?_
 refine oy rfl rfl (y_extract rfl rfl) ?_
 refine oy rfl rfl (y_extract rfl rfl) ?_
 refine oy rfl rfl (y_assign rfl) ?_
 refine oy rfl rfl (y_assign rfl) ?_
 refine ops_nil ?_
 refine goes_code ?_
 refine run_seq ?_
 refine run_region' ?_
 refine oy rfl rfl (y_move rfl) ?_
 refine oy rfl rfl (y_eql rfl rfl) ?_
 refine oy rfl rfl (y_move rfl) ?_
 refine ops_cut 3 (Bool) (fun σ => [(2, .int .i64 r14.1), (4, .int .i64 r16.1), (7, .int .i64 r18.2), (8, .int .i64 r25.1), (9, .int .i64 r25.2), (11, .int .i64 r27.2), (13, .int .i64 r34.2), (14, v38), (15, .int .i64 r36.2), (17, .int .i64 r39.2), (18, v48), (19, .int .i64 r46.2), (95, .bool σ)]) (fun σ => [row v38 1 (r36.1.map (eInt .i64)), row v48 1 (r46.1.map (eInt .i64))]) (fun σ => σ = (decide (r14.2 = 0) && decide (r16.2 = 0))) (fun L49 hL50 => ?_) ?_
 ·refine ops_split 92 (decide (r14.2 = 0)) rfl (fun hg51 => ?_) (fun hg51 => ?_)
  ·skip
   refine ops_y (wg 2 true 92 rfl rfl rfl rfl) rfl (y_move rfl) ?_
   refine ops_y (wg 2 true 92 rfl rfl rfl rfl) rfl (y_eql rfl rfl) ?_
   refine oy rfl rfl (y_pick (b := true) rfl rfl) ?_
   refine ops_nil ?_
   exact goes_cut hL50 (decide (r16.2 = 0)) [0, 4] (qw6 rfl rfl rfl rfl rfl rfl (qv7 rfl rfl rfl rfl rfl rfl rfl)) (by decide) rfl (by rw [hg51]; simp)
  ·skip
   refine ops_no 2 true 92 rfl rfl rfl rfl rfl ?_
   refine ops_no 2 true 92 rfl rfl rfl rfl rfl ?_
   refine oy rfl rfl (y_pick (b := false) rfl rfl) ?_
   refine ops_nil ?_
   exact goes_cut hL50 false [0, 4] (qw6 rfl rfl rfl rfl rfl rfl (qv7 rfl rfl rfl rfl rfl rfl rfl)) (by decide) rfl (by rw [hg51]; simp)
 rintro _ rfl
 refine oy rfl rfl (y_move rfl) ?_
 refine ops_cut 3 (Bool) (fun σ => [(2, .int .i64 r14.1), (4, .int .i64 r16.1), (8, .int .i64 r25.1), (9, .int .i64 r25.2), (11, .int .i64 r27.2), (13, .int .i64 r34.2), (14, v38), (15, .int .i64 r36.2), (17, .int .i64 r39.2), (18, v48), (19, .int .i64 r46.2), (99, .bool σ)]) (fun σ => [row v38 1 (r36.1.map (eInt .i64)), row v48 1 (r46.1.map (eInt .i64))]) (fun σ => σ = ((decide (r14.2 = 0) && decide (r16.2 = 0)) && decide (r18.2 = 0))) (fun L52 hL53 => ?_) ?_
 ·refine ops_split 96 (decide (r14.2 = 0) && decide (r16.2 = 0)) rfl (fun hg54 => ?_) (fun hg54 => ?_)
  ·skip
   refine ops_y (wg 6 true 96 rfl rfl rfl rfl) rfl (y_move rfl) ?_
   refine ops_y (wg 6 true 96 rfl rfl rfl rfl) rfl (y_eql rfl rfl) ?_
   refine oy rfl rfl (y_pick (b := true) rfl rfl) ?_
   refine ops_nil ?_
   exact goes_cut hL53 (decide (r18.2 = 0)) [0, 1] (qv12 rfl rfl rfl rfl rfl rfl rfl rfl rfl rfl rfl rfl) (by decide) rfl (by rw [hg54]; simp)
  ·skip
   refine ops_no 6 true 96 rfl rfl rfl rfl rfl ?_
   refine ops_no 6 true 96 rfl rfl rfl rfl rfl ?_
   refine oy rfl rfl (y_pick (b := false) rfl rfl) ?_
   refine ops_nil ?_
   exact goes_cut hL53 false [0, 1] (qv12 rfl rfl rfl rfl rfl rfl rfl rfl rfl rfl rfl rfl) (by decide) rfl (by rw [hg54]; simp)
 rintro _ rfl
 refine oy rfl rfl (y_move rfl) ?_
 refine ops_cut 3 (Bool) (fun σ => [(2, .int .i64 r14.1), (4, .int .i64 r16.1), (8, .int .i64 r25.1), (11, .int .i64 r27.2), (13, .int .i64 r34.2), (14, v38), (15, .int .i64 r36.2), (17, .int .i64 r39.2), (18, v48), (19, .int .i64 r46.2), (103, .bool σ)]) (fun σ => [row v38 1 (r36.1.map (eInt .i64)), row v48 1 (r46.1.map (eInt .i64))]) (fun σ => σ = (((decide (r14.2 = 0) && decide (r16.2 = 0)) && decide (r18.2 = 0)) && decide (r25.2 = 0))) (fun L55 hL56 => ?_) ?_
 ·refine ops_split 100 ((decide (r14.2 = 0) && decide (r16.2 = 0)) && decide (r18.2 = 0)) rfl (fun hg57 => ?_) (fun hg57 => ?_)
  ·skip
   refine ops_y (wg 10 true 100 rfl rfl rfl rfl) rfl (y_move rfl) ?_
   refine ops_y (wg 10 true 100 rfl rfl rfl rfl) rfl (y_eql rfl rfl) ?_
   refine oy rfl rfl (y_pick (b := true) rfl rfl) ?_
   refine ops_nil ?_
   exact goes_cut hL56 (decide (r25.2 = 0)) [0, 1] (qv11 rfl rfl rfl rfl rfl rfl rfl rfl rfl rfl rfl) (by decide) rfl (by rw [hg57]; simp)
  ·skip
   refine ops_no 10 true 100 rfl rfl rfl rfl rfl ?_
   refine ops_no 10 true 100 rfl rfl rfl rfl rfl ?_
   refine oy rfl rfl (y_pick (b := false) rfl rfl) ?_
   refine ops_nil ?_
   exact goes_cut hL56 false [0, 1] (qv11 rfl rfl rfl rfl rfl rfl rfl rfl rfl rfl rfl) (by decide) rfl (by rw [hg57]; simp)
 rintro _ rfl
 refine oy rfl rfl (y_move rfl) ?_
 refine ops_cut 3 (Bool) (fun σ => [(2, .int .i64 r14.1), (4, .int .i64 r16.1), (8, .int .i64 r25.1), (13, .int .i64 r34.2), (14, v38), (15, .int .i64 r36.2), (17, .int .i64 r39.2), (18, v48), (19, .int .i64 r46.2), (107, .bool σ)]) (fun σ => [row v38 1 (r36.1.map (eInt .i64)), row v48 1 (r46.1.map (eInt .i64))]) (fun σ => σ = ((((decide (r14.2 = 0) && decide (r16.2 = 0)) && decide (r18.2 = 0)) && decide (r25.2 = 0)) && decide (r27.2 = 0))) (fun L58 hL59 => ?_) ?_
 ·refine ops_split 104 (((decide (r14.2 = 0) && decide (r16.2 = 0)) && decide (r18.2 = 0)) && decide (r25.2 = 0)) rfl (fun hg60 => ?_) (fun hg60 => ?_)
  ·skip
   refine ops_y (wg 14 true 104 rfl rfl rfl rfl) rfl (y_move rfl) ?_
   refine ops_y (wg 14 true 104 rfl rfl rfl rfl) rfl (y_eql rfl rfl) ?_
   refine oy rfl rfl (y_pick (b := true) rfl rfl) ?_
   refine ops_nil ?_
   exact goes_cut hL59 (decide (r27.2 = 0)) [0, 1] (qv10 rfl rfl rfl rfl rfl rfl rfl rfl rfl rfl) (by decide) rfl (by rw [hg60]; simp)
  ·skip
   refine ops_no 14 true 104 rfl rfl rfl rfl rfl ?_
   refine ops_no 14 true 104 rfl rfl rfl rfl rfl ?_
   refine oy rfl rfl (y_pick (b := false) rfl rfl) ?_
   refine ops_nil ?_
   exact goes_cut hL59 false [0, 1] (qv10 rfl rfl rfl rfl rfl rfl rfl rfl rfl rfl) (by decide) rfl (by rw [hg60]; simp)
 rintro _ rfl
 refine oy rfl rfl (y_move rfl) ?_
 refine ops_cut 3 (Bool) (fun σ => [(2, .int .i64 r14.1), (4, .int .i64 r16.1), (8, .int .i64 r25.1), (14, v38), (15, .int .i64 r36.2), (17, .int .i64 r39.2), (18, v48), (19, .int .i64 r46.2), (111, .bool σ)]) (fun σ => [row v38 1 (r36.1.map (eInt .i64)), row v48 1 (r46.1.map (eInt .i64))]) (fun σ => σ = (((((decide (r14.2 = 0) && decide (r16.2 = 0)) && decide (r18.2 = 0)) && decide (r25.2 = 0)) && decide (r27.2 = 0)) && decide (r34.2 = 5))) (fun L61 hL62 => ?_) ?_
 ·refine ops_split 108 ((((decide (r14.2 = 0) && decide (r16.2 = 0)) && decide (r18.2 = 0)) && decide (r25.2 = 0)) && decide (r27.2 = 0)) rfl (fun hg63 => ?_) (fun hg63 => ?_)
  ·skip
   refine ops_y (wg 18 true 108 rfl rfl rfl rfl) rfl (y_move rfl) ?_
   refine ops_y (wg 18 true 108 rfl rfl rfl rfl) rfl (y_eql rfl rfl) ?_
   refine oy rfl rfl (y_pick (b := true) rfl rfl) ?_
   refine ops_nil ?_
   exact goes_cut hL62 (decide (r34.2 = 5)) [0, 1] (qv9 rfl rfl rfl rfl rfl rfl rfl rfl rfl) (by decide) rfl (by rw [hg63]; simp)
  ·skip
   refine ops_no 18 true 108 rfl rfl rfl rfl rfl ?_
   refine ops_no 18 true 108 rfl rfl rfl rfl rfl ?_
   refine oy rfl rfl (y_pick (b := false) rfl rfl) ?_
   refine ops_nil ?_
   exact goes_cut hL62 false [0, 1] (qv9 rfl rfl rfl rfl rfl rfl rfl rfl rfl) (by decide) rfl (by rw [hg63]; simp)
 rintro _ rfl
 refine oy rfl rfl (y_move rfl) ?_
 refine ops_cut 3 (Bool) (fun σ => [(2, .int .i64 r14.1), (4, .int .i64 r16.1), (8, .int .i64 r25.1), (14, v38), (17, .int .i64 r39.2), (18, v48), (19, .int .i64 r46.2), (115, .bool σ)]) (fun σ => [row v38 1 (r36.1.map (eInt .i64)), row v48 1 (r46.1.map (eInt .i64))]) (fun σ => σ = ((((((decide (r14.2 = 0) && decide (r16.2 = 0)) && decide (r18.2 = 0)) && decide (r25.2 = 0)) && decide (r27.2 = 0)) && decide (r34.2 = 5)) && decide (r36.2 = 0))) (fun L64 hL65 => ?_) ?_
 ·refine ops_split 112 (((((decide (r14.2 = 0) && decide (r16.2 = 0)) && decide (r18.2 = 0)) && decide (r25.2 = 0)) && decide (r27.2 = 0)) && decide (r34.2 = 5)) rfl (fun hg66 => ?_) (fun hg66 => ?_)
  ·skip
   refine ops_y (wg 22 true 112 rfl rfl rfl rfl) rfl (y_move rfl) ?_
   refine ops_y (wg 22 true 112 rfl rfl rfl rfl) rfl (y_eql rfl rfl) ?_
   refine oy rfl rfl (y_pick (b := true) rfl rfl) ?_
   refine ops_nil ?_
   exact goes_cut hL65 (decide (r36.2 = 0)) [0, 1] (qv8 rfl rfl rfl rfl rfl rfl rfl rfl) (by decide) rfl (by rw [hg66]; simp)
  ·skip
   refine ops_no 22 true 112 rfl rfl rfl rfl rfl ?_
   refine ops_no 22 true 112 rfl rfl rfl rfl rfl ?_
   refine oy rfl rfl (y_pick (b := false) rfl rfl) ?_
   refine ops_nil ?_
   exact goes_cut hL65 false [0, 1] (qv8 rfl rfl rfl rfl rfl rfl rfl rfl) (by decide) rfl (by rw [hg66]; simp)
 rintro _ rfl
 refine oy rfl rfl (y_move rfl) ?_
 refine ops_cut 3 (Bool) (fun σ => [(2, .int .i64 r14.1), (4, .int .i64 r16.1), (8, .int .i64 r25.1), (14, v38), (18, v48), (19, .int .i64 r46.2), (119, .bool σ)]) (fun σ => [row v38 1 (r36.1.map (eInt .i64)), row v48 1 (r46.1.map (eInt .i64))]) (fun σ => σ = (((((((decide (r14.2 = 0) && decide (r16.2 = 0)) && decide (r18.2 = 0)) && decide (r25.2 = 0)) && decide (r27.2 = 0)) && decide (r34.2 = 5)) && decide (r36.2 = 0)) && decide (r39.2 = 0))) (fun L67 hL68 => ?_) ?_
 ·refine ops_split 116 ((((((decide (r14.2 = 0) && decide (r16.2 = 0)) && decide (r18.2 = 0)) && decide (r25.2 = 0)) && decide (r27.2 = 0)) && decide (r34.2 = 5)) && decide (r36.2 = 0)) rfl (fun hg69 => ?_) (fun hg69 => ?_)
  ·skip
   refine ops_y (wg 26 true 116 rfl rfl rfl rfl) rfl (y_move rfl) ?_
   refine ops_y (wg 26 true 116 rfl rfl rfl rfl) rfl (y_eql rfl rfl) ?_
   refine oy rfl rfl (y_pick (b := true) rfl rfl) ?_
   refine ops_nil ?_
   exact goes_cut hL68 (decide (r39.2 = 0)) [0, 1] (qv7 rfl rfl rfl rfl rfl rfl rfl) (by decide) rfl (by rw [hg69]; simp)
  ·skip
   refine ops_no 26 true 116 rfl rfl rfl rfl rfl ?_
   refine ops_no 26 true 116 rfl rfl rfl rfl rfl ?_
   refine oy rfl rfl (y_pick (b := false) rfl rfl) ?_
   refine ops_nil ?_
   exact goes_cut hL68 false [0, 1] (qv7 rfl rfl rfl rfl rfl rfl rfl) (by decide) rfl (by rw [hg69]; simp)
 rintro _ rfl
 refine oy rfl rfl (y_move rfl) ?_
 refine ops_cut 3 (Bool) (fun σ => [(2, .int .i64 r14.1), (4, .int .i64 r16.1), (8, .int .i64 r25.1), (14, v38), (18, v48), (123, .bool σ)]) (fun σ => [row v38 1 (r36.1.map (eInt .i64)), row v48 1 (r46.1.map (eInt .i64))]) (fun σ => σ = ((((((((decide (r14.2 = 0) && decide (r16.2 = 0)) && decide (r18.2 = 0)) && decide (r25.2 = 0)) && decide (r27.2 = 0)) && decide (r34.2 = 5)) && decide (r36.2 = 0)) && decide (r39.2 = 0)) && decide (r46.2 = 0))) (fun L70 hL71 => ?_) ?_
 ·refine ops_split 120 (((((((decide (r14.2 = 0) && decide (r16.2 = 0)) && decide (r18.2 = 0)) && decide (r25.2 = 0)) && decide (r27.2 = 0)) && decide (r34.2 = 5)) && decide (r36.2 = 0)) && decide (r39.2 = 0)) rfl (fun hg72 => ?_) (fun hg72 => ?_)
  ·skip
   refine ops_y (wg 30 true 120 rfl rfl rfl rfl) rfl (y_move rfl) ?_
   refine ops_y (wg 30 true 120 rfl rfl rfl rfl) rfl (y_eql rfl rfl) ?_
   refine oy rfl rfl (y_pick (b := true) rfl rfl) ?_
   refine ops_nil ?_
   exact goes_cut hL71 (decide (r46.2 = 0)) [0, 1] (qv6 rfl rfl rfl rfl rfl rfl) (by decide) rfl (by rw [hg72]; simp)
  ·skip
   refine ops_no 30 true 120 rfl rfl rfl rfl rfl ?_
   refine ops_no 30 true 120 rfl rfl rfl rfl rfl ?_
   refine oy rfl rfl (y_pick (b := false) rfl rfl) ?_
   refine ops_nil ?_
   exact goes_cut hL71 false [0, 1] (qv6 rfl rfl rfl rfl rfl rfl) (by decide) rfl (by rw [hg72]; simp)
 rintro _ rfl
 refine oy rfl rfl (y_assign rfl) ?_
 refine ops_nil ?_
 refine goes_code ?_
 refine run_seq ?_
 refine run_seq ?_
 refine run_region' ?_
 refine oy rfl rfl (y_move rfl) ?_
 refine oy rfl rfl (y_not rfl) ?_
 refine oy rfl rfl (y_move rfl) ?_
 refine ops_cut 3 (Bool) (fun σ => [(4, .int .i64 r16.1), (8, .int .i64 r25.1), (14, v38), (18, v48), (129, .bool σ)]) (fun σ => [row v38 1 (r36.1.map (eInt .i64)), row v48 1 (r46.1.map (eInt .i64))]) (fun σ => σ = ((!((((((((decide (r14.2 = 0) && decide (r16.2 = 0)) && decide (r18.2 = 0)) && decide (r25.2 = 0)) && decide (r27.2 = 0)) && decide (r34.2 = 5)) && decide (r36.2 = 0)) && decide (r39.2 = 0)) && decide (r46.2 = 0))) || decide (r14.1 ≠ 3))) (fun L73 hL74 => ?_) ?_
 ·refine ops_split 126 (!((((((((decide (r14.2 = 0) && decide (r16.2 = 0)) && decide (r18.2 = 0)) && decide (r25.2 = 0)) && decide (r27.2 = 0)) && decide (r34.2 = 5)) && decide (r36.2 = 0)) && decide (r39.2 = 0)) && decide (r46.2 = 0))) rfl (fun hg75 => ?_) (fun hg75 => ?_)
  ·skip
   refine ops_no 2 false 126 rfl rfl rfl rfl rfl ?_
   refine ops_no 2 false 126 rfl rfl rfl rfl rfl ?_
   refine oy rfl rfl (y_pick (b := true) rfl rfl) ?_
   refine ops_nil ?_
   exact goes_cut hL74 true [0, 1] (qv5 rfl rfl rfl rfl rfl) (by decide) rfl (by rw [hg75]; simp)
  ·skip
   refine ops_y (wg 2 false 126 rfl rfl rfl rfl) rfl (y_move rfl) ?_
   refine ops_y (wg 2 false 126 rfl rfl rfl rfl) rfl (y_neq rfl rfl) ?_
   refine oy rfl rfl (y_pick (b := false) rfl rfl) ?_
   refine ops_nil ?_
   exact goes_cut hL74 (decide (r14.1 ≠ 3)) [0, 1] (qv5 rfl rfl rfl rfl rfl) (by decide) rfl (by rw [hg75]; simp)
 rintro _ rfl
 refine oy rfl rfl (y_move rfl) ?_
 refine ops_cut 3 (Bool) (fun σ => [(8, .int .i64 r25.1), (14, v38), (18, v48), (133, .bool σ)]) (fun σ => [row v38 1 (r36.1.map (eInt .i64)), row v48 1 (r46.1.map (eInt .i64))]) (fun σ => σ = (((!((((((((decide (r14.2 = 0) && decide (r16.2 = 0)) && decide (r18.2 = 0)) && decide (r25.2 = 0)) && decide (r27.2 = 0)) && decide (r34.2 = 5)) && decide (r36.2 = 0)) && decide (r39.2 = 0)) && decide (r46.2 = 0))) || decide (r14.1 ≠ 3)) || decide (r16.1 ≠ 1))) (fun L76 hL77 => ?_) ?_
 ·refine ops_split 130 ((!((((((((decide (r14.2 = 0) && decide (r16.2 = 0)) && decide (r18.2 = 0)) && decide (r25.2 = 0)) && decide (r27.2 = 0)) && decide (r34.2 = 5)) && decide (r36.2 = 0)) && decide (r39.2 = 0)) && decide (r46.2 = 0))) || decide (r14.1 ≠ 3)) rfl (fun hg78 => ?_) (fun hg78 => ?_)
  ·skip
   refine ops_no 6 false 130 rfl rfl rfl rfl rfl ?_
   refine ops_no 6 false 130 rfl rfl rfl rfl rfl ?_
   refine oy rfl rfl (y_pick (b := true) rfl rfl) ?_
   refine ops_nil ?_
   exact goes_cut hL77 true [0, 1] (qv4 rfl rfl rfl rfl) (by decide) rfl (by rw [hg78]; simp)
  ·skip
   refine ops_y (wg 6 false 130 rfl rfl rfl rfl) rfl (y_move rfl) ?_
   refine ops_y (wg 6 false 130 rfl rfl rfl rfl) rfl (y_neq rfl rfl) ?_
   refine oy rfl rfl (y_pick (b := false) rfl rfl) ?_
   refine ops_nil ?_
   exact goes_cut hL77 (decide (r16.1 ≠ 1)) [0, 1] (qv4 rfl rfl rfl rfl) (by decide) rfl (by rw [hg78]; simp)
 rintro _ rfl
 refine oy rfl rfl (y_move rfl) ?_
 refine ops_cut 3 (Bool) (fun σ => [(14, v38), (18, v48), (137, .bool σ)]) (fun σ => [row v38 1 (r36.1.map (eInt .i64)), row v48 1 (r46.1.map (eInt .i64))]) (fun σ => σ = ((((!((((((((decide (r14.2 = 0) && decide (r16.2 = 0)) && decide (r18.2 = 0)) && decide (r25.2 = 0)) && decide (r27.2 = 0)) && decide (r34.2 = 5)) && decide (r36.2 = 0)) && decide (r39.2 = 0)) && decide (r46.2 = 0))) || decide (r14.1 ≠ 3)) || decide (r16.1 ≠ 1)) || decide (r25.1 ≠ 2))) (fun L79 hL80 => ?_) ?_
 ·refine ops_split 134 (((!((((((((decide (r14.2 = 0) && decide (r16.2 = 0)) && decide (r18.2 = 0)) && decide (r25.2 = 0)) && decide (r27.2 = 0)) && decide (r34.2 = 5)) && decide (r36.2 = 0)) && decide (r39.2 = 0)) && decide (r46.2 = 0))) || decide (r14.1 ≠ 3)) || decide (r16.1 ≠ 1)) rfl (fun hg81 => ?_) (fun hg81 => ?_)
  ·skip
   refine ops_no 10 false 134 rfl rfl rfl rfl rfl ?_
   refine ops_no 10 false 134 rfl rfl rfl rfl rfl ?_
   refine oy rfl rfl (y_pick (b := true) rfl rfl) ?_
   refine ops_nil ?_
   exact goes_cut hL80 true [0, 1] (qv3 rfl rfl rfl) (by decide) rfl (by rw [hg81]; simp)
  ·skip
   refine ops_y (wg 10 false 134 rfl rfl rfl rfl) rfl (y_move rfl) ?_
   refine ops_y (wg 10 false 134 rfl rfl rfl rfl) rfl (y_neq rfl rfl) ?_
   refine oy rfl rfl (y_pick (b := false) rfl rfl) ?_
   refine ops_nil ?_
   exact goes_cut hL80 (decide (r25.1 ≠ 2)) [0, 1] (qv3 rfl rfl rfl) (by decide) rfl (by rw [hg81]; simp)
 rintro _ rfl
 refine oy rfl rfl (y_move rfl) ?_
 obtain ⟨o83, h, ho84⟩ := bindJ_some h
 refine ops_cut 5 (Bool) (fun σ => [(18, v48), (143, .bool σ)]) (fun σ => [row v48 1 (r46.1.map (eInt .i64))]) (fun σ => o83 = .go σ) (fun L85 hL86 => ?_) ?_
 ·refine ops_split 138 ((((!((((((((decide (r14.2 = 0) && decide (r16.2 = 0)) && decide (r18.2 = 0)) && decide (r25.2 = 0)) && decide (r27.2 = 0)) && decide (r34.2 = 5)) && decide (r36.2 = 0)) && decide (r39.2 = 0)) && decide (r46.2 = 0))) || decide (r14.1 ≠ 3)) || decide (r16.1 ≠ 1)) || decide (r25.1 ≠ 2)) rfl (fun hg87 => ?_) (fun hg87 => ?_)
  ·replace h := cond_t h hg87
   refine ops_no 14 false 138 rfl rfl rfl rfl rfl ?_
   refine ops_no 14 false 138 rfl rfl rfl rfl rfl ?_
   refine ops_no 14 false 138 rfl rfl rfl rfl rfl ?_
   refine ops_no 14 false 138 rfl rfl rfl rfl rfl ?_
   refine oy rfl rfl (y_pick (b := true) rfl rfl) ?_
   refine ops_nil ?_
   obtain rfl := some_eq h
   exact goes_cut hL86 true [1] (qv2 rfl rfl) (by decide) rfl rfl
  ·replace h := cond_f h hg87
   refine ops_y (wg 14 false 138 rfl rfl rfl rfl) rfl (y_move rfl) ?_
   refine ops_t (wg 14 false 138 rfl rfl rfl rfl) rfl (t_lit [.int .i64 3, .int .i64 2, .int .i64 1] Try.runUnderlying35 Try.sizeOf3 Try.zeroValue3 rfl (by decide) (by decide) rfl (by simp [Value.cells, boxP])) ?_
   rintro v88 _ ⟨rfl, _⟩
   refine ops_turn (retell 2 (g := row v88 1 (([3, 2, 1] : List Int).map (eInt .i64))) rfl rfl) ?_
   obtain ⟨r89, hr90, h⟩ := obind_some h
   refine ops_t (wg 14 false 138 rfl rfl rfl rfl) rfl (t_callx (vs := [v38, v88]) (cs := []) [(0, 1), (2, 1)] rfl Try.call19 rfl (ref42_SameList_ok n r36.1 ([3, 2, 1] : List Int) v38 v88 hr90) (showsX_look 0 rfl views_row (showsX_look 2 rfl views_row showsX_nil)) rfl (.inr (by rintro _ _ ⟨rfl, rfl⟩ g hg; first | (cases hg; done) | (simp only [List.mem_cons, List.not_mem_nil, or_false] at hg; first | (subst hg; first | exact strict_row | exact strict_box) | (rcases hg with rfl | rfl <;> first | exact strict_row | exact strict_box) | (rcases hg with rfl | rfl | rfl <;> first | exact strict_row | exact strict_box))))) ?_
   rintro _ _ ⟨_, ⟨rfl, rfl⟩, rfl⟩
   refine ops_y (wg 14 false 138 rfl rfl rfl rfl) rfl (y_not rfl) ?_
   refine oy rfl rfl (y_pick (b := false) rfl rfl) ?_
   refine ops_nil ?_
   obtain rfl := some_eq h
   exact goes_cut hL86 (!r89) [1] (qv2 rfl rfl) (by decide) rfl rfl
 rintro b82 hj
 obtain rfl : o83 = _ := hj
 replace h := after_go ho84
 clear ho84
 refine oy rfl rfl (y_move rfl) ?_
 obtain ⟨o92, h, ho93⟩ := bindJ_some h
 refine ops_cut 5 (Bool) (fun σ => [(149, .bool σ)]) (fun σ => []) (fun σ => o92 = .go σ) (fun L94 hL95 => ?_) ?_
 ·refine ops_split 144 b82 rfl (fun hg96 => ?_) (fun hg96 => ?_)
  ·replace h := cond_t h hg96
   refine ops_no 20 false 144 rfl rfl rfl rfl rfl ?_
   refine ops_no 20 false 144 rfl rfl rfl rfl rfl ?_
   refine ops_no 20 false 144 rfl rfl rfl rfl rfl ?_
   refine ops_no 20 false 144 rfl rfl rfl rfl rfl ?_
   refine oy rfl rfl (y_pick (b := true) rfl rfl) ?_
   refine ops_nil ?_
   obtain rfl := some_eq h
   exact goes_cut hL95 true [] (qv1 rfl) (by decide) rfl rfl
  ·replace h := cond_f h hg96
   refine ops_y (wg 20 false 144 rfl rfl rfl rfl) rfl (y_move rfl) ?_
   refine ops_t (wg 20 false 144 rfl rfl rfl rfl) rfl (t_lit [.int .i64 3, .int .i64 1] Try.runUnderlying35 Try.sizeOf3 Try.zeroValue3 rfl (by decide) (by decide) rfl (by simp [Value.cells, boxP])) ?_
   rintro v97 _ ⟨rfl, _⟩
   refine ops_turn (retell 1 (g := row v97 1 (([3, 1] : List Int).map (eInt .i64))) rfl rfl) ?_
   obtain ⟨r98, hr99, h⟩ := obind_some h
   refine ops_t (wg 20 false 144 rfl rfl rfl rfl) rfl (t_callx (vs := [v48, v97]) (cs := []) [(0, 1), (1, 1)] rfl Try.call19 rfl (ref42_SameList_ok n r46.1 ([3, 1] : List Int) v48 v97 hr99) (showsX_look 0 rfl views_row (showsX_look 1 rfl views_row showsX_nil)) rfl (.inr (by rintro _ _ ⟨rfl, rfl⟩ g hg; first | (cases hg; done) | (simp only [List.mem_cons, List.not_mem_nil, or_false] at hg; first | (subst hg; first | exact strict_row | exact strict_box) | (rcases hg with rfl | rfl <;> first | exact strict_row | exact strict_box) | (rcases hg with rfl | rfl | rfl <;> first | exact strict_row | exact strict_box))))) ?_
   rintro _ _ ⟨_, ⟨rfl, rfl⟩, rfl⟩
   refine ops_y (wg 20 false 144 rfl rfl rfl rfl) rfl (y_not rfl) ?_
   refine oy rfl rfl (y_pick (b := false) rfl rfl) ?_
   refine ops_nil ?_
   obtain rfl := some_eq h
   exact goes_cut hL95 (!r98) [] (qv1 rfl) (by decide) rfl rfl
 rintro b91 hj
 obtain rfl : o92 = _ := hj
 replace h := after_go ho93
 clear ho93
 refine ops_nil ?_
 refine goes_code ?_
 refine run_cond b91 rfl (fun hc100 => ?_) (fun hc100 => ?_)
 ·replace h := cond_t h hc100
  refine run_seq ?_
  refine run_region' ?_
  refine oy rfl rfl (y_assign rfl) ?_
  refine ops_nil ?_
  refine goes_code ?_
  refine run_ret ?_
  obtain rfl := some_eq h
  refine fin_slots [0] [.bool false] [] [] Try.results8 rfl (by decide) rfl ?_
  exact ⟨rfl, rfl⟩
 ·replace h := cond_f h hc100
  refine run_skip ?_
  refine goes_code ?_
  refine run_seq ?_
  refine run_region' ?_
  refine ot rfl rfl (t_lit [.int .i64 1, .int .i64 2, .int .i64 3] Try.runUnderlying35 Try.sizeOf3 Try.zeroValue3 rfl (by decide) (by decide) rfl (by simp [Value.cells, boxP])) ?_
  rintro v101 _ ⟨rfl, _⟩
  refine ops_turn (retell 0 (g := row v101 1 (([1, 2, 3] : List Int).map (eInt .i64))) rfl rfl) ?_
  refine ops_turn (Go.Abs.freeze 0 rfl) ?_
  obtain ⟨r102, hr103, h⟩ := obind_some h
  refine ot rfl rfl (t_callx (vs := [v101, .int .i64 7]) (cs := []) [(0, 0)] rfl Try.call32 rfl (topo_NewFleet_ok n ([1, 2, 3] : List Int) 7 v101 hr103) (showsX_view 0 rfl views_ro showsX_nil) rfl (.inl rfl)) ?_
  rintro _ _ ⟨_, ⟨v104, v105, rfl, rfl⟩, rfl⟩
  refine oy rfl rfl (y_move rfl) ?_
  refine oy rfl rfl (y_extract rfl rfl) ?_
  refine oy rfl rfl (y_extract rfl rfl) ?_
  refine ot rfl rfl (t_alloc Try.zeroValue59) ?_
  rintro _ _ ⟨b106, rfl, rfl⟩
  refine ops_slcN 1 rfl readsN_ro (fun hs107 hs107o => ?_)
  refine ops_slc 2 rfl reads_row (fun hs108 hs108o => ?_)
  refine ot rfl rfl (t_store 3 Try.sizeOf59 rfl rfl rfl rfl (by simp [Value.cells, boxP]) (allL_cons rfl (allL_cons rfl (allL_cons rfl (allL_cons rfl (allL_cons hs107o (allL_cons hs108o (allL_nil)))))))) ?_
  rintro _ _ ⟨rfl, rfl⟩
  refine ops_turn (retell 3 (g := box b106 [.int .i64 r102.1.Base, .int .i64 r102.1.Done, .int .i64 r102.1.Serial, .bool r102.1.Stopped, v104, v105]) rfl rfl) ?_
  refine oy rfl rfl (y_assign rfl) ?_
  refine ops_nil ?_
  refine goes_code ?_
  refine run_seq ?_
  refine run_weak [(21, boxP b106 0), (22, .int .i64 r102.2)] [1, 2, 3] [nro v104 NC_L_int_35 r102.1.Stages, row v105 4 (r102.1.Orders.map S_api_Order.enc), box b106 [.int .i64 r102.1.Base, .int .i64 r102.1.Done, .int .i64 r102.1.Serial, .bool r102.1.Stopped, v104, v105]] (qv2 rfl rfl) (by decide) rfl ?_
  refine run_region' ?_
  refine oy rfl rfl (y_load_boxagg (c := [.int .i64 r102.1.Base, .int .i64 r102.1.Done, .int .i64 r102.1.Serial, .bool r102.1.Stopped, v104, v105]) 2 Try.isAgg59 Try.sizeOf59 rfl rfl rfl) ?_
  refine ot rfl rfl (t_lit [.int .i64 3] Try.runUnderlying35 Try.sizeOf3 Try.zeroValue3 rfl (by decide) (by decide) rfl (by simp [Value.cells, boxP])) ?_
  rintro v109 _ ⟨rfl, _⟩
  refine ops_turn (retell 3 (g := row v109 1 (([3] : List Int).map (eInt .i64))) rfl rfl) ?_
  refine ot rfl rfl (t_lit [.int .i64 1, .int .i64 2] Try.runUnderlying35 Try.sizeOf3 Try.zeroValue3 rfl (by decide) (by decide) rfl (by simp [Value.cells, boxP])) ?_
  rintro v110 _ ⟨rfl, _⟩
  refine ops_turn (retell 4 (g := row v110 1 (([1, 2] : List Int).map (eInt .i64))) rfl rfl) ?_
  refine ops_turn (Go.Abs.freeze 3 rfl) ?_
  refine ops_turn (Go.Abs.freeze 4 rfl) ?_
  refine ops_slc 3 rfl reads_ro (fun hs112 hs112o => ?_)
  refine ops_slc 4 rfl reads_ro (fun hs113 hs113o => ?_)
  refine ot rfl rfl (t_lit [v109, v110] Try.runUnderlying56 Try.sizeOf35 Try.zeroValue35 rfl (by decide) (by decide) rfl (by intro q hq; simp only [List.mem_cons, List.not_mem_nil, or_false] at hq; rcases hq with rfl | rfl <;> first | rfl | (rw [hs112]; rfl) | (rw [hs113]; rfl))) ?_
  rintro v111 _ ⟨rfl, _⟩
  refine ops_turn (turn_closeR (C := NC_L_int_35) (l := ([([3] : List Int), ([1, 2] : List Int)] : List (List Int))) 5 [(([3] : List Int), v109), (([1, 2] : List Int), v110)] rfl (by simp only [List.map_cons, List.map_nil, hs112, hs113]; rfl) rfl (hasall_cons (has_cons 3 rfl has_nil) (hasall_cons (has_cons 4 rfl has_nil) hasall_nil))) ?_
  refine ops_turn (Go.Abs.freeze 1 rfl) ?_
  obtain ⟨hq114, h⟩ := need_some h
  refine ops_turn (freezeN 5 rfl (fun _ => ne0 hq114)) ?_
  obtain ⟨r115, hr116, h⟩ := obind_some h
  refine ot rfl rfl (t_callx (vs := [.agg #[.int .i64 r102.1.Base, .int .i64 r102.1.Done, .int .i64 r102.1.Serial, .bool r102.1.Stopped, v104, v105], v111]) (cs := []) [(0, 0), (1, 0), (5, 0)] rfl Try.call33 rfl (topo_Begin_ok n r102.1 ([([3] : List Int), ([1, 2] : List Int)] : List (List Int)) v104 v105 v111 hr116) (showsX_view 0 rfl views_nro (showsX_view 1 rfl views_ro (showsX_view 5 rfl views_nro showsX_nil))) rfl (.inl rfl)) ?_
  rintro _ _ ⟨_, ⟨v117, v118, rfl, rfl⟩, rfl⟩
  refine oy rfl rfl (y_move rfl) ?_
  refine oy rfl rfl (y_extract rfl rfl) ?_
  refine oy rfl rfl (y_extract rfl rfl) ?_
  refine ops_slcN 6 rfl readsN_ro (fun hs119 hs119o => ?_)
  refine ops_slc 7 rfl reads_row (fun hs120 hs120o => ?_)
  refine ot rfl rfl (t_store 2 Try.sizeOf59 rfl rfl rfl rfl (by simp [Value.cells, boxP]) (allL_cons rfl (allL_cons rfl (allL_cons rfl (allL_cons rfl (allL_cons hs119o (allL_cons hs120o (allL_nil)))))))) ?_
  rintro _ _ ⟨rfl, rfl⟩
  refine ops_turn (retell 2 (g := box b106 [.int .i64 r115.1.Base, .int .i64 r115.1.Done, .int .i64 r115.1.Serial, .bool r115.1.Stopped, v117, v118]) rfl rfl) ?_
  refine oy rfl rfl (y_assign rfl) ?_
  refine ops_nil ?_
  refine goes_code ?_
  refine run_seq ?_
  refine run_weak [(21, boxP b106 0), (22, .int .i64 r102.2), (23, .int .i64 r115.2)] [2, 6, 7] [box b106 [.int .i64 r115.1.Base, .int .i64 r115.1.Done, .int .i64 r115.1.Serial, .bool r115.1.Stopped, v117, v118], nro v117 NC_L_int_35 r115.1.Stages, row v118 4 (r115.1.Orders.map S_api_Order.enc)] (qv3 rfl rfl rfl) (by decide) rfl ?_
  refine run_region' ?_
  refine oy rfl rfl (y_load_boxagg (c := [.int .i64 r115.1.Base, .int .i64 r115.1.Done, .int .i64 r115.1.Serial, .bool r115.1.Stopped, v117, v118]) 0 Try.isAgg59 Try.sizeOf59 rfl rfl rfl) ?_
  refine ops_turn (Go.Abs.freeze 2 rfl) ?_
  obtain ⟨r121, hr122, h⟩ := obind_some h
  refine ot rfl rfl (t_callx (vs := [.agg #[.int .i64 r115.1.Base, .int .i64 r115.1.Done, .int .i64 r115.1.Serial, .bool r115.1.Stopped, v117, v118]]) (cs := []) [(1, 0), (2, 0)] rfl Try.call30 rfl (topo_Forward_ok n r115.1 v117 v118 hr122) (showsX_view 1 rfl views_nro (showsX_view 2 rfl views_ro showsX_nil)) rfl (.inl rfl)) ?_
  rintro _ _ ⟨_, ⟨v123, v124, rfl, rfl⟩, rfl⟩
  refine oy rfl rfl (y_move rfl) ?_
  refine oy rfl rfl (y_extract rfl rfl) ?_
  refine oy rfl rfl (y_extract rfl rfl) ?_
  refine ops_slcN 3 rfl readsN_ro (fun hs125 hs125o => ?_)
  refine ops_slc 4 rfl reads_row (fun hs126 hs126o => ?_)
  refine ot rfl rfl (t_store 0 Try.sizeOf59 rfl rfl rfl rfl (by simp [Value.cells, boxP]) (allL_cons rfl (allL_cons rfl (allL_cons rfl (allL_cons rfl (allL_cons hs125o (allL_cons hs126o (allL_nil)))))))) ?_
  rintro _ _ ⟨rfl, rfl⟩
  refine ops_turn (retell 0 (g := box b106 [.int .i64 r121.1.Base, .int .i64 r121.1.Done, .int .i64 r121.1.Serial, .bool r121.1.Stopped, v123, v124]) rfl rfl) ?_
  refine oy rfl rfl (y_assign rfl) ?_
  refine ops_nil ?_
  refine goes_code ?_
  refine run_seq ?_
  refine run_region' ?_
  refine oy rfl rfl (y_load_boxagg (c := [.int .i64 r121.1.Base, .int .i64 r121.1.Done, .int .i64 r121.1.Serial, .bool r121.1.Stopped, v123, v124]) 0 Try.isAgg59 Try.sizeOf59 rfl rfl rfl) ?_
  refine ops_turn (Go.Abs.freeze 4 rfl) ?_
  obtain ⟨r127, hr128, h⟩ := obind_some h
  refine ot rfl rfl (t_callx (vs := [.agg #[.int .i64 r121.1.Base, .int .i64 r121.1.Done, .int .i64 r121.1.Serial, .bool r121.1.Stopped, v123, v124]]) (cs := []) [(3, 0), (4, 0)] rfl Try.call30 rfl (topo_Forward_ok n r121.1 v123 v124 hr128) (showsX_view 3 rfl views_nro (showsX_view 4 rfl views_ro showsX_nil)) rfl (.inl rfl)) ?_
  rintro _ _ ⟨_, ⟨v129, v130, rfl, rfl⟩, rfl⟩
  refine oy rfl rfl (y_move rfl) ?_
  refine oy rfl rfl (y_extract rfl rfl) ?_
  refine oy rfl rfl (y_extract rfl rfl) ?_
  refine ot rfl rfl (t_alloc Try.zeroValue59) ?_
  rintro _ _ ⟨b131, rfl, rfl⟩
  refine ops_slcN 5 rfl readsN_ro (fun hs132 hs132o => ?_)
  refine ops_slc 6 rfl reads_row (fun hs133 hs133o => ?_)
  refine ot rfl rfl (t_store 7 Try.sizeOf59 rfl rfl rfl rfl (by simp [Value.cells, boxP]) (allL_cons rfl (allL_cons rfl (allL_cons rfl (allL_cons rfl (allL_cons hs132o (allL_cons hs133o (allL_nil)))))))) ?_
  rintro _ _ ⟨rfl, rfl⟩
  refine ops_turn (retell 7 (g := box b131 [.int .i64 r127.1.Base, .int .i64 r127.1.Done, .int .i64 r127.1.Serial, .bool r127.1.Stopped, v129, v130]) rfl rfl) ?_
  refine oy rfl rfl (y_assign rfl) ?_
  refine ops_nil ?_
  refine goes_code ?_
  refine run_seq ?_
  refine run_weak [(21, boxP b106 0), (22, .int .i64 r102.2), (23, .int .i64 r115.2), (24, .int .i64 r121.2), (26, .int .i64 r127.2)] [0, 3, 4] [box b106 [.int .i64 r121.1.Base, .int .i64 r121.1.Done, .int .i64 r121.1.Serial, .bool r121.1.Stopped, v123, v124], nro v123 NC_L_int_35 r121.1.Stages, ro v124 4 (r121.1.Orders.map S_api_Order.enc)] (qv5 rfl rfl rfl rfl rfl) (by decide) rfl ?_
  refine run_region' ?_
  refine oy rfl rfl (y_load_boxagg (c := [.int .i64 r121.1.Base, .int .i64 r121.1.Done, .int .i64 r121.1.Serial, .bool r121.1.Stopped, v123, v124]) 0 Try.isAgg59 Try.sizeOf59 rfl rfl rfl) ?_
  obtain ⟨r134, hr135, h⟩ := obind_some h
  refine ot rfl rfl (t_callx (vs := [.agg #[.int .i64 r121.1.Base, .int .i64 r121.1.Done, .int .i64 r121.1.Serial, .bool r121.1.Stopped, v123, v124], .int .i64 3, .int .i64 1]) (cs := []) [(1, 0), (2, 0)] rfl Try.call27 rfl (topo_Confirm_ok n r121.1 3 1 v123 v124 hr135) (showsX_view 1 rfl views_nro (showsX_view 2 rfl views_ro showsX_nil)) rfl (.inl rfl)) ?_
  rintro _ _ ⟨_, ⟨v136, v137, rfl, rfl⟩, rfl⟩
  refine oy rfl rfl (y_move rfl) ?_
  refine oy rfl rfl (y_extract rfl rfl) ?_
  refine oy rfl rfl (y_extract rfl rfl) ?_
  refine ops_slcN 3 rfl readsN_ro (fun hs138 hs138o => ?_)
  refine ops_slc 4 rfl reads_row (fun hs139 hs139o => ?_)
  refine ot rfl rfl (t_store 0 Try.sizeOf59 rfl rfl rfl rfl (by simp [Value.cells, boxP]) (allL_cons rfl (allL_cons rfl (allL_cons rfl (allL_cons rfl (allL_cons hs138o (allL_cons hs139o (allL_nil)))))))) ?_
  rintro _ _ ⟨rfl, rfl⟩
  refine ops_turn (retell 0 (g := box b106 [.int .i64 r134.1.Base, .int .i64 r134.1.Done, .int .i64 r134.1.Serial, .bool r134.1.Stopped, v136, v137]) rfl rfl) ?_
  refine oy rfl rfl (y_assign rfl) ?_
  refine ops_nil ?_
  refine goes_code ?_
  refine run_seq ?_
  refine run_region' ?_
  refine oy rfl rfl (y_load_boxagg (c := [.int .i64 r134.1.Base, .int .i64 r134.1.Done, .int .i64 r134.1.Serial, .bool r134.1.Stopped, v136, v137]) 0 Try.isAgg59 Try.sizeOf59 rfl rfl rfl) ?_
  refine ops_turn (Go.Abs.freeze 4 rfl) ?_
  obtain ⟨r140, hr141, h⟩ := obind_some h
  refine ot rfl rfl (t_callx (vs := [.agg #[.int .i64 r134.1.Base, .int .i64 r134.1.Done, .int .i64 r134.1.Serial, .bool r134.1.Stopped, v136, v137]]) (cs := []) [(3, 0), (4, 0)] rfl Try.call30 rfl (topo_Forward_ok n r134.1 v136 v137 hr141) (showsX_view 3 rfl views_nro (showsX_view 4 rfl views_ro showsX_nil)) rfl (.inl rfl)) ?_
  rintro _ _ ⟨_, ⟨v142, v143, rfl, rfl⟩, rfl⟩
  refine oy rfl rfl (y_move rfl) ?_
  refine oy rfl rfl (y_extract rfl rfl) ?_
  refine oy rfl rfl (y_extract rfl rfl) ?_
  refine ops_slcN 5 rfl readsN_ro (fun hs144 hs144o => ?_)
  refine ops_slc 6 rfl reads_row (fun hs145 hs145o => ?_)
  refine ot rfl rfl (t_store 0 Try.sizeOf59 rfl rfl rfl rfl (by simp [Value.cells, boxP]) (allL_cons rfl (allL_cons rfl (allL_cons rfl (allL_cons rfl (allL_cons hs144o (allL_cons hs145o (allL_nil)))))))) ?_
  rintro _ _ ⟨rfl, rfl⟩
  refine ops_turn (retell 0 (g := box b106 [.int .i64 r140.1.Base, .int .i64 r140.1.Done, .int .i64 r140.1.Serial, .bool r140.1.Stopped, v142, v143]) rfl rfl) ?_
  refine oy rfl rfl (y_assign rfl) ?_
  refine ops_nil ?_
  refine goes_code ?_
  refine run_seq ?_
  refine run_weak [(21, boxP b106 0), (22, .int .i64 r102.2), (23, .int .i64 r115.2), (24, .int .i64 r121.2), (26, .int .i64 r127.2), (27, .int .i64 r134.2), (28, .int .i64 r140.2)] [0, 5, 6] [box b106 [.int .i64 r140.1.Base, .int .i64 r140.1.Done, .int .i64 r140.1.Serial, .bool r140.1.Stopped, v142, v143], nro v142 NC_L_int_35 r140.1.Stages, row v143 4 (r140.1.Orders.map S_api_Order.enc)] (qv7 rfl rfl rfl rfl rfl rfl rfl) (by decide) rfl ?_
  refine run_region' ?_
  refine oy rfl rfl (y_load_boxagg (c := [.int .i64 r140.1.Base, .int .i64 r140.1.Done, .int .i64 r140.1.Serial, .bool r140.1.Stopped, v142, v143]) 0 Try.isAgg59 Try.sizeOf59 rfl rfl rfl) ?_
  obtain ⟨r146, hr147, h⟩ := obind_some h
  refine ot rfl rfl (t_callx (vs := [.agg #[.int .i64 r140.1.Base, .int .i64 r140.1.Done, .int .i64 r140.1.Serial, .bool r140.1.Stopped, v142, v143], .int .i64 2]) (cs := []) [(1, 0), (2, 1)] rfl Try.call25 rfl (topo_OrderOf_ok n r140.1 2 v142 v143 hr147) (showsX_view 1 rfl views_nro (showsX_look 2 rfl views_row showsX_nil)) rfl (.inr (by rintro _ _ ⟨rfl, rfl⟩ g hg; first | (cases hg; done) | (simp only [List.mem_cons, List.not_mem_nil, or_false] at hg; first | (subst hg; first | exact strict_row | exact strict_box) | (rcases hg with rfl | rfl <;> first | exact strict_row | exact strict_box) | (rcases hg with rfl | rfl | rfl <;> first | exact strict_row | exact strict_box))))) ?_
  rintro _ _ ⟨_, ⟨rfl, rfl⟩, rfl⟩
  refine oy rfl rfl (y_move rfl) ?_
  refine oy rfl rfl (y_extract rfl rfl) ?_
  refine oy rfl rfl (y_extract rfl rfl) ?_
  refine ot rfl rfl (t_alloc Try.zeroValue61) ?_
  rintro _ _ ⟨b148, rfl, rfl⟩
  refine ot rfl rfl (t_store 3 Try.sizeOf61 rfl rfl rfl rfl (by simp [Value.cells, boxP]) (by simp [Value.cells, Value.oneCell', boxP])) ?_
  rintro _ _ ⟨rfl, rfl⟩
  refine ops_turn (retell 3 (g := box b148 [.int .i64 r146.1.Site, .int .i64 r146.1.Version, .int .i64 r146.1.Serial]) rfl rfl) ?_
  refine oy rfl rfl (y_assign rfl) ?_
  refine ops_nil ?_
  refine goes_code ?_
  refine run_seq ?_
  refine run_weak [(21, boxP b106 0), (22, .int .i64 r102.2), (23, .int .i64 r115.2), (24, .int .i64 r121.2), (26, .int .i64 r127.2), (27, .int .i64 r134.2), (28, .int .i64 r140.2), (29, boxP b148 0), (30, .int .i64 r146.2)] [0, 1, 2, 3] [box b106 [.int .i64 r140.1.Base, .int .i64 r140.1.Done, .int .i64 r140.1.Serial, .bool r140.1.Stopped, v142, v143], nro v142 NC_L_int_35 r140.1.Stages, row v143 4 (r140.1.Orders.map S_api_Order.enc), box b148 [.int .i64 r146.1.Site, .int .i64 r146.1.Version, .int .i64 r146.1.Serial]] (qv9 rfl rfl rfl rfl rfl rfl rfl rfl rfl) (by decide) rfl ?_
  refine run_region' ?_
  refine oy rfl rfl (y_load_boxagg (c := [.int .i64 r140.1.Base, .int .i64 r140.1.Done, .int .i64 r140.1.Serial, .bool r140.1.Stopped, v142, v143]) 0 Try.isAgg59 Try.sizeOf59 rfl rfl rfl) ?_
  refine ops_turn (Go.Abs.freeze 2 rfl) ?_
  obtain ⟨r149, hr150, h⟩ := obind_some h
  refine ot rfl rfl (t_callx (vs := [.agg #[.int .i64 r140.1.Base, .int .i64 r140.1.Done, .int .i64 r140.1.Serial, .bool r140.1.Stopped, v142, v143]]) (cs := []) [(1, 0), (2, 0)] rfl Try.call29 rfl (topo_Retreat_ok n r140.1 v142 v143 hr150) (showsX_view 1 rfl views_nro (showsX_view 2 rfl views_ro showsX_nil)) rfl (.inl rfl)) ?_
  rintro _ _ ⟨_, ⟨v151, v152, rfl, rfl⟩, rfl⟩
  refine oy rfl rfl (y_move rfl) ?_
  refine oy rfl rfl (y_extract rfl rfl) ?_
  refine oy rfl rfl (y_extract rfl rfl) ?_
  refine ops_slcN 4 rfl readsN_ro (fun hs153 hs153o => ?_)
  refine ops_slc 5 rfl reads_row (fun hs154 hs154o => ?_)
  refine ot rfl rfl (t_store 0 Try.sizeOf59 rfl rfl rfl rfl (by simp [Value.cells, boxP]) (allL_cons rfl (allL_cons rfl (allL_cons rfl (allL_cons rfl (allL_cons hs153o (allL_cons hs154o (allL_nil)))))))) ?_
  rintro _ _ ⟨rfl, rfl⟩
  refine ops_turn (retell 0 (g := box b106 [.int .i64 r149.1.Base, .int .i64 r149.1.Done, .int .i64 r149.1.Serial, .bool r149.1.Stopped, v151, v152]) rfl rfl) ?_
  refine oy rfl rfl (y_assign rfl) ?_
  refine ops_nil ?_
  refine goes_code ?_
  refine run_seq ?_
  refine run_region' ?_
  refine oy rfl rfl (y_load_boxagg (c := [.int .i64 r149.1.Base, .int .i64 r149.1.Done, .int .i64 r149.1.Serial, .bool r149.1.Stopped, v151, v152]) 0 Try.isAgg59 Try.sizeOf59 rfl rfl rfl) ?_
  obtain ⟨r155, hr156, h⟩ := obind_some h
  refine ot rfl rfl (t_callx (vs := [.agg #[.int .i64 r149.1.Base, .int .i64 r149.1.Done, .int .i64 r149.1.Serial, .bool r149.1.Stopped, v151, v152], .int .i64 1]) (cs := []) [(4, 0), (5, 1)] rfl Try.call25 rfl (topo_OrderOf_ok n r149.1 1 v151 v152 hr156) (showsX_view 4 rfl views_nro (showsX_look 5 rfl views_row showsX_nil)) rfl (.inr (by rintro _ _ ⟨rfl, rfl⟩ g hg; first | (cases hg; done) | (simp only [List.mem_cons, List.not_mem_nil, or_false] at hg; first | (subst hg; first | exact strict_row | exact strict_box) | (rcases hg with rfl | rfl <;> first | exact strict_row | exact strict_box) | (rcases hg with rfl | rfl | rfl <;> first | exact strict_row | exact strict_box))))) ?_
  rintro _ _ ⟨_, ⟨rfl, rfl⟩, rfl⟩
  refine oy rfl rfl (y_move rfl) ?_
  refine oy rfl rfl (y_extract rfl rfl) ?_
  refine oy rfl rfl (y_extract rfl rfl) ?_
  refine ot rfl rfl (t_alloc Try.zeroValue61) ?_
  rintro _ _ ⟨b157, rfl, rfl⟩
  refine ot rfl rfl (t_store 6 Try.sizeOf61 rfl rfl rfl rfl (by simp [Value.cells, boxP]) (by simp [Value.cells, Value.oneCell', boxP])) ?_
  rintro _ _ ⟨rfl, rfl⟩
  refine ops_turn (retell 6 (g := box b157 [.int .i64 r155.1.Site, .int .i64 r155.1.Version, .int .i64 r155.1.Serial]) rfl rfl) ?_
  refine oy rfl rfl (y_assign rfl) ?_
  refine ops_nil ?_
  refine goes_code ?_
  refine run_seq ?_
  refine run_weak [(22, .int .i64 r102.2), (23, .int .i64 r115.2), (24, .int .i64 r121.2), (26, .int .i64 r127.2), (27, .int .i64 r134.2), (28, .int .i64 r140.2), (29, boxP b148 0), (30, .int .i64 r146.2), (31, .int .i64 r149.2), (32, boxP b157 0), (33, .int .i64 r155.2)] [3, 6] [box b148 [.int .i64 r146.1.Site, .int .i64 r146.1.Version, .int .i64 r146.1.Serial], box b157 [.int .i64 r155.1.Site, .int .i64 r155.1.Version, .int .i64 r155.1.Serial]] (qv11 rfl rfl rfl rfl rfl rfl rfl rfl rfl rfl rfl) (by decide) rfl ?_
  refine run_region' ?_
  refine oy rfl rfl (y_move rfl) ?_
  refine oy rfl rfl (y_eql rfl rfl) ?_
  refine oy rfl rfl (y_move rfl) ?_
  refine ops_cut 3 (Bool) (fun σ => [(24, .int .i64 r121.2), (26, .int .i64 r127.2), (27, .int .i64 r134.2), (28, .int .i64 r140.2), (29, boxP b148 0), (30, .int .i64 r146.2), (31, .int .i64 r149.2), (32, boxP b157 0), (33, .int .i64 r155.2), (203, .bool σ)]) (fun σ => [box b148 [.int .i64 r146.1.Site, .int .i64 r146.1.Version, .int .i64 r146.1.Serial], box b157 [.int .i64 r155.1.Site, .int .i64 r155.1.Version, .int .i64 r155.1.Serial]]) (fun σ => σ = (decide (r102.2 = 0) && decide (r115.2 = 0))) (fun L158 hL159 => ?_) ?_
  ·refine ops_split 200 (decide (r102.2 = 0)) rfl (fun hg160 => ?_) (fun hg160 => ?_)
   ·skip
    refine ops_y (wg 2 true 200 rfl rfl rfl rfl) rfl (y_move rfl) ?_
    refine ops_y (wg 2 true 200 rfl rfl rfl rfl) rfl (y_eql rfl rfl) ?_
    refine oy rfl rfl (y_pick (b := true) rfl rfl) ?_
    refine ops_nil ?_
    exact goes_cut hL159 (decide (r115.2 = 0)) [0, 1] (qv10 rfl rfl rfl rfl rfl rfl rfl rfl rfl rfl) (by decide) rfl (by rw [hg160]; simp)
   ·skip
    refine ops_no 2 true 200 rfl rfl rfl rfl rfl ?_
    refine ops_no 2 true 200 rfl rfl rfl rfl rfl ?_
    refine oy rfl rfl (y_pick (b := false) rfl rfl) ?_
    refine ops_nil ?_
    exact goes_cut hL159 false [0, 1] (qv10 rfl rfl rfl rfl rfl rfl rfl rfl rfl rfl) (by decide) rfl (by rw [hg160]; simp)
  rintro _ rfl
  refine oy rfl rfl (y_move rfl) ?_
  refine ops_cut 3 (Bool) (fun σ => [(26, .int .i64 r127.2), (27, .int .i64 r134.2), (28, .int .i64 r140.2), (29, boxP b148 0), (30, .int .i64 r146.2), (31, .int .i64 r149.2), (32, boxP b157 0), (33, .int .i64 r155.2), (207, .bool σ)]) (fun σ => [box b148 [.int .i64 r146.1.Site, .int .i64 r146.1.Version, .int .i64 r146.1.Serial], box b157 [.int .i64 r155.1.Site, .int .i64 r155.1.Version, .int .i64 r155.1.Serial]]) (fun σ => σ = ((decide (r102.2 = 0) && decide (r115.2 = 0)) && decide (r121.2 = 0))) (fun L161 hL162 => ?_) ?_
  ·refine ops_split 204 (decide (r102.2 = 0) && decide (r115.2 = 0)) rfl (fun hg163 => ?_) (fun hg163 => ?_)
   ·skip
    refine ops_y (wg 6 true 204 rfl rfl rfl rfl) rfl (y_move rfl) ?_
    refine ops_y (wg 6 true 204 rfl rfl rfl rfl) rfl (y_eql rfl rfl) ?_
    refine oy rfl rfl (y_pick (b := true) rfl rfl) ?_
    refine ops_nil ?_
    exact goes_cut hL162 (decide (r121.2 = 0)) [0, 1] (qv9 rfl rfl rfl rfl rfl rfl rfl rfl rfl) (by decide) rfl (by rw [hg163]; simp)
   ·skip
    refine ops_no 6 true 204 rfl rfl rfl rfl rfl ?_
    refine ops_no 6 true 204 rfl rfl rfl rfl rfl ?_
    refine oy rfl rfl (y_pick (b := false) rfl rfl) ?_
    refine ops_nil ?_
    exact goes_cut hL162 false [0, 1] (qv9 rfl rfl rfl rfl rfl rfl rfl rfl rfl) (by decide) rfl (by rw [hg163]; simp)
  rintro _ rfl
  refine oy rfl rfl (y_move rfl) ?_
  refine ops_cut 3 (Bool) (fun σ => [(27, .int .i64 r134.2), (28, .int .i64 r140.2), (29, boxP b148 0), (30, .int .i64 r146.2), (31, .int .i64 r149.2), (32, boxP b157 0), (33, .int .i64 r155.2), (211, .bool σ)]) (fun σ => [box b148 [.int .i64 r146.1.Site, .int .i64 r146.1.Version, .int .i64 r146.1.Serial], box b157 [.int .i64 r155.1.Site, .int .i64 r155.1.Version, .int .i64 r155.1.Serial]]) (fun σ => σ = (((decide (r102.2 = 0) && decide (r115.2 = 0)) && decide (r121.2 = 0)) && decide (r127.2 = 4))) (fun L164 hL165 => ?_) ?_
  ·refine ops_split 208 ((decide (r102.2 = 0) && decide (r115.2 = 0)) && decide (r121.2 = 0)) rfl (fun hg166 => ?_) (fun hg166 => ?_)
   ·skip
    refine ops_y (wg 10 true 208 rfl rfl rfl rfl) rfl (y_move rfl) ?_
    refine ops_y (wg 10 true 208 rfl rfl rfl rfl) rfl (y_eql rfl rfl) ?_
    refine oy rfl rfl (y_pick (b := true) rfl rfl) ?_
    refine ops_nil ?_
    exact goes_cut hL165 (decide (r127.2 = 4)) [0, 1] (qv8 rfl rfl rfl rfl rfl rfl rfl rfl) (by decide) rfl (by rw [hg166]; simp)
   ·skip
    refine ops_no 10 true 208 rfl rfl rfl rfl rfl ?_
    refine ops_no 10 true 208 rfl rfl rfl rfl rfl ?_
    refine oy rfl rfl (y_pick (b := false) rfl rfl) ?_
    refine ops_nil ?_
    exact goes_cut hL165 false [0, 1] (qv8 rfl rfl rfl rfl rfl rfl rfl rfl) (by decide) rfl (by rw [hg166]; simp)
  rintro _ rfl
  refine oy rfl rfl (y_move rfl) ?_
  refine ops_cut 3 (Bool) (fun σ => [(28, .int .i64 r140.2), (29, boxP b148 0), (30, .int .i64 r146.2), (31, .int .i64 r149.2), (32, boxP b157 0), (33, .int .i64 r155.2), (215, .bool σ)]) (fun σ => [box b148 [.int .i64 r146.1.Site, .int .i64 r146.1.Version, .int .i64 r146.1.Serial], box b157 [.int .i64 r155.1.Site, .int .i64 r155.1.Version, .int .i64 r155.1.Serial]]) (fun σ => σ = ((((decide (r102.2 = 0) && decide (r115.2 = 0)) && decide (r121.2 = 0)) && decide (r127.2 = 4)) && decide (r134.2 = 0))) (fun L167 hL168 => ?_) ?_
  ·refine ops_split 212 (((decide (r102.2 = 0) && decide (r115.2 = 0)) && decide (r121.2 = 0)) && decide (r127.2 = 4)) rfl (fun hg169 => ?_) (fun hg169 => ?_)
   ·skip
    refine ops_y (wg 14 true 212 rfl rfl rfl rfl) rfl (y_move rfl) ?_
    refine ops_y (wg 14 true 212 rfl rfl rfl rfl) rfl (y_eql rfl rfl) ?_
    refine oy rfl rfl (y_pick (b := true) rfl rfl) ?_
    refine ops_nil ?_
    exact goes_cut hL168 (decide (r134.2 = 0)) [0, 1] (qv7 rfl rfl rfl rfl rfl rfl rfl) (by decide) rfl (by rw [hg169]; simp)
   ·skip
    refine ops_no 14 true 212 rfl rfl rfl rfl rfl ?_
    refine ops_no 14 true 212 rfl rfl rfl rfl rfl ?_
    refine oy rfl rfl (y_pick (b := false) rfl rfl) ?_
    refine ops_nil ?_
    exact goes_cut hL168 false [0, 1] (qv7 rfl rfl rfl rfl rfl rfl rfl) (by decide) rfl (by rw [hg169]; simp)
  rintro _ rfl
  refine oy rfl rfl (y_move rfl) ?_
  refine ops_cut 3 (Bool) (fun σ => [(29, boxP b148 0), (30, .int .i64 r146.2), (31, .int .i64 r149.2), (32, boxP b157 0), (33, .int .i64 r155.2), (219, .bool σ)]) (fun σ => [box b148 [.int .i64 r146.1.Site, .int .i64 r146.1.Version, .int .i64 r146.1.Serial], box b157 [.int .i64 r155.1.Site, .int .i64 r155.1.Version, .int .i64 r155.1.Serial]]) (fun σ => σ = (((((decide (r102.2 = 0) && decide (r115.2 = 0)) && decide (r121.2 = 0)) && decide (r127.2 = 4)) && decide (r134.2 = 0)) && decide (r140.2 = 0))) (fun L170 hL171 => ?_) ?_
  ·refine ops_split 216 ((((decide (r102.2 = 0) && decide (r115.2 = 0)) && decide (r121.2 = 0)) && decide (r127.2 = 4)) && decide (r134.2 = 0)) rfl (fun hg172 => ?_) (fun hg172 => ?_)
   ·skip
    refine ops_y (wg 18 true 216 rfl rfl rfl rfl) rfl (y_move rfl) ?_
    refine ops_y (wg 18 true 216 rfl rfl rfl rfl) rfl (y_eql rfl rfl) ?_
    refine oy rfl rfl (y_pick (b := true) rfl rfl) ?_
    refine ops_nil ?_
    exact goes_cut hL171 (decide (r140.2 = 0)) [0, 1] (qv6 rfl rfl rfl rfl rfl rfl) (by decide) rfl (by rw [hg172]; simp)
   ·skip
    refine ops_no 18 true 216 rfl rfl rfl rfl rfl ?_
    refine ops_no 18 true 216 rfl rfl rfl rfl rfl ?_
    refine oy rfl rfl (y_pick (b := false) rfl rfl) ?_
    refine ops_nil ?_
    exact goes_cut hL171 false [0, 1] (qv6 rfl rfl rfl rfl rfl rfl) (by decide) rfl (by rw [hg172]; simp)
  rintro _ rfl
  refine oy rfl rfl (y_move rfl) ?_
  refine ops_cut 3 (Bool) (fun σ => [(29, boxP b148 0), (31, .int .i64 r149.2), (32, boxP b157 0), (33, .int .i64 r155.2), (223, .bool σ)]) (fun σ => [box b148 [.int .i64 r146.1.Site, .int .i64 r146.1.Version, .int .i64 r146.1.Serial], box b157 [.int .i64 r155.1.Site, .int .i64 r155.1.Version, .int .i64 r155.1.Serial]]) (fun σ => σ = ((((((decide (r102.2 = 0) && decide (r115.2 = 0)) && decide (r121.2 = 0)) && decide (r127.2 = 4)) && decide (r134.2 = 0)) && decide (r140.2 = 0)) && decide (r146.2 = 0))) (fun L173 hL174 => ?_) ?_
  ·refine ops_split 220 (((((decide (r102.2 = 0) && decide (r115.2 = 0)) && decide (r121.2 = 0)) && decide (r127.2 = 4)) && decide (r134.2 = 0)) && decide (r140.2 = 0)) rfl (fun hg175 => ?_) (fun hg175 => ?_)
   ·skip
    refine ops_y (wg 22 true 220 rfl rfl rfl rfl) rfl (y_move rfl) ?_
    refine ops_y (wg 22 true 220 rfl rfl rfl rfl) rfl (y_eql rfl rfl) ?_
    refine oy rfl rfl (y_pick (b := true) rfl rfl) ?_
    refine ops_nil ?_
    exact goes_cut hL174 (decide (r146.2 = 0)) [0, 1] (qv5 rfl rfl rfl rfl rfl) (by decide) rfl (by rw [hg175]; simp)
   ·skip
    refine ops_no 22 true 220 rfl rfl rfl rfl rfl ?_
    refine ops_no 22 true 220 rfl rfl rfl rfl rfl ?_
    refine oy rfl rfl (y_pick (b := false) rfl rfl) ?_
    refine ops_nil ?_
    exact goes_cut hL174 false [0, 1] (qv5 rfl rfl rfl rfl rfl) (by decide) rfl (by rw [hg175]; simp)
  rintro _ rfl
  refine oy rfl rfl (y_move rfl) ?_
  refine ops_cut 3 (Bool) (fun σ => [(29, boxP b148 0), (32, boxP b157 0), (33, .int .i64 r155.2), (227, .bool σ)]) (fun σ => [box b148 [.int .i64 r146.1.Site, .int .i64 r146.1.Version, .int .i64 r146.1.Serial], box b157 [.int .i64 r155.1.Site, .int .i64 r155.1.Version, .int .i64 r155.1.Serial]]) (fun σ => σ = (((((((decide (r102.2 = 0) && decide (r115.2 = 0)) && decide (r121.2 = 0)) && decide (r127.2 = 4)) && decide (r134.2 = 0)) && decide (r140.2 = 0)) && decide (r146.2 = 0)) && decide (r149.2 = 0))) (fun L176 hL177 => ?_) ?_
  ·refine ops_split 224 ((((((decide (r102.2 = 0) && decide (r115.2 = 0)) && decide (r121.2 = 0)) && decide (r127.2 = 4)) && decide (r134.2 = 0)) && decide (r140.2 = 0)) && decide (r146.2 = 0)) rfl (fun hg178 => ?_) (fun hg178 => ?_)
   ·skip
    refine ops_y (wg 26 true 224 rfl rfl rfl rfl) rfl (y_move rfl) ?_
    refine ops_y (wg 26 true 224 rfl rfl rfl rfl) rfl (y_eql rfl rfl) ?_
    refine oy rfl rfl (y_pick (b := true) rfl rfl) ?_
    refine ops_nil ?_
    exact goes_cut hL177 (decide (r149.2 = 0)) [0, 1] (qv4 rfl rfl rfl rfl) (by decide) rfl (by rw [hg178]; simp)
   ·skip
    refine ops_no 26 true 224 rfl rfl rfl rfl rfl ?_
    refine ops_no 26 true 224 rfl rfl rfl rfl rfl ?_
    refine oy rfl rfl (y_pick (b := false) rfl rfl) ?_
    refine ops_nil ?_
    exact goes_cut hL177 false [0, 1] (qv4 rfl rfl rfl rfl) (by decide) rfl (by rw [hg178]; simp)
  rintro _ rfl
  refine oy rfl rfl (y_move rfl) ?_
  refine ops_cut 3 (Bool) (fun σ => [(29, boxP b148 0), (32, boxP b157 0), (231, .bool σ)]) (fun σ => [box b148 [.int .i64 r146.1.Site, .int .i64 r146.1.Version, .int .i64 r146.1.Serial], box b157 [.int .i64 r155.1.Site, .int .i64 r155.1.Version, .int .i64 r155.1.Serial]]) (fun σ => σ = ((((((((decide (r102.2 = 0) && decide (r115.2 = 0)) && decide (r121.2 = 0)) && decide (r127.2 = 4)) && decide (r134.2 = 0)) && decide (r140.2 = 0)) && decide (r146.2 = 0)) && decide (r149.2 = 0)) && decide (r155.2 = 0))) (fun L179 hL180 => ?_) ?_
  ·refine ops_split 228 (((((((decide (r102.2 = 0) && decide (r115.2 = 0)) && decide (r121.2 = 0)) && decide (r127.2 = 4)) && decide (r134.2 = 0)) && decide (r140.2 = 0)) && decide (r146.2 = 0)) && decide (r149.2 = 0)) rfl (fun hg181 => ?_) (fun hg181 => ?_)
   ·skip
    refine ops_y (wg 30 true 228 rfl rfl rfl rfl) rfl (y_move rfl) ?_
    refine ops_y (wg 30 true 228 rfl rfl rfl rfl) rfl (y_eql rfl rfl) ?_
    refine oy rfl rfl (y_pick (b := true) rfl rfl) ?_
    refine ops_nil ?_
    exact goes_cut hL180 (decide (r155.2 = 0)) [0, 1] (qv3 rfl rfl rfl) (by decide) rfl (by rw [hg181]; simp)
   ·skip
    refine ops_no 30 true 228 rfl rfl rfl rfl rfl ?_
    refine ops_no 30 true 228 rfl rfl rfl rfl rfl ?_
    refine oy rfl rfl (y_pick (b := false) rfl rfl) ?_
    refine ops_nil ?_
    exact goes_cut hL180 false [0, 1] (qv3 rfl rfl rfl) (by decide) rfl (by rw [hg181]; simp)
  rintro _ rfl
  refine oy rfl rfl (y_assign rfl) ?_
  refine ops_nil ?_
  refine goes_code ?_
  refine run_seq ?_
  refine run_drawany [box b148 [.int .i64 r146.1.Site, .int .i64 r146.1.Version, .int .i64 r146.1.Serial], box b157 [.int .i64 r155.1.Site, .int .i64 r155.1.Version, .int .i64 r155.1.Serial]] (by kernel_rfl) ?_
  refine any_y 0 rfl (by kernel_rfl) (by kernel_rfl) (by kernel_rfl) (ss (ss (sn))) (wn rfl) rfl (y_move rfl) ?_
  refine any_y 1 rfl (by kernel_rfl) (by kernel_rfl) (by kernel_rfl) (ss (ss (sn))) (wn rfl) rfl (y_move rfl) ?_
  refine any_cut #[true, true, true, true, true, true, false, false, false, false, false, false, false, false, false, false, false, false, false] 13 Bool (fun σ => [(32, boxP b157 0), (237, .bool σ)]) (fun σ => [box b148 [.int .i64 r146.1.Site, .int .i64 r146.1.Version, .int .i64 r146.1.Serial], box b157 [.int .i64 r155.1.Site, .int .i64 r155.1.Version, .int .i64 r155.1.Serial]]) (fun σ => σ = (((((((((decide (r102.2 = 0) && decide (r115.2 = 0)) && decide (r121.2 = 0)) && decide (r127.2 = 4)) && decide (r134.2 = 0)) && decide (r140.2 = 0)) && decide (r146.2 = 0)) && decide (r149.2 = 0)) && decide (r155.2 = 0)) && (decide (r146.1.Site = 2) && (decide (r146.1.Version = 8) && (decide (r146.1.Serial = 2)))))) (fun hL183 => ?_) ?_
  ·refine any_split 233 ((((((((decide (r102.2 = 0) && decide (r115.2 = 0)) && decide (r121.2 = 0)) && decide (r127.2 = 4)) && decide (r134.2 = 0)) && decide (r140.2 = 0)) && decide (r146.2 = 0)) && decide (r149.2 = 0)) && decide (r155.2 = 0)) rfl (fun hg184 => ?_) (fun hg184 => ?_)
   ·skip
    refine any_y 2 rfl (by kernel_rfl) (by kernel_rfl) (by kernel_rfl) (ss (ss (sn))) (wg 1 true 233 rfl rfl rfl rfl) rfl (y_load_boxagg (c := [.int .i64 r146.1.Site, .int .i64 r146.1.Version, .int .i64 r146.1.Serial]) 0 Try.isAgg61 Try.sizeOf61 rfl rfl rfl) ?_
    refine any_y 3 rfl (by kernel_rfl) (by kernel_rfl) (by kernel_rfl) (ss (ss (sn))) (wg 1 true 233 rfl rfl rfl rfl) rfl (y_build_struct (cells := #[.int .i64 2, .int .i64 8, .int .i64 2]) [(0, .int .i64 2), (1, .int .i64 8), (2, .int .i64 2)] [(0, [.int .i64 2]), (1, [.int .i64 8]), (2, [.int .i64 2])] Try.zeroValue61 Try.runUnderlying61 (fs_cons Try.sizeOf3 (fs_cons Try.sizeOf3 (fs_cons Try.sizeOf3 fs_nil))) rfl rfl rfl) ?_
    refine any_y 4 rfl (by kernel_rfl) (by kernel_rfl) (by kernel_rfl) (ss (ss (sn))) (wg 1 true 233 rfl rfl rfl rfl) rfl (y_eqS (by kernel_rfl) (by kernel_rfl) Try.runUnderlying61 rfl rfl (.cons (eqf_int (by decide) Try.runUnderlying3 Try.isAgg3 rfl rfl) (.cons (eqf_int (by decide) Try.runUnderlying3 Try.isAgg3 rfl rfl) (.cons (eqf_int (by decide) Try.runUnderlying3 Try.isAgg3 rfl rfl) EqFs.nil)))) ?_
    refine any_y 5 rfl (by kernel_rfl) (by kernel_rfl) (by kernel_rfl) (ss (ss (sn))) (wn rfl) rfl (y_pick (b := true) rfl rfl) ?_
    exact any_weak [(32, boxP b157 0), (237, .bool (decide (r146.1.Site = 2) && (decide (r146.1.Version = 8) && (decide (r146.1.Serial = 2)))))] [0, 1] [box b148 [.int .i64 r146.1.Site, .int .i64 r146.1.Version, .int .i64 r146.1.Serial], box b157 [.int .i64 r155.1.Site, .int .i64 r155.1.Version, .int .i64 r155.1.Serial]] (by kernel_rfl) (qv2 rfl rfl) (by decide) rfl (hL183 (decide (r146.1.Site = 2) && (decide (r146.1.Version = 8) && (decide (r146.1.Serial = 2)))) (by rw [hg184]; simp))
   ·skip
    refine any_no 2 rfl (by kernel_rfl) (by kernel_rfl) (by kernel_rfl) (ss (ss (sn))) 1 true 233 rfl rfl rfl rfl rfl ?_
    refine any_no 3 rfl (by kernel_rfl) (by kernel_rfl) (by kernel_rfl) (ss (ss (sn))) 1 true 233 rfl rfl rfl rfl rfl ?_
    refine any_no 4 rfl (by kernel_rfl) (by kernel_rfl) (by kernel_rfl) (ss (ss (sn))) 1 true 233 rfl rfl rfl rfl rfl ?_
    refine any_y 5 rfl (by kernel_rfl) (by kernel_rfl) (by kernel_rfl) (ss (ss (sn))) (wn rfl) rfl (y_pick (b := false) rfl rfl) ?_
    exact any_weak [(32, boxP b157 0), (237, .bool false)] [0, 1] [box b148 [.int .i64 r146.1.Site, .int .i64 r146.1.Version, .int .i64 r146.1.Serial], box b157 [.int .i64 r155.1.Site, .int .i64 r155.1.Version, .int .i64 r155.1.Serial]] (by kernel_rfl) (qv2 rfl rfl) (by decide) rfl (hL183 false (by rw [hg184]; simp))
  rintro _ rfl
  refine any_y 6 rfl (by kernel_rfl) (by kernel_rfl) (by kernel_rfl) (ss (ss (sn))) (wn rfl) rfl (y_move rfl) ?_
  refine any_cut #[true, true, true, true, true, true, true, true, true, true, true, false, false, false, false, false, false, false, false] 8 Bool (fun σ => [(32, boxP b157 0), (242, .bool σ)]) (fun σ => [box b148 [.int .i64 r146.1.Site, .int .i64 r146.1.Version, .int .i64 r146.1.Serial], box b157 [.int .i64 r155.1.Site, .int .i64 r155.1.Version, .int .i64 r155.1.Serial]]) (fun σ => σ = ((((((((((decide (r102.2 = 0) && decide (r115.2 = 0)) && decide (r121.2 = 0)) && decide (r127.2 = 4)) && decide (r134.2 = 0)) && decide (r140.2 = 0)) && decide (r146.2 = 0)) && decide (r149.2 = 0)) && decide (r155.2 = 0)) && (decide (r146.1.Site = 2) && (decide (r146.1.Version = 8) && (decide (r146.1.Serial = 2))))) && (decide (r155.1.Site = 1) && (decide (r155.1.Version = 7) && (decide (r155.1.Serial = 3)))))) (fun hL186 => ?_) ?_
  ·refine any_split 238 (((((((((decide (r102.2 = 0) && decide (r115.2 = 0)) && decide (r121.2 = 0)) && decide (r127.2 = 4)) && decide (r134.2 = 0)) && decide (r140.2 = 0)) && decide (r146.2 = 0)) && decide (r149.2 = 0)) && decide (r155.2 = 0)) && (decide (r146.1.Site = 2) && (decide (r146.1.Version = 8) && (decide (r146.1.Serial = 2))))) rfl (fun hg187 => ?_) (fun hg187 => ?_)
   ·skip
    refine any_y 7 rfl (by kernel_rfl) (by kernel_rfl) (by kernel_rfl) (ss (ss (sn))) (wg 6 true 238 rfl rfl rfl rfl) rfl (y_load_boxagg (c := [.int .i64 r155.1.Site, .int .i64 r155.1.Version, .int .i64 r155.1.Serial]) 1 Try.isAgg61 Try.sizeOf61 rfl rfl rfl) ?_
    refine any_y 8 rfl (by kernel_rfl) (by kernel_rfl) (by kernel_rfl) (ss (ss (sn))) (wg 6 true 238 rfl rfl rfl rfl) rfl (y_build_struct (cells := #[.int .i64 1, .int .i64 7, .int .i64 3]) [(0, .int .i64 1), (1, .int .i64 7), (2, .int .i64 3)] [(0, [.int .i64 1]), (1, [.int .i64 7]), (2, [.int .i64 3])] Try.zeroValue61 Try.runUnderlying61 (fs_cons Try.sizeOf3 (fs_cons Try.sizeOf3 (fs_cons Try.sizeOf3 fs_nil))) rfl rfl rfl) ?_
    refine any_y 9 rfl (by kernel_rfl) (by kernel_rfl) (by kernel_rfl) (ss (ss (sn))) (wg 6 true 238 rfl rfl rfl rfl) rfl (y_eqS (by kernel_rfl) (by kernel_rfl) Try.runUnderlying61 rfl rfl (.cons (eqf_int (by decide) Try.runUnderlying3 Try.isAgg3 rfl rfl) (.cons (eqf_int (by decide) Try.runUnderlying3 Try.isAgg3 rfl rfl) (.cons (eqf_int (by decide) Try.runUnderlying3 Try.isAgg3 rfl rfl) EqFs.nil)))) ?_
    refine any_y 10 rfl (by kernel_rfl) (by kernel_rfl) (by kernel_rfl) (ss (ss (sn))) (wn rfl) rfl (y_pick (b := true) rfl rfl) ?_
    exact any_weak [(32, boxP b157 0), (242, .bool (decide (r155.1.Site = 1) && (decide (r155.1.Version = 7) && (decide (r155.1.Serial = 3)))))] [0, 1] [box b148 [.int .i64 r146.1.Site, .int .i64 r146.1.Version, .int .i64 r146.1.Serial], box b157 [.int .i64 r155.1.Site, .int .i64 r155.1.Version, .int .i64 r155.1.Serial]] (by kernel_rfl) (qv2 rfl rfl) (by decide) rfl (hL186 (decide (r155.1.Site = 1) && (decide (r155.1.Version = 7) && (decide (r155.1.Serial = 3)))) (by rw [hg187]; simp))
   ·skip
    refine any_no 7 rfl (by kernel_rfl) (by kernel_rfl) (by kernel_rfl) (ss (ss (sn))) 6 true 238 rfl rfl rfl rfl rfl ?_
    refine any_no 8 rfl (by kernel_rfl) (by kernel_rfl) (by kernel_rfl) (ss (ss (sn))) 6 true 238 rfl rfl rfl rfl rfl ?_
    refine any_no 9 rfl (by kernel_rfl) (by kernel_rfl) (by kernel_rfl) (ss (ss (sn))) 6 true 238 rfl rfl rfl rfl rfl ?_
    refine any_y 10 rfl (by kernel_rfl) (by kernel_rfl) (by kernel_rfl) (ss (ss (sn))) (wn rfl) rfl (y_pick (b := false) rfl rfl) ?_
    exact any_weak [(32, boxP b157 0), (242, .bool false)] [0, 1] [box b148 [.int .i64 r146.1.Site, .int .i64 r146.1.Version, .int .i64 r146.1.Serial], box b157 [.int .i64 r155.1.Site, .int .i64 r155.1.Version, .int .i64 r155.1.Serial]] (by kernel_rfl) (qv2 rfl rfl) (by decide) rfl (hL186 false (by rw [hg187]; simp))
  rintro _ rfl
  refine any_y 11 rfl (by kernel_rfl) (by kernel_rfl) (by kernel_rfl) (ss (ss (sn))) (wn rfl) rfl (y_move rfl) ?_
  obtain ⟨o189, h, ho190⟩ := bindJ_some h
  refine any_cut #[true, true, true, true, true, true, true, true, true, true, true, true, true, true, true, true, true, true, false] 1 Bool (fun σ => [(249, .bool σ)]) (fun σ => [box b148 [.int .i64 r146.1.Site, .int .i64 r146.1.Version, .int .i64 r146.1.Serial], box b157 [.int .i64 r155.1.Site, .int .i64 r155.1.Version, .int .i64 r155.1.Serial]]) (fun σ => o189 = .go σ) (fun hL192 => ?_) ?_
  ·refine any_split 243 ((((((((((decide (r102.2 = 0) && decide (r115.2 = 0)) && decide (r121.2 = 0)) && decide (r127.2 = 4)) && decide (r134.2 = 0)) && decide (r140.2 = 0)) && decide (r146.2 = 0)) && decide (r149.2 = 0)) && decide (r155.2 = 0)) && (decide (r146.1.Site = 2) && (decide (r146.1.Version = 8) && (decide (r146.1.Serial = 2))))) && (decide (r155.1.Site = 1) && (decide (r155.1.Version = 7) && (decide (r155.1.Serial = 3))))) rfl (fun hg193 => ?_) (fun hg193 => ?_)
   ·replace h := cond_t h hg193
    refine any_y 12 rfl (by kernel_rfl) (by kernel_rfl) (by kernel_rfl) (ss (ss (sn))) (wg 11 true 243 rfl rfl rfl rfl) rfl (y_build_struct (cells := #[.int .i64 1, .int .i64 7, .int .i64 0]) [(0, .int .i64 1), (1, .int .i64 7)] [(0, [.int .i64 1]), (1, [.int .i64 7])] Try.zeroValue61 Try.runUnderlying61 (fs_cons Try.sizeOf3 (fs_cons Try.sizeOf3 (fs_cons Try.sizeOf3 fs_nil))) rfl rfl rfl) ?_
    refine any_y 13 rfl (by kernel_rfl) (by kernel_rfl) (by kernel_rfl) (ss (ss (sn))) (wg 11 true 243 rfl rfl rfl rfl) rfl (y_load_boxagg (c := [.int .i64 r155.1.Site, .int .i64 r155.1.Version, .int .i64 r155.1.Serial]) 1 Try.isAgg61 Try.sizeOf61 rfl rfl rfl) ?_
    refine any_y 15 rfl (by kernel_rfl) (by kernel_rfl) (by kernel_rfl) (ss (ss (sn))) (wg 11 true 243 rfl rfl rfl rfl) rfl (y_load_boxagg (c := [.int .i64 r155.1.Site, .int .i64 r155.1.Version, .int .i64 r155.1.Serial]) 1 Try.isAgg61 Try.sizeOf61 rfl rfl rfl) ?_
    refine any_all [14] (by kernel_rfl) rfl (anyo_cons ?_ anyo_nil)
    obtain ⟨r194, hr195, h⟩ := obind_some h
    refine any_t rfl (wg 11 true 243 rfl rfl rfl rfl) rfl (t_callx (vs := [.agg #[.int .i64 1, .int .i64 7, .int .i64 0], .agg #[.int .i64 r155.1.Site, .int .i64 r155.1.Version, .int .i64 r155.1.Serial]]) (cs := []) [] rfl Try.call26 rfl (topo_Apply_ok (S_api_Node.mk 1 7 0) r155.1  hr195) showsX_nil rfl (.inl rfl)) ?_
    rintro _ _ ⟨_, ⟨rfl, rfl⟩, rfl⟩
    refine ⟨(ss (ss (sn))), ?_⟩
    refine any_y 16 rfl (by kernel_rfl) (by kernel_rfl) (by kernel_rfl) (ss (ss (sn))) (wg 11 true 243 rfl rfl rfl rfl) rfl (y_eqS (by kernel_rfl) (by kernel_rfl) Try.runUnderlying61 rfl rfl (.cons (eqf_int (by decide) Try.runUnderlying3 Try.isAgg3 rfl rfl) (.cons (eqf_int (by decide) Try.runUnderlying3 Try.isAgg3 rfl rfl) (.cons (eqf_int (by decide) Try.runUnderlying3 Try.isAgg3 rfl rfl) EqFs.nil)))) ?_
    refine any_y 17 rfl (by kernel_rfl) (by kernel_rfl) (by kernel_rfl) (ss (ss (sn))) (wn rfl) rfl (y_pick (b := true) rfl rfl) ?_
    obtain rfl := some_eq h
    exact any_weak [(249, .bool (decide (r194.Site = r155.1.Site) && (decide (r194.Version = r155.1.Version) && (decide (r194.Serial = r155.1.Serial)))))] [0, 1] [box b148 [.int .i64 r146.1.Site, .int .i64 r146.1.Version, .int .i64 r146.1.Serial], box b157 [.int .i64 r155.1.Site, .int .i64 r155.1.Version, .int .i64 r155.1.Serial]] (by kernel_rfl) (qv1 rfl) (by decide) rfl (hL192 (decide (r194.Site = r155.1.Site) && (decide (r194.Version = r155.1.Version) && (decide (r194.Serial = r155.1.Serial)))) rfl)
   ·replace h := cond_f h hg193
    refine any_no 12 rfl (by kernel_rfl) (by kernel_rfl) (by kernel_rfl) (ss (ss (sn))) 11 true 243 rfl rfl rfl rfl rfl ?_
    refine any_no 13 rfl (by kernel_rfl) (by kernel_rfl) (by kernel_rfl) (ss (ss (sn))) 11 true 243 rfl rfl rfl rfl rfl ?_
    refine any_no 15 rfl (by kernel_rfl) (by kernel_rfl) (by kernel_rfl) (ss (ss (sn))) 11 true 243 rfl rfl rfl rfl rfl ?_
    refine any_no 14 rfl (by kernel_rfl) (by kernel_rfl) (by kernel_rfl) (ss (ss (sn))) 11 true 243 rfl rfl rfl rfl rfl ?_
    refine any_no 16 rfl (by kernel_rfl) (by kernel_rfl) (by kernel_rfl) (ss (ss (sn))) 11 true 243 rfl rfl rfl rfl rfl ?_
    refine any_y 17 rfl (by kernel_rfl) (by kernel_rfl) (by kernel_rfl) (ss (ss (sn))) (wn rfl) rfl (y_pick (b := false) rfl rfl) ?_
    obtain rfl := some_eq h
    exact any_weak [(249, .bool false)] [0, 1] [box b148 [.int .i64 r146.1.Site, .int .i64 r146.1.Version, .int .i64 r146.1.Serial], box b157 [.int .i64 r155.1.Site, .int .i64 r155.1.Version, .int .i64 r155.1.Serial]] (by kernel_rfl) (qv1 rfl) (by decide) rfl (hL192 false rfl)
  rintro b188 hj
  obtain rfl : o189 = _ := hj
  replace h := after_go ho190
  clear ho190
  refine any_y 18 rfl (by kernel_rfl) (by kernel_rfl) (by kernel_rfl) (ss (ss (sn))) (wn rfl) rfl (y_assign rfl) ?_
  refine any_nil (by kernel_rfl) ?_
  refine goes_code ?_
  refine run_ret ?_
  obtain rfl := some_eq h
  refine fin_slots [0] [.bool b188] [] [] Try.results8 rfl (by decide) rfl ?_
  exact ⟨rfl, rfl⟩

end Go.Proofs.Ytigiikkenamneaa
