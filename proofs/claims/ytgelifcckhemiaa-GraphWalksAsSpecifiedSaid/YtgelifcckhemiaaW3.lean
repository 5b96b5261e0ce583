/-
  The law GraphWalksAsSpecified, lifted.
-/
import Derived.Test.YtgelifcckhemiaaG3a
namespace Go.Proofs.Ytgelifcckhemiaa
open Go.Abs
set_option linter.unusedVariables false
set_option linter.unusedSimpArgs false
set_option maxRecDepth 20000
set_option maxHeartbeats 4000000


def law09_GraphWalksAsSpecified_L1 (r7 : (List Bool) × Int) (r17 : S_ref09_Flags) : (Int) → Option (Lp (Int) (Lp (Unit) (Bool))) :=
 fun i_69 =>
  cond (decide (i_69 < (r7.1.length : Int)))
   (idx r7.1 i_69 fun x75 =>
   idx r17.L i_69 fun x76 =>
   cond (!(x75 == x76))
    (some (.stop (.stop false)))
    (some (.go (IntKind.i64.wrap (i_69 + 1)))))
   (some (.stop (.go ())))
def law09_GraphWalksAsSpecified (n : Nat) (n_0 : S_api_Net) (from_1 : Int) : Option (Bool) :=
 obind (law09_few n_0) fun r2 =>
 cond (!r2)
  (obind (law09_sanity n) fun r5 =>
  some r5)
  (obind (graph_Reach n n_0 from_1) fun r7 =>
  obind (graph_Parts n n_0) fun r10 =>
  obind (graph_Order n n_0) fun r13 =>
  obind (ref09_Reach n n_0 from_1) fun r17 =>
  obind (ref09_Parts n n_0) fun r22 =>
  obind (ref09_Order n n_0) fun r27 =>
  obind (graph_Valid n n_0) fun r32 =>
  obind (ref09_Valid n n_0) fun r34 =>
  bindJ (S := Bool)
   (cond ((((!(r32 == r34)) || decide (r7.2 ≠ r17.E)) || decide ((r7.1.length : Int) ≠ (r17.L.length : Int))) || decide (r10.2 ≠ r22.E))
    (some (.go true))
    (obind (ref09_SameSets n r10.1 r22.L) fun r51 =>
    some (.go (!r51))))
  (fun b45 =>
   bindJ (S := Bool)
    (cond (b45 || decide (r13.2.2 ≠ r27.E))
     (some (.go true))
     (obind (ref09_Same n r13.1 r27.L) fun r62 =>
     some (.go (!r62))))
   (fun b56 =>
    cond b56
     (some false)
     (bindJ (S := Unit)
      (iter (law09_GraphWalksAsSpecified_L1 r7 r17) n 0)
     (fun _ =>
      cond (decide (r13.2.2 ≠ 0) || r27.Is)
       (obind (law09_sanity n) fun r82 =>
       some (r82 && decide ((r13.2.1.length : Int) = 0)))
       (obind (law09_sanity n) fun r87 =>
       bindJ (S := Bool)
        (cond r87
         (obind (ref09_Cycle n n_0 r13.2.1) fun r95 =>
         some (.go r95))
         (some (.go false)))
       (fun b89 =>
        some b89)))))))
theorem law09_GraphWalksAsSpecified_ok (n : Nat) (n_0 : S_api_Net) (from_1 : Int) (n_0_Arcsv : Value) {r : Bool} (h : law09_GraphWalksAsSpecified n n_0 from_1 = some r) :
  Meets Try.prog 3 [.agg #[.int .i64 n_0.Nodes, n_0_Arcsv], .int .i64 from_1] [ro n_0_Arcsv 4 (n_0.Arcs.map S_api_Arc.enc)] (fun v G => v = .bool r ∧ G = []) := by
 refine fn_of_run Try.func3 rfl Try.ntmps3 rfl (fun w0 o0 => ?_)
 refine run_seq ?_
 refine run_region' ?_
 refine ot rfl rfl (t_box rfl) ?_
 rintro _ _ ⟨b1, rfl, rfl⟩
 refine oy rfl rfl (y_assign rfl) ?_
 refine ops_nil ?_
 refine goes_code ?_
 refine run_seq ?_
 refine run_seq ?_
 refine run_region' ?_
 refine oy rfl rfl (y_load_boxagg (c := [.int .i64 n_0.Nodes, n_0_Arcsv]) 1 Try.isAgg24 Try.sizeOf24 rfl rfl rfl) ?_
 obtain ⟨r2, hr3, h⟩ := obind_some h
 refine ot rfl rfl (t_callx (vs := [.agg #[.int .i64 n_0.Nodes, n_0_Arcsv]]) (cs := []) [(0, 0)] rfl Try.call9 rfl (law09_few_ok n_0 n_0_Arcsv hr3) (showsX_view 0 rfl views_ro showsX_nil) rfl (.inl rfl)) ?_
 rintro _ _ ⟨_, ⟨rfl, rfl⟩, rfl⟩
 refine oy rfl rfl (y_not rfl) ?_
 refine ops_nil ?_
 refine goes_code ?_
 refine run_cond (!r2) rfl (fun hc4 => ?_) (fun hc4 => ?_)
 ·replace h := cond_t h hc4
  refine run_seq ?_
  refine run_region' ?_
  obtain ⟨r5, hr6, h⟩ := obind_some h
  refine ot rfl rfl (t_callx (vs := []) (cs := []) [] rfl Try.call10 rfl (law09_sanity_ok n   hr6) showsX_nil rfl (.inl rfl)) ?_
  rintro _ _ ⟨_, ⟨rfl, rfl⟩, rfl⟩
  refine oy rfl rfl (y_assign rfl) ?_
  refine ops_nil ?_
  refine goes_code ?_
  refine run_ret ?_
  obtain rfl := some_eq h
  refine fin_slots [4] [.bool r5] [] [] Try.results3 rfl (by decide) rfl ?_
  exact ⟨rfl, rfl⟩
 ·replace h := cond_f h hc4
  refine run_skip ?_
  refine goes_code ?_
  refine run_seq ?_
  refine run_region' ?_
  refine oy rfl rfl (y_load_boxagg (c := [.int .i64 n_0.Nodes, n_0_Arcsv]) 1 Try.isAgg24 Try.sizeOf24 rfl rfl rfl) ?_
  refine oy rfl rfl (y_move rfl) ?_
  obtain ⟨r7, hr8, h⟩ := obind_some h
  refine ot rfl rfl (t_callx (vs := [.agg #[.int .i64 n_0.Nodes, n_0_Arcsv], .int .i64 from_1]) (cs := []) [(0, 0)] rfl Try.call11 rfl (graph_Reach_ok n n_0 from_1 n_0_Arcsv hr8) (showsX_view 0 rfl views_ro showsX_nil) rfl (.inl rfl)) ?_
  rintro _ _ ⟨_, ⟨v9, rfl, rfl⟩, rfl⟩
  refine oy rfl rfl (y_move rfl) ?_
  refine oy rfl rfl (y_extract rfl rfl) ?_
  refine oy rfl rfl (y_extract rfl rfl) ?_
  refine oy rfl rfl (y_assign rfl) ?_
  refine oy rfl rfl (y_assign rfl) ?_
  refine ops_nil ?_
  refine goes_code ?_
  refine run_seq ?_
  refine run_weak [(1, .int .i64 from_1), (2, boxP b1 0), (5, v9), (6, .int .i64 r7.2)] [0, 1, 2] [ro n_0_Arcsv 4 (n_0.Arcs.map S_api_Arc.enc), box b1 [.int .i64 n_0.Nodes, n_0_Arcsv], row v9 1 (r7.1.map eBool)] (vcons rfl (vcons rfl (vcons rfl (vcons rfl (vnil))))) (by decide) rfl ?_
  refine run_region' ?_
  refine oy rfl rfl (y_load_boxagg (c := [.int .i64 n_0.Nodes, n_0_Arcsv]) 1 Try.isAgg24 Try.sizeOf24 rfl rfl rfl) ?_
  obtain ⟨r10, hr11, h⟩ := obind_some h
  refine ot rfl rfl (t_callx (vs := [.agg #[.int .i64 n_0.Nodes, n_0_Arcsv]]) (cs := []) [(0, 0)] rfl Try.call12 rfl (graph_Parts_ok n n_0 n_0_Arcsv hr11) (showsX_view 0 rfl views_ro showsX_nil) rfl (.inl rfl)) ?_
  rintro _ _ ⟨_, ⟨v12, rfl, rfl⟩, rfl⟩
  refine oy rfl rfl (y_move rfl) ?_
  refine oy rfl rfl (y_extract rfl rfl) ?_
  refine oy rfl rfl (y_extract rfl rfl) ?_
  refine oy rfl rfl (y_assign rfl) ?_
  refine oy rfl rfl (y_assign rfl) ?_
  refine ops_nil ?_
  refine goes_code ?_
  refine run_seq ?_
  refine run_region' ?_
  refine oy rfl rfl (y_load_boxagg (c := [.int .i64 n_0.Nodes, n_0_Arcsv]) 1 Try.isAgg24 Try.sizeOf24 rfl rfl rfl) ?_
  obtain ⟨r13, hr14, h⟩ := obind_some h
  refine ot rfl rfl (t_callx (vs := [.agg #[.int .i64 n_0.Nodes, n_0_Arcsv]]) (cs := []) [(0, 0)] rfl Try.call13 rfl (graph_Order_ok n n_0 n_0_Arcsv hr14) (showsX_view 0 rfl views_ro showsX_nil) rfl (.inl rfl)) ?_
  rintro _ _ ⟨_, ⟨v15, v16, rfl, rfl⟩, rfl⟩
  refine oy rfl rfl (y_move rfl) ?_
  refine oy rfl rfl (y_extract rfl rfl) ?_
  refine oy rfl rfl (y_extract rfl rfl) ?_
  refine oy rfl rfl (y_extract rfl rfl) ?_
  refine oy rfl rfl (y_assign rfl) ?_
  refine oy rfl rfl (y_assign rfl) ?_
  refine oy rfl rfl (y_assign rfl) ?_
  refine ops_nil ?_
  refine goes_code ?_
  refine run_seq ?_
  refine run_weak [(1, .int .i64 from_1), (2, boxP b1 0), (5, v9), (6, .int .i64 r7.2), (7, v12), (8, .int .i64 r10.2), (9, v15), (10, v16), (11, .int .i64 r13.2.2)] [0, 1, 2, 3, 4, 5] [ro n_0_Arcsv 4 (n_0.Arcs.map S_api_Arc.enc), box b1 [.int .i64 n_0.Nodes, n_0_Arcsv], row v9 1 (r7.1.map eBool), nrow v12 NC_L_int_34 r10.1, row v15 1 (r13.1.map (eInt .i64)), row v16 1 (r13.2.1.map (eInt .i64))] (vcons rfl (vcons rfl (vcons rfl (vcons rfl (vcons rfl (vcons rfl (vcons rfl (vcons rfl (vcons rfl (vnil)))))))))) (by decide) rfl ?_
  refine run_region' ?_
  refine oy rfl rfl (y_load_boxagg (c := [.int .i64 n_0.Nodes, n_0_Arcsv]) 1 Try.isAgg24 Try.sizeOf24 rfl rfl rfl) ?_
  refine oy rfl rfl (y_move rfl) ?_
  obtain ⟨r17, hr18, h⟩ := obind_some h
  refine ot rfl rfl (t_callx (vs := [.agg #[.int .i64 n_0.Nodes, n_0_Arcsv], .int .i64 from_1]) (cs := []) [(0, 0)] rfl Try.call14 rfl (ref09_Reach_ok n n_0 from_1 n_0_Arcsv hr18) (showsX_view 0 rfl views_ro showsX_nil) rfl (.inl rfl)) ?_
  rintro _ _ ⟨_, ⟨v19, rfl, rfl⟩, rfl⟩
  refine ot rfl rfl (t_alloc Try.zeroValue38) ?_
  rintro _ _ ⟨b20, rfl, rfl⟩
  refine ops_slc 6 rfl reads_row (fun hs21 hs21o => ?_)
  refine ot rfl rfl (t_store 7 Try.sizeOf38 rfl rfl rfl rfl (by simp [Value.cells, boxP]) (by intro u hu; replace hu : u ∈ ([v19, .int .i64 r17.E] : List Value) := hu; simp only [List.mem_cons, List.not_mem_nil, or_false] at hu; rcases hu with rfl | rfl <;> first | rfl | assumption)) ?_
  rintro _ _ ⟨rfl, rfl⟩
  refine ops_turn (retell 7 (g := box b20 [v19, .int .i64 r17.E]) rfl rfl) ?_
  refine ops_nil ?_
  refine goes_code ?_
  refine run_seq ?_
  refine run_region' ?_
  refine oy rfl rfl (y_load_boxagg (c := [.int .i64 n_0.Nodes, n_0_Arcsv]) 1 Try.isAgg24 Try.sizeOf24 rfl rfl rfl) ?_
  obtain ⟨r22, hr23, h⟩ := obind_some h
  refine ot rfl rfl (t_callx (vs := [.agg #[.int .i64 n_0.Nodes, n_0_Arcsv]]) (cs := []) [(0, 0)] rfl Try.call15 rfl (ref09_Parts_ok n n_0 n_0_Arcsv hr23) (showsX_view 0 rfl views_ro showsX_nil) rfl (.inl rfl)) ?_
  rintro _ _ ⟨_, ⟨v24, rfl, rfl⟩, rfl⟩
  refine ot rfl rfl (t_alloc Try.zeroValue41) ?_
  rintro _ _ ⟨b25, rfl, rfl⟩
  refine ops_slcN 8 rfl readsN_row (fun hs26 hs26o => ?_)
  refine ot rfl rfl (t_store 9 Try.sizeOf41 rfl rfl rfl rfl (by simp [Value.cells, boxP]) (by intro u hu; replace hu : u ∈ ([v24, .int .i64 r22.E] : List Value) := hu; simp only [List.mem_cons, List.not_mem_nil, or_false] at hu; rcases hu with rfl | rfl <;> first | rfl | assumption)) ?_
  rintro _ _ ⟨rfl, rfl⟩
  refine ops_turn (retell 9 (g := box b25 [v24, .int .i64 r22.E]) rfl rfl) ?_
  refine ops_nil ?_
  refine goes_code ?_
  refine run_seq ?_
  refine run_weak [(2, boxP b1 0), (5, v9), (6, .int .i64 r7.2), (7, v12), (8, .int .i64 r10.2), (9, v15), (10, v16), (11, .int .i64 r13.2.2), (12, boxP b20 0), (13, boxP b25 0)] [0, 1, 2, 3, 4, 5, 6, 7, 8, 9] [ro n_0_Arcsv 4 (n_0.Arcs.map S_api_Arc.enc), box b1 [.int .i64 n_0.Nodes, n_0_Arcsv], row v9 1 (r7.1.map eBool), nrow v12 NC_L_int_34 r10.1, row v15 1 (r13.1.map (eInt .i64)), row v16 1 (r13.2.1.map (eInt .i64)), row v19 1 (r17.L.map eBool), box b20 [v19, .int .i64 r17.E], nrow v24 NC_L_int_34 r22.L, box b25 [v24, .int .i64 r22.E]] (vcons rfl (vcons rfl (vcons rfl (vcons rfl (vcons rfl (vcons rfl (vcons rfl (vcons rfl (vcons rfl (vcons rfl (vnil))))))))))) (by decide) rfl ?_
  refine run_region' ?_
  refine oy rfl rfl (y_load_boxagg (c := [.int .i64 n_0.Nodes, n_0_Arcsv]) 1 Try.isAgg24 Try.sizeOf24 rfl rfl rfl) ?_
  obtain ⟨r27, hr28, h⟩ := obind_some h
  refine ot rfl rfl (t_callx (vs := [.agg #[.int .i64 n_0.Nodes, n_0_Arcsv]]) (cs := []) [(0, 0)] rfl Try.call16 rfl (ref09_Order_ok n n_0 n_0_Arcsv hr28) (showsX_view 0 rfl views_ro showsX_nil) rfl (.inl rfl)) ?_
  rintro _ _ ⟨_, ⟨v29, rfl, rfl⟩, rfl⟩
  refine ot rfl rfl (t_alloc Try.zeroValue44) ?_
  rintro _ _ ⟨b30, rfl, rfl⟩
  refine ops_slc 10 rfl reads_row (fun hs31 hs31o => ?_)
  refine ot rfl rfl (t_store 11 Try.sizeOf44 rfl rfl rfl rfl (by simp [Value.cells, boxP]) (by intro u hu; replace hu : u ∈ ([v29, .bool r27.Is, .int .i64 r27.E] : List Value) := hu; simp only [List.mem_cons, List.not_mem_nil, or_false] at hu; rcases hu with rfl | rfl | rfl <;> first | rfl | assumption)) ?_
  rintro _ _ ⟨rfl, rfl⟩
  refine ops_turn (retell 11 (g := box b30 [v29, .bool r27.Is, .int .i64 r27.E]) rfl rfl) ?_
  refine ops_nil ?_
  refine goes_code ?_
  refine run_seq ?_
  refine run_seq ?_
  refine run_drawany [ro n_0_Arcsv 4 (n_0.Arcs.map S_api_Arc.enc), box b1 [.int .i64 n_0.Nodes, n_0_Arcsv], row v9 1 (r7.1.map eBool), nrow v12 NC_L_int_34 r10.1, row v15 1 (r13.1.map (eInt .i64)), row v16 1 (r13.2.1.map (eInt .i64)), row v19 1 (r17.L.map eBool), box b20 [v19, .int .i64 r17.E], nrow v24 NC_L_int_34 r22.L, box b25 [v24, .int .i64 r22.E], row v29 1 (r27.L.map (eInt .i64)), box b30 [v29, .bool r27.Is, .int .i64 r27.E]] (by kernel_rfl) ?_
  refine any_y 0 rfl (by kernel_rfl) (by kernel_rfl) (by kernel_rfl) (ss (ss (ss (ss (ss (ss (ss (ss (ss (ss (ss (ss (sn))))))))))))) (wn rfl) rfl (y_load_boxagg (c := [.int .i64 n_0.Nodes, n_0_Arcsv]) 1 Try.isAgg24 Try.sizeOf24 rfl rfl rfl) ?_
  refine any_y 2 rfl (by kernel_rfl) (by kernel_rfl) (by kernel_rfl) (ss (ss (ss (ss (ss (ss (ss (ss (ss (ss (ss (ss (sn))))))))))))) (wn rfl) rfl (y_load_boxagg (c := [.int .i64 n_0.Nodes, n_0_Arcsv]) 1 Try.isAgg24 Try.sizeOf24 rfl rfl rfl) ?_
  refine any_all [1] (by kernel_rfl) rfl (anyo_cons ?_ anyo_nil)
  obtain ⟨r32, hr33, h⟩ := obind_some h
  refine any_t rfl (wn rfl) rfl (t_callx (vs := [.agg #[.int .i64 n_0.Nodes, n_0_Arcsv]]) (cs := []) [(0, 0)] rfl Try.call17 rfl (graph_Valid_ok n n_0 n_0_Arcsv hr33) (showsX_view 0 rfl views_ro showsX_nil) rfl (.inl rfl)) ?_
  rintro _ _ ⟨_, ⟨rfl, rfl⟩, rfl⟩
  refine ⟨(ss (ss (ss (ss (ss (ss (ss (ss (ss (ss (ss (ss (sn))))))))))))), ?_⟩
  refine any_all [3] (by kernel_rfl) rfl (anyo_cons ?_ anyo_nil)
  obtain ⟨r34, hr35, h⟩ := obind_some h
  refine any_t rfl (wn rfl) rfl (t_callx (vs := [.agg #[.int .i64 n_0.Nodes, n_0_Arcsv]]) (cs := []) [(0, 0)] rfl Try.call18 rfl (ref09_Valid_ok n n_0 n_0_Arcsv hr35) (showsX_view 0 rfl views_ro showsX_nil) rfl (.inl rfl)) ?_
  rintro _ _ ⟨_, ⟨rfl, rfl⟩, rfl⟩
  refine ⟨(ss (ss (ss (ss (ss (ss (ss (ss (ss (ss (ss (ss (sn))))))))))))), ?_⟩
  refine any_y 4 rfl (by kernel_rfl) (by kernel_rfl) (by kernel_rfl) (ss (ss (ss (ss (ss (ss (ss (ss (ss (ss (ss (ss (sn))))))))))))) (wn rfl) rfl (y_bneq Try.runUnderlying4 rfl rfl) ?_
  refine any_y 5 rfl (by kernel_rfl) (by kernel_rfl) (by kernel_rfl) (ss (ss (ss (ss (ss (ss (ss (ss (ss (ss (ss (ss (sn))))))))))))) (wn rfl) rfl (y_move rfl) ?_
  refine any_cut #[true, true, true, true, true, true, true, true, true, true, true, false, false, false, false, false, false, false, false, false, false, false, false, false, false, false, false, false, false, false, false, false, false, false, false, false, false, false, false, false, false, false, false, false, false] 34 Bool (fun σ => [(2, boxP b1 0), (5, v9), (7, v12), (8, .int .i64 r10.2), (9, v15), (10, v16), (11, .int .i64 r13.2.2), (12, boxP b20 0), (13, boxP b25 0), (14, boxP b30 0), (54, .bool σ)]) (fun σ => [ro n_0_Arcsv 4 (n_0.Arcs.map S_api_Arc.enc), box b1 [.int .i64 n_0.Nodes, n_0_Arcsv], row v9 1 (r7.1.map eBool), nrow v12 NC_L_int_34 r10.1, row v15 1 (r13.1.map (eInt .i64)), row v16 1 (r13.2.1.map (eInt .i64)), row v19 1 (r17.L.map eBool), box b20 [v19, .int .i64 r17.E], nrow v24 NC_L_int_34 r22.L, box b25 [v24, .int .i64 r22.E], row v29 1 (r27.L.map (eInt .i64)), box b30 [v29, .bool r27.Is, .int .i64 r27.E]]) (fun σ => σ = ((!(r32 == r34)) || decide (r7.2 ≠ r17.E))) (fun hL37 => ?_) ?_
  ·refine any_split 49 (!(r32 == r34)) rfl (fun hg38 => ?_) (fun hg38 => ?_)
   ·skip
    refine any_no 6 rfl (by kernel_rfl) (by kernel_rfl) (by kernel_rfl) (ss (ss (ss (ss (ss (ss (ss (ss (ss (ss (ss (ss (sn))))))))))))) 5 false 49 rfl rfl rfl rfl rfl ?_
    refine any_no 7 rfl (by kernel_rfl) (by kernel_rfl) (by kernel_rfl) (ss (ss (ss (ss (ss (ss (ss (ss (ss (ss (ss (ss (sn))))))))))))) 5 false 49 rfl rfl rfl rfl rfl ?_
    refine any_no 8 rfl (by kernel_rfl) (by kernel_rfl) (by kernel_rfl) (ss (ss (ss (ss (ss (ss (ss (ss (ss (ss (ss (ss (sn))))))))))))) 5 false 49 rfl rfl rfl rfl rfl ?_
    refine any_no 9 rfl (by kernel_rfl) (by kernel_rfl) (by kernel_rfl) (ss (ss (ss (ss (ss (ss (ss (ss (ss (ss (ss (ss (sn))))))))))))) 5 false 49 rfl rfl rfl rfl rfl ?_
    refine any_y 10 rfl (by kernel_rfl) (by kernel_rfl) (by kernel_rfl) (ss (ss (ss (ss (ss (ss (ss (ss (ss (ss (ss (ss (sn))))))))))))) (wn rfl) rfl (y_pick (b := true) rfl rfl) ?_
    exact any_weak [(2, boxP b1 0), (5, v9), (7, v12), (8, .int .i64 r10.2), (9, v15), (10, v16), (11, .int .i64 r13.2.2), (12, boxP b20 0), (13, boxP b25 0), (14, boxP b30 0), (54, .bool true)] [0, 1, 2, 3, 4, 5, 6, 7, 8, 9, 10, 11] [ro n_0_Arcsv 4 (n_0.Arcs.map S_api_Arc.enc), box b1 [.int .i64 n_0.Nodes, n_0_Arcsv], row v9 1 (r7.1.map eBool), nrow v12 NC_L_int_34 r10.1, row v15 1 (r13.1.map (eInt .i64)), row v16 1 (r13.2.1.map (eInt .i64)), row v19 1 (r17.L.map eBool), box b20 [v19, .int .i64 r17.E], nrow v24 NC_L_int_34 r22.L, box b25 [v24, .int .i64 r22.E], row v29 1 (r27.L.map (eInt .i64)), box b30 [v29, .bool r27.Is, .int .i64 r27.E]] (by kernel_rfl) (vcons rfl (vcons rfl (vcons rfl (vcons rfl (vcons rfl (vcons rfl (vcons rfl (vcons rfl (vcons rfl (vcons rfl (vcons rfl (vnil)))))))))))) (by decide) rfl (hL37 true (by rw [hg38]; simp))
   ·skip
    refine any_y 6 rfl (by kernel_rfl) (by kernel_rfl) (by kernel_rfl) (ss (ss (ss (ss (ss (ss (ss (ss (ss (ss (ss (ss (sn))))))))))))) (wg 5 false 49 rfl rfl rfl rfl) rfl (y_move rfl) ?_
    refine any_y 7 rfl (by kernel_rfl) (by kernel_rfl) (by kernel_rfl) (ss (ss (ss (ss (ss (ss (ss (ss (ss (ss (ss (ss (sn))))))))))))) (wg 5 false 49 rfl rfl rfl rfl) rfl (y_fieldAddr_box (sz := 0) Try.runUnderlying38 rfl Try.sizeOf28 rfl) ?_
    refine any_y 8 rfl (by kernel_rfl) (by kernel_rfl) (by kernel_rfl) (ss (ss (ss (ss (ss (ss (ss (ss (ss (ss (ss (ss (sn))))))))))))) (wg 5 false 49 rfl rfl rfl rfl) rfl (y_load_box 7 Try.isAgg28 rfl rfl rfl) ?_
    refine any_y 9 rfl (by kernel_rfl) (by kernel_rfl) (by kernel_rfl) (ss (ss (ss (ss (ss (ss (ss (ss (ss (ss (ss (ss (sn))))))))))))) (wg 5 false 49 rfl rfl rfl rfl) rfl (y_neq rfl rfl) ?_
    refine any_y 10 rfl (by kernel_rfl) (by kernel_rfl) (by kernel_rfl) (ss (ss (ss (ss (ss (ss (ss (ss (ss (ss (ss (ss (sn))))))))))))) (wn rfl) rfl (y_pick (b := false) rfl rfl) ?_
    exact any_weak [(2, boxP b1 0), (5, v9), (7, v12), (8, .int .i64 r10.2), (9, v15), (10, v16), (11, .int .i64 r13.2.2), (12, boxP b20 0), (13, boxP b25 0), (14, boxP b30 0), (54, .bool (decide (r7.2 ≠ r17.E)))] [0, 1, 2, 3, 4, 5, 6, 7, 8, 9, 10, 11] [ro n_0_Arcsv 4 (n_0.Arcs.map S_api_Arc.enc), box b1 [.int .i64 n_0.Nodes, n_0_Arcsv], row v9 1 (r7.1.map eBool), nrow v12 NC_L_int_34 r10.1, row v15 1 (r13.1.map (eInt .i64)), row v16 1 (r13.2.1.map (eInt .i64)), row v19 1 (r17.L.map eBool), box b20 [v19, .int .i64 r17.E], nrow v24 NC_L_int_34 r22.L, box b25 [v24, .int .i64 r22.E], row v29 1 (r27.L.map (eInt .i64)), box b30 [v29, .bool r27.Is, .int .i64 r27.E]] (by kernel_rfl) (vcons rfl (vcons rfl (vcons rfl (vcons rfl (vcons rfl (vcons rfl (vcons rfl (vcons rfl (vcons rfl (vcons rfl (vcons rfl (vnil)))))))))))) (by decide) rfl (hL37 (decide (r7.2 ≠ r17.E)) (by rw [hg38]; simp))
  rintro _ rfl
  refine any_y 11 rfl (by kernel_rfl) (by kernel_rfl) (by kernel_rfl) (ss (ss (ss (ss (ss (ss (ss (ss (ss (ss (ss (ss (sn))))))))))))) (wn rfl) rfl (y_move rfl) ?_
  refine any_cut #[true, true, true, true, true, true, true, true, true, true, true, true, true, true, true, true, true, true, true, false, false, false, false, false, false, false, false, false, false, false, false, false, false, false, false, false, false, false, false, false, false, false, false, false, false] 26 Bool (fun σ => [(2, boxP b1 0), (5, v9), (7, v12), (8, .int .i64 r10.2), (9, v15), (10, v16), (11, .int .i64 r13.2.2), (12, boxP b20 0), (13, boxP b25 0), (14, boxP b30 0), (62, .bool σ)]) (fun σ => [ro n_0_Arcsv 4 (n_0.Arcs.map S_api_Arc.enc), box b1 [.int .i64 n_0.Nodes, n_0_Arcsv], row v9 1 (r7.1.map eBool), nrow v12 NC_L_int_34 r10.1, row v15 1 (r13.1.map (eInt .i64)), row v16 1 (r13.2.1.map (eInt .i64)), row v19 1 (r17.L.map eBool), box b20 [v19, .int .i64 r17.E], nrow v24 NC_L_int_34 r22.L, box b25 [v24, .int .i64 r22.E], row v29 1 (r27.L.map (eInt .i64)), box b30 [v29, .bool r27.Is, .int .i64 r27.E]]) (fun σ => σ = (((!(r32 == r34)) || decide (r7.2 ≠ r17.E)) || decide ((r7.1.length : Int) ≠ (r17.L.length : Int)))) (fun hL40 => ?_) ?_
  ·refine any_split 55 ((!(r32 == r34)) || decide (r7.2 ≠ r17.E)) rfl (fun hg41 => ?_) (fun hg41 => ?_)
   ·skip
    refine any_no 12 rfl (by kernel_rfl) (by kernel_rfl) (by kernel_rfl) (ss (ss (ss (ss (ss (ss (ss (ss (ss (ss (ss (ss (sn))))))))))))) 11 false 55 rfl rfl rfl rfl rfl ?_
    refine any_no 13 rfl (by kernel_rfl) (by kernel_rfl) (by kernel_rfl) (ss (ss (ss (ss (ss (ss (ss (ss (ss (ss (ss (ss (sn))))))))))))) 11 false 55 rfl rfl rfl rfl rfl ?_
    refine any_no 14 rfl (by kernel_rfl) (by kernel_rfl) (by kernel_rfl) (ss (ss (ss (ss (ss (ss (ss (ss (ss (ss (ss (ss (sn))))))))))))) 11 false 55 rfl rfl rfl rfl rfl ?_
    refine any_no 15 rfl (by kernel_rfl) (by kernel_rfl) (by kernel_rfl) (ss (ss (ss (ss (ss (ss (ss (ss (ss (ss (ss (ss (sn))))))))))))) 11 false 55 rfl rfl rfl rfl rfl ?_
    refine any_no 16 rfl (by kernel_rfl) (by kernel_rfl) (by kernel_rfl) (ss (ss (ss (ss (ss (ss (ss (ss (ss (ss (ss (ss (sn))))))))))))) 11 false 55 rfl rfl rfl rfl rfl ?_
    refine any_no 17 rfl (by kernel_rfl) (by kernel_rfl) (by kernel_rfl) (ss (ss (ss (ss (ss (ss (ss (ss (ss (ss (ss (ss (sn))))))))))))) 11 false 55 rfl rfl rfl rfl rfl ?_
    refine any_y 18 rfl (by kernel_rfl) (by kernel_rfl) (by kernel_rfl) (ss (ss (ss (ss (ss (ss (ss (ss (ss (ss (ss (ss (sn))))))))))))) (wn rfl) rfl (y_pick (b := true) rfl rfl) ?_
    exact any_weak [(2, boxP b1 0), (5, v9), (7, v12), (8, .int .i64 r10.2), (9, v15), (10, v16), (11, .int .i64 r13.2.2), (12, boxP b20 0), (13, boxP b25 0), (14, boxP b30 0), (62, .bool true)] [0, 1, 2, 3, 4, 5, 6, 7, 8, 9, 10, 11] [ro n_0_Arcsv 4 (n_0.Arcs.map S_api_Arc.enc), box b1 [.int .i64 n_0.Nodes, n_0_Arcsv], row v9 1 (r7.1.map eBool), nrow v12 NC_L_int_34 r10.1, row v15 1 (r13.1.map (eInt .i64)), row v16 1 (r13.2.1.map (eInt .i64)), row v19 1 (r17.L.map eBool), box b20 [v19, .int .i64 r17.E], nrow v24 NC_L_int_34 r22.L, box b25 [v24, .int .i64 r22.E], row v29 1 (r27.L.map (eInt .i64)), box b30 [v29, .bool r27.Is, .int .i64 r27.E]] (by kernel_rfl) (vcons rfl (vcons rfl (vcons rfl (vcons rfl (vcons rfl (vcons rfl (vcons rfl (vcons rfl (vcons rfl (vcons rfl (vcons rfl (vnil)))))))))))) (by decide) rfl (hL40 true (by rw [hg41]; simp))
   ·skip
    refine any_y 12 rfl (by kernel_rfl) (by kernel_rfl) (by kernel_rfl) (ss (ss (ss (ss (ss (ss (ss (ss (ss (ss (ss (ss (sn))))))))))))) (wg 11 false 55 rfl rfl rfl rfl) rfl (y_move rfl) ?_
    refine any_y 13 rfl (by kernel_rfl) (by kernel_rfl) (by kernel_rfl) (ss (ss (ss (ss (ss (ss (ss (ss (ss (ss (ss (ss (sn))))))))))))) (wg 11 false 55 rfl rfl rfl rfl) rfl ((y_len 2 rfl Try.runUnderlying27 rfl rfl reads_row).to (v_len eBool _)) ?_
    refine any_y 14 rfl (by kernel_rfl) (by kernel_rfl) (by kernel_rfl) (ss (ss (ss (ss (ss (ss (ss (ss (ss (ss (ss (ss (sn))))))))))))) (wg 11 false 55 rfl rfl rfl rfl) rfl (y_fieldAddr_box (sz := 0) Try.runUnderlying38 rfl Try.sizeOf27 rfl) ?_
    refine any_y 15 rfl (by kernel_rfl) (by kernel_rfl) (by kernel_rfl) (ss (ss (ss (ss (ss (ss (ss (ss (ss (ss (ss (ss (sn))))))))))))) (wg 11 false 55 rfl rfl rfl rfl) rfl (y_load_box 7 Try.isAgg27 rfl rfl rfl) ?_
    refine any_y 16 rfl (by kernel_rfl) (by kernel_rfl) (by kernel_rfl) (ss (ss (ss (ss (ss (ss (ss (ss (ss (ss (ss (ss (sn))))))))))))) (wg 11 false 55 rfl rfl rfl rfl) rfl ((y_len 6 rfl Try.runUnderlying27 rfl rfl reads_row).to (v_len eBool _)) ?_
    refine any_y 17 rfl (by kernel_rfl) (by kernel_rfl) (by kernel_rfl) (ss (ss (ss (ss (ss (ss (ss (ss (ss (ss (ss (ss (sn))))))))))))) (wg 11 false 55 rfl rfl rfl rfl) rfl (y_neq rfl rfl) ?_
    refine any_y 18 rfl (by kernel_rfl) (by kernel_rfl) (by kernel_rfl) (ss (ss (ss (ss (ss (ss (ss (ss (ss (ss (ss (ss (sn))))))))))))) (wn rfl) rfl (y_pick (b := false) rfl rfl) ?_
    exact any_weak [(2, boxP b1 0), (5, v9), (7, v12), (8, .int .i64 r10.2), (9, v15), (10, v16), (11, .int .i64 r13.2.2), (12, boxP b20 0), (13, boxP b25 0), (14, boxP b30 0), (62, .bool (decide ((r7.1.length : Int) ≠ (r17.L.length : Int))))] [0, 1, 2, 3, 4, 5, 6, 7, 8, 9, 10, 11] [ro n_0_Arcsv 4 (n_0.Arcs.map S_api_Arc.enc), box b1 [.int .i64 n_0.Nodes, n_0_Arcsv], row v9 1 (r7.1.map eBool), nrow v12 NC_L_int_34 r10.1, row v15 1 (r13.1.map (eInt .i64)), row v16 1 (r13.2.1.map (eInt .i64)), row v19 1 (r17.L.map eBool), box b20 [v19, .int .i64 r17.E], nrow v24 NC_L_int_34 r22.L, box b25 [v24, .int .i64 r22.E], row v29 1 (r27.L.map (eInt .i64)), box b30 [v29, .bool r27.Is, .int .i64 r27.E]] (by kernel_rfl) (vcons rfl (vcons rfl (vcons rfl (vcons rfl (vcons rfl (vcons rfl (vcons rfl (vcons rfl (vcons rfl (vcons rfl (vcons rfl (vnil)))))))))))) (by decide) rfl (hL40 (decide ((r7.1.length : Int) ≠ (r17.L.length : Int))) (by rw [hg41]; simp))
  rintro _ rfl
  refine any_y 19 rfl (by kernel_rfl) (by kernel_rfl) (by kernel_rfl) (ss (ss (ss (ss (ss (ss (ss (ss (ss (ss (ss (ss (sn))))))))))))) (wn rfl) rfl (y_move rfl) ?_
  refine any_cut #[true, true, true, true, true, true, true, true, true, true, true, true, true, true, true, true, true, true, true, true, true, true, true, true, true, false, false, false, false, false, false, false, false, false, false, false, false, false, false, false, false, false, false, false, false] 20 Bool (fun σ => [(2, boxP b1 0), (5, v9), (7, v12), (9, v15), (10, v16), (11, .int .i64 r13.2.2), (12, boxP b20 0), (13, boxP b25 0), (14, boxP b30 0), (68, .bool σ)]) (fun σ => [ro n_0_Arcsv 4 (n_0.Arcs.map S_api_Arc.enc), box b1 [.int .i64 n_0.Nodes, n_0_Arcsv], row v9 1 (r7.1.map eBool), nrow v12 NC_L_int_34 r10.1, row v15 1 (r13.1.map (eInt .i64)), row v16 1 (r13.2.1.map (eInt .i64)), row v19 1 (r17.L.map eBool), box b20 [v19, .int .i64 r17.E], nrow v24 NC_L_int_34 r22.L, box b25 [v24, .int .i64 r22.E], row v29 1 (r27.L.map (eInt .i64)), box b30 [v29, .bool r27.Is, .int .i64 r27.E]]) (fun σ => σ = ((((!(r32 == r34)) || decide (r7.2 ≠ r17.E)) || decide ((r7.1.length : Int) ≠ (r17.L.length : Int))) || decide (r10.2 ≠ r22.E))) (fun hL43 => ?_) ?_
  ·refine any_split 63 (((!(r32 == r34)) || decide (r7.2 ≠ r17.E)) || decide ((r7.1.length : Int) ≠ (r17.L.length : Int))) rfl (fun hg44 => ?_) (fun hg44 => ?_)
   ·skip
    refine any_no 20 rfl (by kernel_rfl) (by kernel_rfl) (by kernel_rfl) (ss (ss (ss (ss (ss (ss (ss (ss (ss (ss (ss (ss (sn))))))))))))) 19 false 63 rfl rfl rfl rfl rfl ?_
    refine any_no 21 rfl (by kernel_rfl) (by kernel_rfl) (by kernel_rfl) (ss (ss (ss (ss (ss (ss (ss (ss (ss (ss (ss (ss (sn))))))))))))) 19 false 63 rfl rfl rfl rfl rfl ?_
    refine any_no 22 rfl (by kernel_rfl) (by kernel_rfl) (by kernel_rfl) (ss (ss (ss (ss (ss (ss (ss (ss (ss (ss (ss (ss (sn))))))))))))) 19 false 63 rfl rfl rfl rfl rfl ?_
    refine any_no 23 rfl (by kernel_rfl) (by kernel_rfl) (by kernel_rfl) (ss (ss (ss (ss (ss (ss (ss (ss (ss (ss (ss (ss (sn))))))))))))) 19 false 63 rfl rfl rfl rfl rfl ?_
    refine any_y 24 rfl (by kernel_rfl) (by kernel_rfl) (by kernel_rfl) (ss (ss (ss (ss (ss (ss (ss (ss (ss (ss (ss (ss (sn))))))))))))) (wn rfl) rfl (y_pick (b := true) rfl rfl) ?_
    exact any_weak [(2, boxP b1 0), (5, v9), (7, v12), (9, v15), (10, v16), (11, .int .i64 r13.2.2), (12, boxP b20 0), (13, boxP b25 0), (14, boxP b30 0), (68, .bool true)] [0, 1, 2, 3, 4, 5, 6, 7, 8, 9, 10, 11] [ro n_0_Arcsv 4 (n_0.Arcs.map S_api_Arc.enc), box b1 [.int .i64 n_0.Nodes, n_0_Arcsv], row v9 1 (r7.1.map eBool), nrow v12 NC_L_int_34 r10.1, row v15 1 (r13.1.map (eInt .i64)), row v16 1 (r13.2.1.map (eInt .i64)), row v19 1 (r17.L.map eBool), box b20 [v19, .int .i64 r17.E], nrow v24 NC_L_int_34 r22.L, box b25 [v24, .int .i64 r22.E], row v29 1 (r27.L.map (eInt .i64)), box b30 [v29, .bool r27.Is, .int .i64 r27.E]] (by kernel_rfl) (vcons rfl (vcons rfl (vcons rfl (vcons rfl (vcons rfl (vcons rfl (vcons rfl (vcons rfl (vcons rfl (vcons rfl (vnil))))))))))) (by decide) rfl (hL43 true (by rw [hg44]; simp))
   ·skip
    refine any_y 20 rfl (by kernel_rfl) (by kernel_rfl) (by kernel_rfl) (ss (ss (ss (ss (ss (ss (ss (ss (ss (ss (ss (ss (sn))))))))))))) (wg 19 false 63 rfl rfl rfl rfl) rfl (y_move rfl) ?_
    refine any_y 21 rfl (by kernel_rfl) (by kernel_rfl) (by kernel_rfl) (ss (ss (ss (ss (ss (ss (ss (ss (ss (ss (ss (ss (sn))))))))))))) (wg 19 false 63 rfl rfl rfl rfl) rfl (y_fieldAddr_box (sz := 0) Try.runUnderlying41 rfl Try.sizeOf28 rfl) ?_
    refine any_y 22 rfl (by kernel_rfl) (by kernel_rfl) (by kernel_rfl) (ss (ss (ss (ss (ss (ss (ss (ss (ss (ss (ss (ss (sn))))))))))))) (wg 19 false 63 rfl rfl rfl rfl) rfl (y_load_box 9 Try.isAgg28 rfl rfl rfl) ?_
    refine any_y 23 rfl (by kernel_rfl) (by kernel_rfl) (by kernel_rfl) (ss (ss (ss (ss (ss (ss (ss (ss (ss (ss (ss (ss (sn))))))))))))) (wg 19 false 63 rfl rfl rfl rfl) rfl (y_neq rfl rfl) ?_
    refine any_y 24 rfl (by kernel_rfl) (by kernel_rfl) (by kernel_rfl) (ss (ss (ss (ss (ss (ss (ss (ss (ss (ss (ss (ss (sn))))))))))))) (wn rfl) rfl (y_pick (b := false) rfl rfl) ?_
    exact any_weak [(2, boxP b1 0), (5, v9), (7, v12), (9, v15), (10, v16), (11, .int .i64 r13.2.2), (12, boxP b20 0), (13, boxP b25 0), (14, boxP b30 0), (68, .bool (decide (r10.2 ≠ r22.E)))] [0, 1, 2, 3, 4, 5, 6, 7, 8, 9, 10, 11] [ro n_0_Arcsv 4 (n_0.Arcs.map S_api_Arc.enc), box b1 [.int .i64 n_0.Nodes, n_0_Arcsv], row v9 1 (r7.1.map eBool), nrow v12 NC_L_int_34 r10.1, row v15 1 (r13.1.map (eInt .i64)), row v16 1 (r13.2.1.map (eInt .i64)), row v19 1 (r17.L.map eBool), box b20 [v19, .int .i64 r17.E], nrow v24 NC_L_int_34 r22.L, box b25 [v24, .int .i64 r22.E], row v29 1 (r27.L.map (eInt .i64)), box b30 [v29, .bool r27.Is, .int .i64 r27.E]] (by kernel_rfl) (vcons rfl (vcons rfl (vcons rfl (vcons rfl (vcons rfl (vcons rfl (vcons rfl (vcons rfl (vcons rfl (vcons rfl (vnil))))))))))) (by decide) rfl (hL43 (decide (r10.2 ≠ r22.E)) (by rw [hg44]; simp))
  rintro _ rfl
  refine any_y 25 rfl (by kernel_rfl) (by kernel_rfl) (by kernel_rfl) (ss (ss (ss (ss (ss (ss (ss (ss (ss (ss (ss (ss (sn))))))))))))) (wn rfl) rfl (y_move rfl) ?_
  obtain ⟨o46, h, ho47⟩ := bindJ_some h
  refine any_cut #[true, true, true, true, true, true, true, true, true, true, true, true, true, true, true, true, true, true, true, true, true, true, true, true, true, true, true, true, true, true, true, true, false, false, false, false, false, false, false, false, false, false, false, false, false] 13 Bool (fun σ => [(2, boxP b1 0), (5, v9), (9, v15), (10, v16), (11, .int .i64 r13.2.2), (12, boxP b20 0), (14, boxP b30 0), (75, .bool σ)]) (fun σ => [ro n_0_Arcsv 4 (n_0.Arcs.map S_api_Arc.enc), box b1 [.int .i64 n_0.Nodes, n_0_Arcsv], row v9 1 (r7.1.map eBool), nrow v12 NC_L_int_34 r10.1, row v15 1 (r13.1.map (eInt .i64)), row v16 1 (r13.2.1.map (eInt .i64)), row v19 1 (r17.L.map eBool), box b20 [v19, .int .i64 r17.E], nrow v24 NC_L_int_34 r22.L, box b25 [v24, .int .i64 r22.E], row v29 1 (r27.L.map (eInt .i64)), box b30 [v29, .bool r27.Is, .int .i64 r27.E]]) (fun σ => o46 = .go σ) (fun hL49 => ?_) ?_
  ·refine any_split 69 ((((!(r32 == r34)) || decide (r7.2 ≠ r17.E)) || decide ((r7.1.length : Int) ≠ (r17.L.length : Int))) || decide (r10.2 ≠ r22.E)) rfl (fun hg50 => ?_) (fun hg50 => ?_)
   ·replace h := cond_t h hg50
    refine any_no 26 rfl (by kernel_rfl) (by kernel_rfl) (by kernel_rfl) (ss (ss (ss (ss (ss (ss (ss (ss (ss (ss (ss (ss (sn))))))))))))) 25 false 69 rfl rfl rfl rfl rfl ?_
    refine any_no 27 rfl (by kernel_rfl) (by kernel_rfl) (by kernel_rfl) (ss (ss (ss (ss (ss (ss (ss (ss (ss (ss (ss (ss (sn))))))))))))) 25 false 69 rfl rfl rfl rfl rfl ?_
    refine any_no 28 rfl (by kernel_rfl) (by kernel_rfl) (by kernel_rfl) (ss (ss (ss (ss (ss (ss (ss (ss (ss (ss (ss (ss (sn))))))))))))) 25 false 69 rfl rfl rfl rfl rfl ?_
    refine any_no 29 rfl (by kernel_rfl) (by kernel_rfl) (by kernel_rfl) (ss (ss (ss (ss (ss (ss (ss (ss (ss (ss (ss (ss (sn))))))))))))) 25 false 69 rfl rfl rfl rfl rfl ?_
    refine any_no 30 rfl (by kernel_rfl) (by kernel_rfl) (by kernel_rfl) (ss (ss (ss (ss (ss (ss (ss (ss (ss (ss (ss (ss (sn))))))))))))) 25 false 69 rfl rfl rfl rfl rfl ?_
    refine any_y 31 rfl (by kernel_rfl) (by kernel_rfl) (by kernel_rfl) (ss (ss (ss (ss (ss (ss (ss (ss (ss (ss (ss (ss (sn))))))))))))) (wn rfl) rfl (y_pick (b := true) rfl rfl) ?_
    obtain rfl := some_eq h
    exact any_weak [(2, boxP b1 0), (5, v9), (9, v15), (10, v16), (11, .int .i64 r13.2.2), (12, boxP b20 0), (14, boxP b30 0), (75, .bool true)] [0, 1, 2, 3, 4, 5, 6, 7, 8, 9, 10, 11] [ro n_0_Arcsv 4 (n_0.Arcs.map S_api_Arc.enc), box b1 [.int .i64 n_0.Nodes, n_0_Arcsv], row v9 1 (r7.1.map eBool), nrow v12 NC_L_int_34 r10.1, row v15 1 (r13.1.map (eInt .i64)), row v16 1 (r13.2.1.map (eInt .i64)), row v19 1 (r17.L.map eBool), box b20 [v19, .int .i64 r17.E], nrow v24 NC_L_int_34 r22.L, box b25 [v24, .int .i64 r22.E], row v29 1 (r27.L.map (eInt .i64)), box b30 [v29, .bool r27.Is, .int .i64 r27.E]] (by kernel_rfl) (vcons rfl (vcons rfl (vcons rfl (vcons rfl (vcons rfl (vcons rfl (vcons rfl (vcons rfl (vnil))))))))) (by decide) rfl (hL49 true rfl)
   ·replace h := cond_f h hg50
    refine any_y 26 rfl (by kernel_rfl) (by kernel_rfl) (by kernel_rfl) (ss (ss (ss (ss (ss (ss (ss (ss (ss (ss (ss (ss (sn))))))))))))) (wg 25 false 69 rfl rfl rfl rfl) rfl (y_move rfl) ?_
    refine any_y 27 rfl (by kernel_rfl) (by kernel_rfl) (by kernel_rfl) (ss (ss (ss (ss (ss (ss (ss (ss (ss (ss (ss (ss (sn))))))))))))) (wg 25 false 69 rfl rfl rfl rfl) rfl (y_fieldAddr_box (sz := 0) Try.runUnderlying41 rfl Try.sizeOf31 rfl) ?_
    refine any_y 28 rfl (by kernel_rfl) (by kernel_rfl) (by kernel_rfl) (ss (ss (ss (ss (ss (ss (ss (ss (ss (ss (ss (ss (sn))))))))))))) (wg 25 false 69 rfl rfl rfl rfl) rfl (y_load_box 9 Try.isAgg31 rfl rfl rfl) ?_
    refine any_all [29] (by kernel_rfl) rfl (anyo_cons ?_ anyo_nil)
    obtain ⟨r51, hr52, h⟩ := obind_some h
    refine any_t rfl (wg 25 false 69 rfl rfl rfl rfl) rfl (t_callx (vs := [v12, v24]) (cs := []) [(3, 1), (8, 1)] rfl Try.call19 rfl (ref09_SameSets_ok n r10.1 r22.L v12 v24 hr52) (showsX_look 3 rfl views_nrow (showsX_look 8 rfl views_nrow showsX_nil)) rfl (.inr (by rintro _ _ ⟨rfl, rfl⟩ g hg; first | (cases hg; done) | (simp only [List.mem_cons, List.not_mem_nil, or_false] at hg; first | (subst hg; first | exact strict_row | exact strict_box) | (rcases hg with rfl | rfl <;> first | exact strict_row | exact strict_box) | (rcases hg with rfl | rfl | rfl <;> first | exact strict_row | exact strict_box))))) ?_
    rintro _ _ ⟨_, ⟨rfl, rfl⟩, rfl⟩
    refine ⟨(ss (ss (ss (ss (ss (ss (ss (ss (ss (ss (ss (ss (sn))))))))))))), ?_⟩
    refine any_y 30 rfl (by kernel_rfl) (by kernel_rfl) (by kernel_rfl) (ss (ss (ss (ss (ss (ss (ss (ss (ss (ss (ss (ss (sn))))))))))))) (wg 25 false 69 rfl rfl rfl rfl) rfl (y_not rfl) ?_
    refine any_y 31 rfl (by kernel_rfl) (by kernel_rfl) (by kernel_rfl) (ss (ss (ss (ss (ss (ss (ss (ss (ss (ss (ss (ss (sn))))))))))))) (wn rfl) rfl (y_pick (b := false) rfl rfl) ?_
    obtain rfl := some_eq h
    exact any_weak [(2, boxP b1 0), (5, v9), (9, v15), (10, v16), (11, .int .i64 r13.2.2), (12, boxP b20 0), (14, boxP b30 0), (75, .bool (!r51))] [0, 1, 2, 3, 4, 5, 6, 7, 8, 9, 10, 11] [ro n_0_Arcsv 4 (n_0.Arcs.map S_api_Arc.enc), box b1 [.int .i64 n_0.Nodes, n_0_Arcsv], row v9 1 (r7.1.map eBool), nrow v12 NC_L_int_34 r10.1, row v15 1 (r13.1.map (eInt .i64)), row v16 1 (r13.2.1.map (eInt .i64)), row v19 1 (r17.L.map eBool), box b20 [v19, .int .i64 r17.E], nrow v24 NC_L_int_34 r22.L, box b25 [v24, .int .i64 r22.E], row v29 1 (r27.L.map (eInt .i64)), box b30 [v29, .bool r27.Is, .int .i64 r27.E]] (by kernel_rfl) (vcons rfl (vcons rfl (vcons rfl (vcons rfl (vcons rfl (vcons rfl (vcons rfl (vcons rfl (vnil))))))))) (by decide) rfl (hL49 (!r51) rfl)
  rintro b45 hj
  obtain rfl : o46 = _ := hj
  replace h := after_go ho47
  clear ho47
  refine any_y 32 rfl (by kernel_rfl) (by kernel_rfl) (by kernel_rfl) (ss (ss (ss (ss (ss (ss (ss (ss (ss (ss (ss (ss (sn))))))))))))) (wn rfl) rfl (y_move rfl) ?_
  refine any_cut #[true, true, true, true, true, true, true, true, true, true, true, true, true, true, true, true, true, true, true, true, true, true, true, true, true, true, true, true, true, true, true, true, true, true, true, true, true, true, false, false, false, false, false, false, false] 7 Bool (fun σ => [(2, boxP b1 0), (5, v9), (9, v15), (10, v16), (11, .int .i64 r13.2.2), (12, boxP b20 0), (14, boxP b30 0), (81, .bool σ)]) (fun σ => [ro n_0_Arcsv 4 (n_0.Arcs.map S_api_Arc.enc), box b1 [.int .i64 n_0.Nodes, n_0_Arcsv], row v9 1 (r7.1.map eBool), nrow v12 NC_L_int_34 r10.1, row v15 1 (r13.1.map (eInt .i64)), row v16 1 (r13.2.1.map (eInt .i64)), row v19 1 (r17.L.map eBool), box b20 [v19, .int .i64 r17.E], nrow v24 NC_L_int_34 r22.L, box b25 [v24, .int .i64 r22.E], row v29 1 (r27.L.map (eInt .i64)), box b30 [v29, .bool r27.Is, .int .i64 r27.E]]) (fun σ => σ = (b45 || decide (r13.2.2 ≠ r27.E))) (fun hL54 => ?_) ?_
  ·refine any_split 76 b45 rfl (fun hg55 => ?_) (fun hg55 => ?_)
   ·skip
    refine any_no 33 rfl (by kernel_rfl) (by kernel_rfl) (by kernel_rfl) (ss (ss (ss (ss (ss (ss (ss (ss (ss (ss (ss (ss (sn))))))))))))) 32 false 76 rfl rfl rfl rfl rfl ?_
    refine any_no 34 rfl (by kernel_rfl) (by kernel_rfl) (by kernel_rfl) (ss (ss (ss (ss (ss (ss (ss (ss (ss (ss (ss (ss (sn))))))))))))) 32 false 76 rfl rfl rfl rfl rfl ?_
    refine any_no 35 rfl (by kernel_rfl) (by kernel_rfl) (by kernel_rfl) (ss (ss (ss (ss (ss (ss (ss (ss (ss (ss (ss (ss (sn))))))))))))) 32 false 76 rfl rfl rfl rfl rfl ?_
    refine any_no 36 rfl (by kernel_rfl) (by kernel_rfl) (by kernel_rfl) (ss (ss (ss (ss (ss (ss (ss (ss (ss (ss (ss (ss (sn))))))))))))) 32 false 76 rfl rfl rfl rfl rfl ?_
    refine any_y 37 rfl (by kernel_rfl) (by kernel_rfl) (by kernel_rfl) (ss (ss (ss (ss (ss (ss (ss (ss (ss (ss (ss (ss (sn))))))))))))) (wn rfl) rfl (y_pick (b := true) rfl rfl) ?_
    exact any_weak [(2, boxP b1 0), (5, v9), (9, v15), (10, v16), (11, .int .i64 r13.2.2), (12, boxP b20 0), (14, boxP b30 0), (81, .bool true)] [0, 1, 2, 3, 4, 5, 6, 7, 8, 9, 10, 11] [ro n_0_Arcsv 4 (n_0.Arcs.map S_api_Arc.enc), box b1 [.int .i64 n_0.Nodes, n_0_Arcsv], row v9 1 (r7.1.map eBool), nrow v12 NC_L_int_34 r10.1, row v15 1 (r13.1.map (eInt .i64)), row v16 1 (r13.2.1.map (eInt .i64)), row v19 1 (r17.L.map eBool), box b20 [v19, .int .i64 r17.E], nrow v24 NC_L_int_34 r22.L, box b25 [v24, .int .i64 r22.E], row v29 1 (r27.L.map (eInt .i64)), box b30 [v29, .bool r27.Is, .int .i64 r27.E]] (by kernel_rfl) (vcons rfl (vcons rfl (vcons rfl (vcons rfl (vcons rfl (vcons rfl (vcons rfl (vcons rfl (vnil))))))))) (by decide) rfl (hL54 true (by rw [hg55]; simp))
   ·skip
    refine any_y 33 rfl (by kernel_rfl) (by kernel_rfl) (by kernel_rfl) (ss (ss (ss (ss (ss (ss (ss (ss (ss (ss (ss (ss (sn))))))))))))) (wg 32 false 76 rfl rfl rfl rfl) rfl (y_move rfl) ?_
    refine any_y 34 rfl (by kernel_rfl) (by kernel_rfl) (by kernel_rfl) (ss (ss (ss (ss (ss (ss (ss (ss (ss (ss (ss (ss (sn))))))))))))) (wg 32 false 76 rfl rfl rfl rfl) rfl (y_fieldAddr_box (sz := 0) Try.runUnderlying44 rfl Try.sizeOf28 rfl) ?_
    refine any_y 35 rfl (by kernel_rfl) (by kernel_rfl) (by kernel_rfl) (ss (ss (ss (ss (ss (ss (ss (ss (ss (ss (ss (ss (sn))))))))))))) (wg 32 false 76 rfl rfl rfl rfl) rfl (y_load_box 11 Try.isAgg28 rfl rfl rfl) ?_
    refine any_y 36 rfl (by kernel_rfl) (by kernel_rfl) (by kernel_rfl) (ss (ss (ss (ss (ss (ss (ss (ss (ss (ss (ss (ss (sn))))))))))))) (wg 32 false 76 rfl rfl rfl rfl) rfl (y_neq rfl rfl) ?_
    refine any_y 37 rfl (by kernel_rfl) (by kernel_rfl) (by kernel_rfl) (ss (ss (ss (ss (ss (ss (ss (ss (ss (ss (ss (ss (sn))))))))))))) (wn rfl) rfl (y_pick (b := false) rfl rfl) ?_
    exact any_weak [(2, boxP b1 0), (5, v9), (9, v15), (10, v16), (11, .int .i64 r13.2.2), (12, boxP b20 0), (14, boxP b30 0), (81, .bool (decide (r13.2.2 ≠ r27.E)))] [0, 1, 2, 3, 4, 5, 6, 7, 8, 9, 10, 11] [ro n_0_Arcsv 4 (n_0.Arcs.map S_api_Arc.enc), box b1 [.int .i64 n_0.Nodes, n_0_Arcsv], row v9 1 (r7.1.map eBool), nrow v12 NC_L_int_34 r10.1, row v15 1 (r13.1.map (eInt .i64)), row v16 1 (r13.2.1.map (eInt .i64)), row v19 1 (r17.L.map eBool), box b20 [v19, .int .i64 r17.E], nrow v24 NC_L_int_34 r22.L, box b25 [v24, .int .i64 r22.E], row v29 1 (r27.L.map (eInt .i64)), box b30 [v29, .bool r27.Is, .int .i64 r27.E]] (by kernel_rfl) (vcons rfl (vcons rfl (vcons rfl (vcons rfl (vcons rfl (vcons rfl (vcons rfl (vcons rfl (vnil))))))))) (by decide) rfl (hL54 (decide (r13.2.2 ≠ r27.E)) (by rw [hg55]; simp))
  rintro _ rfl
  refine any_y 38 rfl (by kernel_rfl) (by kernel_rfl) (by kernel_rfl) (ss (ss (ss (ss (ss (ss (ss (ss (ss (ss (ss (ss (sn))))))))))))) (wn rfl) rfl (y_move rfl) ?_
  obtain ⟨o57, h, ho58⟩ := bindJ_some h
  refine any_cut #[true, true, true, true, true, true, true, true, true, true, true, true, true, true, true, true, true, true, true, true, true, true, true, true, true, true, true, true, true, true, true, true, true, true, true, true, true, true, true, true, true, true, true, true, true] 0 Bool (fun σ => [(2, boxP b1 0), (5, v9), (10, v16), (11, .int .i64 r13.2.2), (12, boxP b20 0), (14, boxP b30 0), (88, .bool σ)]) (fun σ => [ro n_0_Arcsv 4 (n_0.Arcs.map S_api_Arc.enc), box b1 [.int .i64 n_0.Nodes, n_0_Arcsv], row v9 1 (r7.1.map eBool), nrow v12 NC_L_int_34 r10.1, row v15 1 (r13.1.map (eInt .i64)), row v16 1 (r13.2.1.map (eInt .i64)), row v19 1 (r17.L.map eBool), box b20 [v19, .int .i64 r17.E], nrow v24 NC_L_int_34 r22.L, box b25 [v24, .int .i64 r22.E], row v29 1 (r27.L.map (eInt .i64)), box b30 [v29, .bool r27.Is, .int .i64 r27.E]]) (fun σ => o57 = .go σ) (fun hL60 => ?_) ?_
  ·refine any_split 82 (b45 || decide (r13.2.2 ≠ r27.E)) rfl (fun hg61 => ?_) (fun hg61 => ?_)
   ·replace h := cond_t h hg61
    refine any_no 39 rfl (by kernel_rfl) (by kernel_rfl) (by kernel_rfl) (ss (ss (ss (ss (ss (ss (ss (ss (ss (ss (ss (ss (sn))))))))))))) 38 false 82 rfl rfl rfl rfl rfl ?_
    refine any_no 40 rfl (by kernel_rfl) (by kernel_rfl) (by kernel_rfl) (ss (ss (ss (ss (ss (ss (ss (ss (ss (ss (ss (ss (sn))))))))))))) 38 false 82 rfl rfl rfl rfl rfl ?_
    refine any_no 41 rfl (by kernel_rfl) (by kernel_rfl) (by kernel_rfl) (ss (ss (ss (ss (ss (ss (ss (ss (ss (ss (ss (ss (sn))))))))))))) 38 false 82 rfl rfl rfl rfl rfl ?_
    refine any_no 42 rfl (by kernel_rfl) (by kernel_rfl) (by kernel_rfl) (ss (ss (ss (ss (ss (ss (ss (ss (ss (ss (ss (ss (sn))))))))))))) 38 false 82 rfl rfl rfl rfl rfl ?_
    refine any_no 43 rfl (by kernel_rfl) (by kernel_rfl) (by kernel_rfl) (ss (ss (ss (ss (ss (ss (ss (ss (ss (ss (ss (ss (sn))))))))))))) 38 false 82 rfl rfl rfl rfl rfl ?_
    refine any_y 44 rfl (by kernel_rfl) (by kernel_rfl) (by kernel_rfl) (ss (ss (ss (ss (ss (ss (ss (ss (ss (ss (ss (ss (sn))))))))))))) (wn rfl) rfl (y_pick (b := true) rfl rfl) ?_
    obtain rfl := some_eq h
    exact any_weak [(2, boxP b1 0), (5, v9), (10, v16), (11, .int .i64 r13.2.2), (12, boxP b20 0), (14, boxP b30 0), (88, .bool true)] [0, 1, 2, 3, 4, 5, 6, 7, 8, 9, 10, 11] [ro n_0_Arcsv 4 (n_0.Arcs.map S_api_Arc.enc), box b1 [.int .i64 n_0.Nodes, n_0_Arcsv], row v9 1 (r7.1.map eBool), nrow v12 NC_L_int_34 r10.1, row v15 1 (r13.1.map (eInt .i64)), row v16 1 (r13.2.1.map (eInt .i64)), row v19 1 (r17.L.map eBool), box b20 [v19, .int .i64 r17.E], nrow v24 NC_L_int_34 r22.L, box b25 [v24, .int .i64 r22.E], row v29 1 (r27.L.map (eInt .i64)), box b30 [v29, .bool r27.Is, .int .i64 r27.E]] (by kernel_rfl) (vcons rfl (vcons rfl (vcons rfl (vcons rfl (vcons rfl (vcons rfl (vcons rfl (vnil)))))))) (by decide) rfl (hL60 true rfl)
   ·replace h := cond_f h hg61
    refine any_y 39 rfl (by kernel_rfl) (by kernel_rfl) (by kernel_rfl) (ss (ss (ss (ss (ss (ss (ss (ss (ss (ss (ss (ss (sn))))))))))))) (wg 38 false 82 rfl rfl rfl rfl) rfl (y_move rfl) ?_
    refine any_y 40 rfl (by kernel_rfl) (by kernel_rfl) (by kernel_rfl) (ss (ss (ss (ss (ss (ss (ss (ss (ss (ss (ss (ss (sn))))))))))))) (wg 38 false 82 rfl rfl rfl rfl) rfl (y_fieldAddr_box (sz := 0) Try.runUnderlying44 rfl Try.sizeOf34 rfl) ?_
    refine any_y 41 rfl (by kernel_rfl) (by kernel_rfl) (by kernel_rfl) (ss (ss (ss (ss (ss (ss (ss (ss (ss (ss (ss (ss (sn))))))))))))) (wg 38 false 82 rfl rfl rfl rfl) rfl (y_load_box 11 Try.isAgg34 rfl rfl rfl) ?_
    refine any_all [42] (by kernel_rfl) rfl (anyo_cons ?_ anyo_nil)
    obtain ⟨r62, hr63, h⟩ := obind_some h
    refine any_t rfl (wg 38 false 82 rfl rfl rfl rfl) rfl (t_callx (vs := [v15, v29]) (cs := []) [(4, 1), (10, 1)] rfl Try.call20 rfl (ref09_Same_ok n r13.1 r27.L v15 v29 hr63) (showsX_look 4 rfl views_row (showsX_look 10 rfl views_row showsX_nil)) rfl (.inr (by rintro _ _ ⟨rfl, rfl⟩ g hg; first | (cases hg; done) | (simp only [List.mem_cons, List.not_mem_nil, or_false] at hg; first | (subst hg; first | exact strict_row | exact strict_box) | (rcases hg with rfl | rfl <;> first | exact strict_row | exact strict_box) | (rcases hg with rfl | rfl | rfl <;> first | exact strict_row | exact strict_box))))) ?_
    rintro _ _ ⟨_, ⟨rfl, rfl⟩, rfl⟩
    refine ⟨(ss (ss (ss (ss (ss (ss (ss (ss (ss (ss (ss (ss (sn))))))))))))), ?_⟩
    refine any_y 43 rfl (by kernel_rfl) (by kernel_rfl) (by kernel_rfl) (ss (ss (ss (ss (ss (ss (ss (ss (ss (ss (ss (ss (sn))))))))))))) (wg 38 false 82 rfl rfl rfl rfl) rfl (y_not rfl) ?_
    refine any_y 44 rfl (by kernel_rfl) (by kernel_rfl) (by kernel_rfl) (ss (ss (ss (ss (ss (ss (ss (ss (ss (ss (ss (ss (sn))))))))))))) (wn rfl) rfl (y_pick (b := false) rfl rfl) ?_
    obtain rfl := some_eq h
    exact any_weak [(2, boxP b1 0), (5, v9), (10, v16), (11, .int .i64 r13.2.2), (12, boxP b20 0), (14, boxP b30 0), (88, .bool (!r62))] [0, 1, 2, 3, 4, 5, 6, 7, 8, 9, 10, 11] [ro n_0_Arcsv 4 (n_0.Arcs.map S_api_Arc.enc), box b1 [.int .i64 n_0.Nodes, n_0_Arcsv], row v9 1 (r7.1.map eBool), nrow v12 NC_L_int_34 r10.1, row v15 1 (r13.1.map (eInt .i64)), row v16 1 (r13.2.1.map (eInt .i64)), row v19 1 (r17.L.map eBool), box b20 [v19, .int .i64 r17.E], nrow v24 NC_L_int_34 r22.L, box b25 [v24, .int .i64 r22.E], row v29 1 (r27.L.map (eInt .i64)), box b30 [v29, .bool r27.Is, .int .i64 r27.E]] (by kernel_rfl) (vcons rfl (vcons rfl (vcons rfl (vcons rfl (vcons rfl (vcons rfl (vcons rfl (vnil)))))))) (by decide) rfl (hL60 (!r62) rfl)
  rintro b56 hj
  obtain rfl : o57 = _ := hj
  replace h := after_go ho58
  clear ho58
  refine any_nil (by kernel_rfl) ?_
  refine goes_code ?_
  refine run_cond b56 rfl (fun hc64 => ?_) (fun hc64 => ?_)
  ·replace h := cond_t h hc64
   refine run_seq ?_
   refine run_region' ?_
   refine oy rfl rfl (y_assign rfl) ?_
   refine ops_nil ?_
   refine goes_code ?_
   refine run_ret ?_
   obtain rfl := some_eq h
   refine fin_slots [4] [.bool false] [] [] Try.results3 rfl (by decide) rfl ?_
   exact ⟨rfl, rfl⟩
  ·replace h := cond_f h hc64
   refine run_skip ?_
   refine goes_code ?_
   obtain ⟨o65, h, ho66⟩ := bindJ_some h
   refine run_cut ((Unit) × (Unit)) (fun σ => [(2, boxP b1 0), (10, v16), (11, .int .i64 r13.2.2), (14, boxP b30 0)]) (fun σ => [box b1 [.int .i64 n_0.Nodes, n_0_Arcsv], ro n_0_Arcsv 4 (n_0.Arcs.map S_api_Arc.enc), row v16 1 (r13.2.1.map (eInt .i64)), box b30 [v29, .bool r27.Is, .int .i64 r27.E], row v29 1 (r27.L.map (eInt .i64))]) (fun σ => o65 = .go σ.1) (fun L68 hL67 => ?_) ?_
   ·
    refine run_seq ?_
    refine run_region' ?_
    refine oy rfl rfl (y_assign rfl) ?_
    refine ops_nil ?_
    refine goes_code ?_
    refine run_block ?_
    refine run_iter (step := law09_GraphWalksAsSpecified_L1 r7 r17) (n := n) (s0 := 0) h (G := Unit) () (fun σ γ => [(2, boxP b1 0), (5, v9), (10, v16), (11, .int .i64 r13.2.2), (12, boxP b20 0), (14, boxP b30 0), (15, .int .i64 σ)]) (fun σ γ => [box b1 [.int .i64 n_0.Nodes, n_0_Arcsv], ro n_0_Arcsv 4 (n_0.Arcs.map S_api_Arc.enc), row v9 1 (r7.1.map eBool), row v16 1 (r13.2.1.map (eInt .i64)), box b20 [v19, .int .i64 r17.E], row v19 1 (r17.L.map eBool), box b30 [v29, .bool r27.Is, .int .i64 r27.E], row v29 1 (r27.L.map (eInt .i64))]) [1, 0, 2, 5, 7, 6, 11, 10] (vcons rfl (vcons rfl (vcons rfl (vcons rfl (vcons rfl (vcons rfl (vcons rfl (vnil)))))))) (by decide) rfl ?_
    rintro i_69 _ o70 h L73 hgo71 hstop72
    change Run _ _ _ (VF.of [(2, boxP b1 0), (5, v9), (10, v16), (11, .int .i64 r13.2.2), (12, boxP b20 0), (14, boxP b30 0), (15, .int .i64 i_69)]) [box b1 [.int .i64 n_0.Nodes, n_0_Arcsv], ro n_0_Arcsv 4 (n_0.Arcs.map S_api_Arc.enc), row v9 1 (r7.1.map eBool), row v16 1 (r13.2.1.map (eInt .i64)), box b20 [v19, .int .i64 r17.E], row v19 1 (r17.L.map eBool), box b30 [v29, .bool r27.Is, .int .i64 r27.E], row v29 1 (r27.L.map (eInt .i64))]
    refine run_seq ?_
    refine run_seq ?_
    refine run_region' ?_
    refine oy rfl rfl (y_move rfl) ?_
    refine oy rfl rfl (y_move rfl) ?_
    refine oy rfl rfl ((y_len 2 rfl Try.runUnderlying27 rfl rfl reads_row).to (v_len eBool _)) ?_
    refine oy rfl rfl (y_lss rfl rfl) ?_
    refine ops_nil ?_
    refine goes_code ?_
    refine run_cond (decide (i_69 < (r7.1.length : Int))) rfl (fun hc74 => ?_) (fun hc74 => ?_)
    ·replace h := cond_t h hc74
     refine run_skip ?_
     refine goes_code ?_
     refine run_seq ?_
     refine run_block ?_
     refine run_seq ?_
     refine run_draw (by kernel_rfl) (by kernel_rfl) ?_
     refine sy rfl rfl (y_move rfl) ?_
     refine sy rfl rfl (y_move rfl) ?_
     obtain ⟨x75, hzx75, hlx75, hxx75, h⟩ := idx_some h
     refine sy rfl rfl (y_indexAddrI (kd := .i64) (i := i_69) 2 Try.runUnderlying27 Try.sizeOf4 rfl rfl rfl reads_row hzx75 (map_lt hlx75)) ?_
     refine sy rfl rfl (y_load_elem (i := i_69.toNat) 2 Try.isAgg4 rfl rfl reads_row (map_get hxx75)) ?_
     refine sy rfl rfl (y_fieldAddr_box (sz := 0) Try.runUnderlying38 rfl Try.sizeOf27 rfl) ?_
     refine sy rfl rfl (y_load_box 4 Try.isAgg27 rfl rfl rfl) ?_
     refine sy rfl rfl (y_move rfl) ?_
     obtain ⟨x76, hzx76, hlx76, hxx76, h⟩ := idx_some h
     refine sy rfl rfl (y_indexAddrI (kd := .i64) (i := i_69) 5 Try.runUnderlying27 Try.sizeOf4 rfl rfl rfl reads_row hzx76 (map_lt hlx76)) ?_
     refine sy rfl rfl (y_load_elem (i := i_69.toNat) 5 Try.isAgg4 rfl rfl reads_row (map_get hxx76)) ?_
     refine sy rfl rfl (y_bneq Try.runUnderlying4 rfl rfl) ?_
     refine still_nil ?_
     refine goes_code ?_
     refine run_cond (!(x75 == x76)) rfl (fun hc77 => ?_) (fun hc77 => ?_)
     ·replace h := cond_t h hc77
      refine run_seq ?_
      refine run_weak [] [] [] vnil (by decide) rfl ?_
      refine run_region' ?_
      refine oy rfl rfl (y_assign rfl) ?_
      refine ops_nil ?_
      refine goes_code ?_
      refine run_ret ?_
      obtain rfl := some_eq h
      obtain rfl := hstop72 _ rfl
      skip
      obtain rfl := after_stop ho66
      refine fin_slots [4] [.bool false] [] [] Try.results3 rfl (by decide) rfl ?_
      exact ⟨rfl, rfl⟩
     ·replace h := cond_f h hc77
      refine run_skip ?_
      refine goes_blk ?_
      refine goes_code ?_
      refine run_weak [(2, boxP b1 0), (5, v9), (10, v16), (11, .int .i64 r13.2.2), (12, boxP b20 0), (14, boxP b30 0), (15, .int .i64 i_69)] [0, 1, 2, 3, 4, 5, 6, 7] [box b1 [.int .i64 n_0.Nodes, n_0_Arcsv], ro n_0_Arcsv 4 (n_0.Arcs.map S_api_Arc.enc), row v9 1 (r7.1.map eBool), row v16 1 (r13.2.1.map (eInt .i64)), box b20 [v19, .int .i64 r17.E], row v19 1 (r17.L.map eBool), box b30 [v29, .bool r27.Is, .int .i64 r27.E], row v29 1 (r27.L.map (eInt .i64))] (vcons rfl (vcons rfl (vcons rfl (vcons rfl (vcons rfl (vcons rfl (vcons rfl (vnil)))))))) (by decide) rfl ?_
      refine run_region' ?_
      refine oy rfl rfl (y_move rfl) ?_
      refine oy rfl rfl (y_add rfl rfl) ?_
      refine oy rfl rfl (y_assign rfl) ?_
      refine ops_nil ?_
      obtain rfl := some_eq h
      exact goes_iter hgo71 (IntKind.i64.wrap (i_69 + 1)) () [0, 1, 2, 3, 4, 5, 6, 7] rfl (vcons rfl (vcons rfl (vcons rfl (vcons rfl (vcons rfl (vcons rfl (vcons rfl (vnil)))))))) (by decide) rfl
    ·replace h := cond_f h hc74
     refine run_exit _ rfl ?_
     obtain rfl := some_eq h
     obtain rfl := hstop72 _ rfl
     exact goes_cut hL67 ((), ()) [0, 1, 3, 6, 7] (vcons rfl (vcons rfl (vcons rfl (vcons rfl (vnil))))) (by decide) rfl rfl
   rintro ⟨_, _⟩ hj
   obtain rfl : o65 = _ := hj
   replace h := after_go ho66
   clear ho66
   change Run _ _ _ (VF.of [(2, boxP b1 0), (10, v16), (11, .int .i64 r13.2.2), (14, boxP b30 0)]) [box b1 [.int .i64 n_0.Nodes, n_0_Arcsv], ro n_0_Arcsv 4 (n_0.Arcs.map S_api_Arc.enc), row v16 1 (r13.2.1.map (eInt .i64)), box b30 [v29, .bool r27.Is, .int .i64 r27.E], row v29 1 (r27.L.map (eInt .i64))]
   refine run_seq ?_
   refine run_seq ?_
   refine run_region' ?_
   refine oy rfl rfl (y_move rfl) ?_
   refine oy rfl rfl (y_neq rfl rfl) ?_
   refine oy rfl rfl (y_move rfl) ?_
   refine ops_cut 3 (Bool) (fun σ => [(2, boxP b1 0), (10, v16), (110, .bool σ)]) (fun σ => [box b1 [.int .i64 n_0.Nodes, n_0_Arcsv], ro n_0_Arcsv 4 (n_0.Arcs.map S_api_Arc.enc), row v16 1 (r13.2.1.map (eInt .i64))]) (fun σ => σ = (decide (r13.2.2 ≠ 0) || r27.Is)) (fun L78 hL79 => ?_) ?_
   ·refine ops_split 107 (decide (r13.2.2 ≠ 0)) rfl (fun hg80 => ?_) (fun hg80 => ?_)
    ·skip
     refine ops_no 2 false 107 rfl rfl rfl rfl rfl ?_
     refine ops_no 2 false 107 rfl rfl rfl rfl rfl ?_
     refine oy rfl rfl (y_pick (b := true) rfl rfl) ?_
     refine ops_nil ?_
     exact goes_cut hL79 true [0, 1, 2] (vcons rfl (vcons rfl (vcons rfl (vnil)))) (by decide) rfl (by rw [hg80]; simp)
    ·skip
     refine ops_y (wg 2 false 107 rfl rfl rfl rfl) rfl (y_fieldAddr_box (sz := 0) Try.runUnderlying44 rfl Try.sizeOf4 rfl) ?_
     refine ops_y (wg 2 false 107 rfl rfl rfl rfl) rfl (y_load_box 3 Try.isAgg4 rfl rfl rfl) ?_
     refine oy rfl rfl (y_pick (b := false) rfl rfl) ?_
     refine ops_nil ?_
     exact goes_cut hL79 r27.Is [0, 1, 2] (vcons rfl (vcons rfl (vcons rfl (vnil)))) (by decide) rfl (by rw [hg80]; simp)
   rintro _ rfl
   refine ops_nil ?_
   refine goes_code ?_
   refine run_cond (decide (r13.2.2 ≠ 0) || r27.Is) rfl (fun hc81 => ?_) (fun hc81 => ?_)
   ·replace h := cond_t h hc81
    refine run_seq ?_
    refine run_region' ?_
    obtain ⟨r82, hr83, h⟩ := obind_some h
    refine ot rfl rfl (t_callx (vs := []) (cs := []) [] rfl Try.call10 rfl (law09_sanity_ok n   hr83) showsX_nil rfl (.inl rfl)) ?_
    rintro _ _ ⟨_, ⟨rfl, rfl⟩, rfl⟩
    refine oy rfl rfl (y_move rfl) ?_
    refine ops_cut 4 (Bool) (fun σ => [(116, .bool σ)]) (fun σ => []) (fun σ => σ = (r82 && decide ((r13.2.1.length : Int) = 0))) (fun L84 hL85 => ?_) ?_
    ·refine ops_split 112 r82 rfl (fun hg86 => ?_) (fun hg86 => ?_)
     ·skip
      refine ops_y (wg 1 true 112 rfl rfl rfl rfl) rfl (y_move rfl) ?_
      refine ops_y (wg 1 true 112 rfl rfl rfl rfl) rfl ((y_len 2 rfl Try.runUnderlying34 rfl rfl reads_row).to (v_len (eInt .i64) _)) ?_
      refine ops_y (wg 1 true 112 rfl rfl rfl rfl) rfl (y_eql rfl rfl) ?_
      refine oy rfl rfl (y_pick (b := true) rfl rfl) ?_
      refine ops_nil ?_
      exact goes_cut hL85 (decide ((r13.2.1.length : Int) = 0)) [] (vcons rfl (vnil)) (by decide) rfl (by rw [hg86]; simp)
     ·skip
      refine ops_no 1 true 112 rfl rfl rfl rfl rfl ?_
      refine ops_no 1 true 112 rfl rfl rfl rfl rfl ?_
      refine ops_no 1 true 112 rfl rfl rfl rfl rfl ?_
      refine oy rfl rfl (y_pick (b := false) rfl rfl) ?_
      refine ops_nil ?_
      exact goes_cut hL85 false [] (vcons rfl (vnil)) (by decide) rfl (by rw [hg86]; simp)
    rintro _ rfl
    refine oy rfl rfl (y_assign rfl) ?_
    refine ops_nil ?_
    refine goes_code ?_
    refine run_ret ?_
    obtain rfl := some_eq h
    refine fin_slots [4] [.bool (r82 && decide ((r13.2.1.length : Int) = 0))] [] [] Try.results3 rfl (by decide) rfl ?_
    exact ⟨rfl, rfl⟩
   ·replace h := cond_f h hc81
    refine run_skip ?_
    refine goes_code ?_
    refine run_seq ?_
    refine run_region' ?_
    obtain ⟨r87, hr88, h⟩ := obind_some h
    refine ot rfl rfl (t_callx (vs := []) (cs := []) [] rfl Try.call10 rfl (law09_sanity_ok n   hr88) showsX_nil rfl (.inl rfl)) ?_
    rintro _ _ ⟨_, ⟨rfl, rfl⟩, rfl⟩
    refine oy rfl rfl (y_move rfl) ?_
    obtain ⟨o90, h, ho91⟩ := bindJ_some h
    refine ops_cut 4 (Bool) (fun σ => [(122, .bool σ)]) (fun σ => []) (fun σ => o90 = .go σ) (fun L92 hL93 => ?_) ?_
    ·refine ops_split 118 r87 rfl (fun hg94 => ?_) (fun hg94 => ?_)
     ·replace h := cond_t h hg94
      refine ops_y (wg 1 true 118 rfl rfl rfl rfl) rfl (y_load_boxagg (c := [.int .i64 n_0.Nodes, n_0_Arcsv]) 0 Try.isAgg24 Try.sizeOf24 rfl rfl rfl) ?_
      refine ops_y (wg 1 true 118 rfl rfl rfl rfl) rfl (y_move rfl) ?_
      obtain ⟨r95, hr96, h⟩ := obind_some h
      refine ops_t (wg 1 true 118 rfl rfl rfl rfl) rfl (t_callx (vs := [.agg #[.int .i64 n_0.Nodes, n_0_Arcsv], v16]) (cs := []) [(1, 0), (2, 1)] rfl Try.call21 rfl (ref09_Cycle_ok n n_0 r13.2.1 n_0_Arcsv v16 hr96) (showsX_view 1 rfl views_ro (showsX_look 2 rfl views_row showsX_nil)) rfl (.inr (by rintro _ _ ⟨rfl, rfl⟩ g hg; first | (cases hg; done) | (simp only [List.mem_cons, List.not_mem_nil, or_false] at hg; first | (subst hg; first | exact strict_row | exact strict_box) | (rcases hg with rfl | rfl <;> first | exact strict_row | exact strict_box) | (rcases hg with rfl | rfl | rfl <;> first | exact strict_row | exact strict_box))))) ?_
      rintro _ _ ⟨_, ⟨rfl, rfl⟩, rfl⟩
      refine oy rfl rfl (y_pick (b := true) rfl rfl) ?_
      refine ops_nil ?_
      obtain rfl := some_eq h
      exact goes_cut hL93 r95 [] (vcons rfl (vnil)) (by decide) rfl rfl
     ·replace h := cond_f h hg94
      refine ops_no 1 true 118 rfl rfl rfl rfl rfl ?_
      refine ops_no 1 true 118 rfl rfl rfl rfl rfl ?_
      refine ops_no 1 true 118 rfl rfl rfl rfl rfl ?_
      refine oy rfl rfl (y_pick (b := false) rfl rfl) ?_
      refine ops_nil ?_
      obtain rfl := some_eq h
      exact goes_cut hL93 false [] (vcons rfl (vnil)) (by decide) rfl rfl
    rintro b89 hj
    obtain rfl : o90 = _ := hj
    replace h := after_go ho91
    clear ho91
    refine oy rfl rfl (y_assign rfl) ?_
    refine ops_nil ?_
    refine goes_code ?_
    refine run_ret ?_
    obtain rfl := some_eq h
    refine fin_slots [4] [.bool b89] [] [] Try.results3 rfl (by decide) rfl ?_
    exact ⟨rfl, rfl⟩

end Go.Proofs.Ytgelifcckhemiaa
