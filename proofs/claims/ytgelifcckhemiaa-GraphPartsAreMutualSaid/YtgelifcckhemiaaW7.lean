/-
  The law GraphPartsAreMutual, lifted.
-/
import Derived.Test.YtgelifcckhemiaaG6a
namespace Go.Proofs.Ytgelifcckhemiaa
open Go.Abs
set_option linter.unusedVariables false
set_option linter.unusedSimpArgs false
set_option maxRecDepth 20000
set_option maxHeartbeats 4000000


def law09_GraphPartsAreMutual_L2 (n_0 : S_api_Net) (r15 : (List (List Int)) × Int) (i_28 : Int) : (Int × Int × (List Int)) → Option (Lp (Int × Int × (List Int)) (Lp (Int × (List Int)) (Lp (Int × Int × (List Int)) (Lp (Int × (List Int)) (Bool))))) :=
  fun (count_41, k_42, x_43) =>
    idx r15.1 i_28 fun x48 =>
    cond (decide (k_42 < (x48.length : Int)))
      (idx x48 k_42 fun x52 =>
      bindJ (S := Bool)
        (cond (decide (x52 < 0) || decide (n_0.Nodes ≤ x52))
          (some (.go true))
          (idx x_43 x52 fun x62 =>
          some (.go (decide (x62 ≠ 0)))))
      (fun b56 =>
        cond b56
          (some (.stop (.stop (.stop (.stop false)))))
          (idx x_43 x52 fun x64 =>
          some (.go ((IntKind.i64.wrap (count_41 + 1)), (IntKind.i64.wrap (k_42 + 1)), (x_43.set x52.toNat (IntKind.i64.wrap (i_28 + 1))))))))
      (some (.stop (.go (count_41, x_43))))
def law09_GraphPartsAreMutual_L1 (n : Nat) (n_0 : S_api_Net) (r15 : (List (List Int)) × Int) : (Int × Int × (List Int)) → Option (Lp (Int × Int × (List Int)) (Lp (Int × (List Int)) (Bool))) :=
  fun (count_27, i_28, x_29) =>
    cond (decide (i_28 < (r15.1.length : Int)))
      (bindJ (S := Int × (List Int))
        (iter (law09_GraphPartsAreMutual_L2 n_0 r15 i_28) n (count_27, 0, x_29))
      (fun (count_35, x_36) =>
        some (.go (count_35, (IntKind.i64.wrap (i_28 + 1)), x_36))))
      (some (.stop (.go (count_27, x_29))))
def law09_GraphPartsAreMutual_L4 (n_0 : S_api_Net) (r79 : (List Bool) × Int) : (Int) → Option (Lp (Int) (Lp (Unit) (Lp ((List (List Bool)) × Int) (Lp ((List (List Bool))) (Bool))))) :=
  fun i_97 =>
    cond (decide (i_97 < (n_0.Arcs.length : Int)))
      (idx n_0.Arcs i_97 fun x103 =>
      idx r79.1 x103.From fun x104 =>
      bindJ (S := Bool)
        (cond x104
          (idx r79.1 x103.To fun x111 =>
          some (.go (!x111)))
          (some (.go false)))
      (fun b105 =>
        cond b105
          (some (.stop (.stop (.stop (.stop false)))))
          (some (.go (IntKind.i64.wrap (i_97 + 1))))))
      (some (.stop (.go ())))
def law09_GraphPartsAreMutual_L3 (n : Nat) (n_0 : S_api_Net) : ((List (List Bool)) × Int) → Option (Lp ((List (List Bool)) × Int) (Lp ((List (List Bool))) (Bool))) :=
  fun (all_71, v_72) =>
    cond (decide (v_72 < n_0.Nodes))
      (obind (graph_Reach n n_0 v_72) fun r79 =>
      bindJ (S := Bool)
        (cond (decide (r79.2 ≠ 0) || decide ((r79.1.length : Int) ≠ n_0.Nodes))
          (some (.go true))
          (idx r79.1 v_72 fun x91 =>
          some (.go (!x91))))
      (fun b85 =>
        cond b85
          (some (.stop (.stop false)))
          (bindJ (S := Unit)
            (iter (law09_GraphPartsAreMutual_L4 n_0 r79) n 0)
          (fun _ =>
            need (all_71.length + ([r79.1] : List (List Bool)).length ≤ 4294967296) (
            some (.go ((all_71 ++ ([r79.1] : List (List Bool))), (IntKind.i64.wrap (v_72 + 1)))))))))
      (some (.stop (.go all_71)))
def law09_GraphPartsAreMutual_L6 (n_0 : S_api_Net) (x_22 : (List Int)) (all_65 : (List (List Bool))) (v_121 : Int) : (Int) → Option (Lp (Int) (Lp (Unit) (Lp (Int) (Lp (Unit) (Bool))))) :=
  fun w_131 =>
    cond (decide (w_131 < n_0.Nodes))
      (idx x_22 v_121 fun x137 =>
      idx x_22 w_131 fun x138 =>
      idx all_65 v_121 fun x139 =>
      idx x139 w_131 fun x141 =>
      bindJ (S := Bool)
        (cond x141
          (idx all_65 w_131 fun x148 =>
          idx x148 v_121 fun x150 =>
          some (.go x150))
          (some (.go false)))
      (fun b142 =>
        cond (!((decide (x137 = x138)) == b142))
          (some (.stop (.stop (.stop (.stop false)))))
          (some (.go (IntKind.i64.wrap (w_131 + 1))))))
      (some (.stop (.go ())))
def law09_GraphPartsAreMutual_L5 (n : Nat) (n_0 : S_api_Net) (x_22 : (List Int)) (all_65 : (List (List Bool))) : (Int) → Option (Lp (Int) (Lp (Unit) (Bool))) :=
  fun v_121 =>
    cond (decide (v_121 < n_0.Nodes))
      (bindJ (S := Unit)
        (iter (law09_GraphPartsAreMutual_L6 n_0 x_22 all_65 v_121) n 0)
      (fun _ =>
        some (.go (IntKind.i64.wrap (v_121 + 1)))))
      (some (.stop (.go ())))
def law09_GraphPartsAreMutual (n : Nat) (n_0 : S_api_Net) : Option (Bool) :=
  obind (law09_few n_0) fun r2 =>
  bindJ (S := Bool)
    (cond (!r2)
      (some (.go true))
      (obind (graph_Valid n n_0) fun r10 =>
      some (.go (!r10))))
  (fun b4 =>
    cond b4
      (obind (law09_sanity n) fun r13 =>
      some r13)
      (obind (graph_Parts n n_0) fun r15 =>
      cond (decide (r15.2 ≠ 0))
        (some false)
        (need (0 ≤ n_0.Nodes ∧ n_0.Nodes ≤ 4294967296) (
        bindJ (S := Int × (List Int))
          (iter (law09_GraphPartsAreMutual_L1 n n_0 r15) n (0, 0, (List.replicate (n_0.Nodes).toNat (0 : Int))))
        (fun (count_21, x_22) =>
          bindJ (S := (List (List Bool)))
            (iter (law09_GraphPartsAreMutual_L3 n n_0) n (([] : List (List Bool)), 0))
          (fun all_65 =>
            bindJ (S := Unit)
              (iter (law09_GraphPartsAreMutual_L5 n n_0 x_22 all_65) n 0)
            (fun _ =>
              obind (law09_sanity n) fun r152 =>
              some (r152 && decide (count_21 = n_0.Nodes)))))))))
theorem law09_GraphPartsAreMutual_ok (n : Nat) (n_0 : S_api_Net) (n_0_Arcsv : Value) {r : Bool} (h : law09_GraphPartsAreMutual n n_0 = some r) :
    Meets Try.prog 7 [.agg #[.int .i64 n_0.Nodes, n_0_Arcsv]] [ro n_0_Arcsv 4 (n_0.Arcs.map S_api_Arc.enc)] (fun v G => v = .bool r ∧ G = []) := by
  refine fn_of_run Try.func7 rfl Try.ntmps7 rfl (fun w0 o0 => ?_)
  refine run_seq ?_
  refine run_region' ?_
  refine ops_t (wn rfl) rfl (t_box rfl) ?_
  rintro _ _ ⟨b1, rfl, rfl⟩
  refine ops_y (wn rfl) rfl (y_assign rfl) ?_
  refine ops_nil ?_
  refine goes_code ?_
  refine run_seq ?_
  refine run_seq ?_
  refine run_region' ?_
  refine ops_y (wn rfl) rfl (y_load_boxagg (c := [.int .i64 n_0.Nodes, n_0_Arcsv]) 1 Try.isAgg24 Try.sizeOf24 rfl rfl rfl) ?_
  obtain ⟨r2, hr3, h⟩ := obind_some h
  refine ops_t (wn rfl) rfl (t_callx (vs := [.agg #[.int .i64 n_0.Nodes, n_0_Arcsv]]) (cs := []) [(0, 0)] rfl Try.call9 rfl (law09_few_ok n_0 n_0_Arcsv hr3) (showsX_view 0 rfl views_ro showsX_nil) rfl (.inl rfl)) ?_
  rintro _ _ ⟨_, ⟨rfl, rfl⟩, rfl⟩
  refine ops_y (wn rfl) rfl (y_not rfl) ?_
  refine ops_y (wn rfl) rfl (y_move rfl) ?_
  obtain ⟨o5, h, ho6⟩ := bindJ_some h
  refine ops_cut 4 (Bool) (fun σ => [(1, boxP b1 0), (24, .bool σ)]) (fun σ => [ro n_0_Arcsv 4 (n_0.Arcs.map S_api_Arc.enc), box b1 [.int .i64 n_0.Nodes, n_0_Arcsv]]) (fun σ => o5 = .go σ) (fun L7 hL8 => ?_) ?_
  · refine ops_split 20 (!r2) rfl (fun hg9 => ?_) (fun hg9 => ?_)
    · replace h := cond_t h hg9
      refine ops_no 3 false 20 rfl rfl rfl rfl rfl ?_
      refine ops_no 3 false 20 rfl rfl rfl rfl rfl ?_
      refine ops_no 3 false 20 rfl rfl rfl rfl rfl ?_
      refine ops_y (wn rfl) rfl (y_pick (b := true) rfl rfl) ?_
      refine ops_nil ?_
      obtain rfl := some_eq h
      exact goes_cut hL8 true [0, 1] (vcons rfl (vcons rfl (vnil))) (by decide) rfl rfl
    · replace h := cond_f h hg9
      refine ops_y (wg 3 false 20 rfl rfl rfl rfl) rfl (y_load_boxagg (c := [.int .i64 n_0.Nodes, n_0_Arcsv]) 1 Try.isAgg24 Try.sizeOf24 rfl rfl rfl) ?_
      obtain ⟨r10, hr11, h⟩ := obind_some h
      refine ops_t (wg 3 false 20 rfl rfl rfl rfl) rfl (t_callx (vs := [.agg #[.int .i64 n_0.Nodes, n_0_Arcsv]]) (cs := []) [(0, 0)] rfl Try.call17 rfl (graph_Valid_ok n n_0 n_0_Arcsv hr11) (showsX_view 0 rfl views_ro showsX_nil) rfl (.inl rfl)) ?_
      rintro _ _ ⟨_, ⟨rfl, rfl⟩, rfl⟩
      refine ops_y (wg 3 false 20 rfl rfl rfl rfl) rfl (y_not rfl) ?_
      refine ops_y (wn rfl) rfl (y_pick (b := false) rfl rfl) ?_
      refine ops_nil ?_
      obtain rfl := some_eq h
      exact goes_cut hL8 (!r10) [0, 1] (vcons rfl (vcons rfl (vnil))) (by decide) rfl rfl
  rintro b4 hj
  obtain rfl : o5 = _ := hj
  replace h := after_go ho6
  clear ho6
  refine ops_nil ?_
  refine goes_code ?_
  refine run_cond b4 rfl (fun hc12 => ?_) (fun hc12 => ?_)
  · replace h := cond_t h hc12
    refine run_seq ?_
    refine run_region' ?_
    obtain ⟨r13, hr14, h⟩ := obind_some h
    refine ops_t (wn rfl) rfl (t_callx (vs := []) (cs := []) [] rfl Try.call10 rfl (law09_sanity_ok n   hr14) showsX_nil rfl (.inl rfl)) ?_
    rintro _ _ ⟨_, ⟨rfl, rfl⟩, rfl⟩
    refine ops_y (wn rfl) rfl (y_assign rfl) ?_
    refine ops_nil ?_
    refine goes_code ?_
    refine run_ret ?_
    obtain rfl := some_eq h
    refine fin_slots [2] [.bool r13] [] [] Try.results7 rfl (by decide) rfl ?_
    exact ⟨rfl, rfl⟩
  · replace h := cond_f h hc12
    refine run_skip ?_
    refine goes_code ?_
    refine run_seq ?_
    refine run_region' ?_
    refine ops_y (wn rfl) rfl (y_load_boxagg (c := [.int .i64 n_0.Nodes, n_0_Arcsv]) 1 Try.isAgg24 Try.sizeOf24 rfl rfl rfl) ?_
    obtain ⟨r15, hr16, h⟩ := obind_some h
    refine ops_t (wn rfl) rfl (t_callx (vs := [.agg #[.int .i64 n_0.Nodes, n_0_Arcsv]]) (cs := []) [(0, 0)] rfl Try.call12 rfl (graph_Parts_ok n n_0 n_0_Arcsv hr16) (showsX_view 0 rfl views_ro showsX_nil) rfl (.inl rfl)) ?_
    rintro _ _ ⟨_, ⟨v17, rfl, rfl⟩, rfl⟩
    refine ops_y (wn rfl) rfl (y_move rfl) ?_
    refine ops_y (wn rfl) rfl (y_extract rfl rfl) ?_
    refine ops_y (wn rfl) rfl (y_extract rfl rfl) ?_
    refine ops_y (wn rfl) rfl (y_assign rfl) ?_
    refine ops_y (wn rfl) rfl (y_assign rfl) ?_
    refine ops_nil ?_
    refine goes_code ?_
    refine run_seq ?_
    refine run_seq ?_
    refine run_region' ?_
    refine ops_y (wn rfl) rfl (y_move rfl) ?_
    refine ops_y (wn rfl) rfl (y_neq rfl rfl) ?_
    refine ops_nil ?_
    refine goes_code ?_
    refine run_cond (decide (r15.2 ≠ 0)) rfl (fun hc18 => ?_) (fun hc18 => ?_)
    · replace h := cond_t h hc18
      refine run_seq ?_
      refine run_weak [] [] [] vnil (by decide) rfl ?_
      refine run_region' ?_
      refine ops_y (wn rfl) rfl (y_assign rfl) ?_
      refine ops_nil ?_
      refine goes_code ?_
      refine run_ret ?_
      obtain rfl := some_eq h
      refine fin_slots [2] [.bool false] [] [] Try.results7 rfl (by decide) rfl ?_
      exact ⟨rfl, rfl⟩
    · replace h := cond_f h hc18
      refine run_skip ?_
      refine goes_code ?_
      refine run_seq ?_
      refine run_weak [(1, boxP b1 0), (3, v17)] [0, 1, 2] [ro n_0_Arcsv 4 (n_0.Arcs.map S_api_Arc.enc), box b1 [.int .i64 n_0.Nodes, n_0_Arcsv], nrow v17 NC_L_int_34 r15.1] (vcons rfl (vcons rfl (vnil))) (by decide) rfl ?_
      refine run_region' ?_
      refine ops_y (wn rfl) rfl (y_fieldAddr_box (sz := 0) Try.runUnderlying24 rfl Try.sizeOf3 rfl) ?_
      refine ops_y (wn rfl) rfl (y_load_box 1 Try.isAgg3 rfl rfl rfl) ?_
      obtain ⟨hm20, h⟩ := need_some h
      refine ops_t (wn rfl) rfl (t_makeSlice (es := 1) Try.runUnderlying34 Try.typeInfo3 rfl Try.zeroValue3 rfl (by decide) rfl rfl hm20.1 hm20.2 (by decide)) ?_
      rintro v19 _ rfl
      refine ops_turn (retell 3 (g := row v19 1 ((List.replicate (n_0.Nodes).toNat (0 : Int)).map (eInt .i64))) rfl (congrArg (row _ _) (map_rep rfl))) ?_
      refine ops_y (wn rfl) rfl (y_assign rfl) ?_
      refine ops_nil ?_
      refine goes_code ?_
      refine run_seq ?_
      refine run_region' ?_
      refine ops_y (wn rfl) rfl (y_assign rfl) ?_
      refine ops_nil ?_
      refine goes_code ?_
      obtain ⟨o23, h, ho24⟩ := bindJ_some h
      refine run_cut ((Int × (List Int)) × (Unit)) (fun σ => [(1, boxP b1 0), (5, v19), (6, .int .i64 σ.1.1)]) (fun σ => [box b1 [.int .i64 n_0.Nodes, n_0_Arcsv], ro n_0_Arcsv 4 (n_0.Arcs.map S_api_Arc.enc), row v19 1 (σ.1.2.map (eInt .i64))]) (fun σ => o23 = .go σ.1) (fun L26 hL25 => ?_) ?_
      · -- the ways through
        refine run_seq ?_
        refine run_region' ?_
        refine ops_y (wn rfl) rfl (y_assign rfl) ?_
        refine ops_nil ?_
        refine goes_code ?_
        refine run_block ?_
        refine run_iter (step := law09_GraphPartsAreMutual_L1 n n_0 r15) (n := n) (s0 := (0, 0, (List.replicate (n_0.Nodes).toNat (0 : Int)))) h (G := Unit) () (fun σ γ => [(1, boxP b1 0), (3, v17), (5, v19), (6, .int .i64 σ.1), (7, .int .i64 σ.2.1)]) (fun σ γ => [box b1 [.int .i64 n_0.Nodes, n_0_Arcsv], ro n_0_Arcsv 4 (n_0.Arcs.map S_api_Arc.enc), nrow v17 NC_L_int_34 r15.1, row v19 1 (σ.2.2.map (eInt .i64))]) [1, 0, 2, 3] (vcons rfl (vcons rfl (vcons rfl (vcons rfl (vcons rfl (vnil)))))) (by decide) rfl ?_
        rintro ⟨count_27, i_28, x_29⟩ _ o30 h L33 hgo31 hstop32
        change Run _ _ _ (VF.of [(1, boxP b1 0), (3, v17), (5, v19), (6, .int .i64 count_27), (7, .int .i64 i_28)]) [box b1 [.int .i64 n_0.Nodes, n_0_Arcsv], ro n_0_Arcsv 4 (n_0.Arcs.map S_api_Arc.enc), nrow v17 NC_L_int_34 r15.1, row v19 1 (x_29.map (eInt .i64))]
        refine run_seq ?_
        refine run_seq ?_
        refine run_region' ?_
        refine ops_y (wn rfl) rfl (y_move rfl) ?_
        refine ops_y (wn rfl) rfl (y_move rfl) ?_
        refine ops_y (wn rfl) rfl (y_lenN 2 rfl Try.runUnderlying31 rfl rfl readsN_row) ?_
        refine ops_y (wn rfl) rfl (y_lss rfl rfl) ?_
        refine ops_nil ?_
        refine goes_code ?_
        refine run_cond (decide (i_28 < (r15.1.length : Int))) rfl (fun hc34 => ?_) (fun hc34 => ?_)
        · replace h := cond_t h hc34
          refine run_skip ?_
          refine goes_code ?_
          obtain ⟨o37, h, ho38⟩ := bindJ_some h
          refine run_cut ((Int × (List Int)) × (Unit)) (fun σ => [(1, boxP b1 0), (3, v17), (5, v19), (6, .int .i64 σ.1.1), (7, .int .i64 i_28)]) (fun σ => [box b1 [.int .i64 n_0.Nodes, n_0_Arcsv], ro n_0_Arcsv 4 (n_0.Arcs.map S_api_Arc.enc), nrow v17 NC_L_int_34 r15.1, row v19 1 (σ.1.2.map (eInt .i64))]) (fun σ => o37 = .go σ.1) (fun L40 hL39 => ?_) ?_
          · -- the ways through
            refine run_block ?_
            refine run_seq ?_
            refine run_region' ?_
            refine ops_y (wn rfl) rfl (y_assign rfl) ?_
            refine ops_nil ?_
            refine goes_code ?_
            refine run_block ?_
            refine run_iter (step := law09_GraphPartsAreMutual_L2 n_0 r15 i_28) (n := n) (s0 := (count_27, 0, x_29)) h (G := Unit) () (fun σ γ => [(1, boxP b1 0), (3, v17), (5, v19), (6, .int .i64 σ.1), (7, .int .i64 i_28), (8, .int .i64 σ.2.1)]) (fun σ γ => [box b1 [.int .i64 n_0.Nodes, n_0_Arcsv], ro n_0_Arcsv 4 (n_0.Arcs.map S_api_Arc.enc), nrow v17 NC_L_int_34 r15.1, row v19 1 (σ.2.2.map (eInt .i64))]) [0, 1, 2, 3] (vcons rfl (vcons rfl (vcons rfl (vcons rfl (vcons rfl (vcons rfl (vnil))))))) (by decide) rfl ?_
            rintro ⟨count_41, k_42, x_43⟩ _ o44 h L47 hgo45 hstop46
            change Run _ _ _ (VF.of [(1, boxP b1 0), (3, v17), (5, v19), (6, .int .i64 count_41), (7, .int .i64 i_28), (8, .int .i64 k_42)]) [box b1 [.int .i64 n_0.Nodes, n_0_Arcsv], ro n_0_Arcsv 4 (n_0.Arcs.map S_api_Arc.enc), nrow v17 NC_L_int_34 r15.1, row v19 1 (x_43.map (eInt .i64))]
            refine run_seq ?_
            refine run_seq ?_
            refine run_region' ?_
            refine ops_y (wn rfl) rfl (y_move rfl) ?_
            refine ops_y (wn rfl) rfl (y_move rfl) ?_
            refine ops_y (wn rfl) rfl (y_move rfl) ?_
            obtain ⟨x48, hzx48, hlx48, hxx48, h⟩ := idx_some h
            refine ops_y (wn rfl) rfl (y_indexAddrN (kd := .i64) (i := i_28) 2 Try.runUnderlying31 Try.sizeOf34 rfl rfl rfl readsN_row hzx48 hlx48) ?_
            refine ops_t (wn rfl) rfl (t_loadNf (C := NC_L_int_34) (i := i_28.toNat) (j := 0) 2 (fun γ => γ) Try.isAgg34 rfl rfl hxx48 (fun _ => rfl)) ?_
            rintro _ _ ⟨g49, rfl, rfl⟩
            refine ops_y (wn rfl) rfl ((y_len 4 rfl Try.runUnderlying34 rfl rfl reads_ro).to (v_len (eInt .i64) _)) ?_
            refine ops_y (wn rfl) rfl (y_lss rfl rfl) ?_
            refine ops_nil ?_
            refine goes_code ?_
            refine run_cond (decide (k_42 < (x48.length : Int))) rfl (fun hc50 => ?_) (fun hc50 => ?_)
            · replace h := cond_t h hc50
              refine run_skip ?_
              refine goes_code ?_
              refine run_seq ?_
              refine run_block ?_
              refine run_seq ?_
              refine run_region' ?_
              refine ops_y (wn rfl) rfl (y_move rfl) ?_
              refine ops_y (wn rfl) rfl (y_move rfl) ?_
              refine ops_y (wn rfl) rfl (y_indexAddrN (kd := .i64) (i := i_28) 2 Try.runUnderlying31 Try.sizeOf34 rfl rfl rfl readsN_row hzx48 hlx48) ?_
              refine ops_t (wn rfl) rfl (t_loadNf (C := NC_L_int_34) (i := i_28.toNat) (j := 0) 2 (fun γ => γ) Try.isAgg34 rfl rfl hxx48 (fun _ => rfl)) ?_
              rintro _ _ ⟨g51, rfl, rfl⟩
              refine ops_y (wn rfl) rfl (y_move rfl) ?_
              obtain ⟨x52, hzx52, hlx52, hxx52, h⟩ := idx_some h
              refine ops_y (wn rfl) rfl (y_indexAddrI (kd := .i64) (i := k_42) 5 Try.runUnderlying34 Try.sizeOf3 rfl rfl rfl reads_ro hzx52 (map_lt hlx52)) ?_
              refine ops_y (wn rfl) rfl (y_load_elem (i := k_42.toNat) 5 Try.isAgg3 rfl rfl reads_ro (map_get hxx52)) ?_
              refine ops_y (wn rfl) rfl (y_assign rfl) ?_
              refine ops_nil ?_
              refine goes_code ?_
              refine run_seq ?_
              refine run_seq ?_
              refine run_weak [(1, boxP b1 0), (3, v17), (5, v19), (6, .int .i64 count_41), (7, .int .i64 i_28), (8, .int .i64 k_42), (9, .int .i64 x52)] [0, 1, 2, 3] [box b1 [.int .i64 n_0.Nodes, n_0_Arcsv], ro n_0_Arcsv 4 (n_0.Arcs.map S_api_Arc.enc), nrow v17 NC_L_int_34 r15.1, row v19 1 (x_43.map (eInt .i64))] (vcons rfl (vcons rfl (vcons rfl (vcons rfl (vcons rfl (vcons rfl (vcons rfl (vnil)))))))) (by decide) rfl ?_
              refine run_region' ?_
              refine ops_y (wn rfl) rfl (y_move rfl) ?_
              refine ops_y (wn rfl) rfl (y_lss rfl rfl) ?_
              refine ops_y (wn rfl) rfl (y_move rfl) ?_
              refine ops_cut 5 (Bool) (fun σ => [(1, boxP b1 0), (3, v17), (5, v19), (6, .int .i64 count_41), (7, .int .i64 i_28), (8, .int .i64 k_42), (9, .int .i64 x52), (65, .bool σ)]) (fun σ => [box b1 [.int .i64 n_0.Nodes, n_0_Arcsv], ro n_0_Arcsv 4 (n_0.Arcs.map S_api_Arc.enc), nrow v17 NC_L_int_34 r15.1, row v19 1 (x_43.map (eInt .i64))]) (fun σ => σ = (decide (x52 < 0) || decide (n_0.Nodes ≤ x52))) (fun L53 hL54 => ?_) ?_
              · refine ops_split 60 (decide (x52 < 0)) rfl (fun hg55 => ?_) (fun hg55 => ?_)
                · skip
                  refine ops_no 2 false 60 rfl rfl rfl rfl rfl ?_
                  refine ops_no 2 false 60 rfl rfl rfl rfl rfl ?_
                  refine ops_no 2 false 60 rfl rfl rfl rfl rfl ?_
                  refine ops_no 2 false 60 rfl rfl rfl rfl rfl ?_
                  refine ops_y (wn rfl) rfl (y_pick (b := true) rfl rfl) ?_
                  refine ops_nil ?_
                  exact goes_cut hL54 true [0, 1, 2, 3] (vcons rfl (vcons rfl (vcons rfl (vcons rfl (vcons rfl (vcons rfl (vcons rfl (vcons rfl (vnil))))))))) (by decide) rfl (by rw [hg55]; simp)
                · skip
                  refine ops_y (wg 2 false 60 rfl rfl rfl rfl) rfl (y_move rfl) ?_
                  refine ops_y (wg 2 false 60 rfl rfl rfl rfl) rfl (y_fieldAddr_box (sz := 0) Try.runUnderlying24 rfl Try.sizeOf3 rfl) ?_
                  refine ops_y (wg 2 false 60 rfl rfl rfl rfl) rfl (y_load_box 0 Try.isAgg3 rfl rfl rfl) ?_
                  refine ops_y (wg 2 false 60 rfl rfl rfl rfl) rfl (y_geq rfl rfl) ?_
                  refine ops_y (wn rfl) rfl (y_pick (b := false) rfl rfl) ?_
                  refine ops_nil ?_
                  exact goes_cut hL54 (decide (n_0.Nodes ≤ x52)) [0, 1, 2, 3] (vcons rfl (vcons rfl (vcons rfl (vcons rfl (vcons rfl (vcons rfl (vcons rfl (vcons rfl (vnil))))))))) (by decide) rfl (by rw [hg55]; simp)
              rintro _ rfl
              refine ops_y (wn rfl) rfl (y_move rfl) ?_
              obtain ⟨o57, h, ho58⟩ := bindJ_some h
              refine ops_cut 6 (Bool) (fun σ => [(1, boxP b1 0), (3, v17), (5, v19), (6, .int .i64 count_41), (7, .int .i64 i_28), (8, .int .i64 k_42), (9, .int .i64 x52), (72, .bool σ)]) (fun σ => [box b1 [.int .i64 n_0.Nodes, n_0_Arcsv], ro n_0_Arcsv 4 (n_0.Arcs.map S_api_Arc.enc), nrow v17 NC_L_int_34 r15.1, row v19 1 (x_43.map (eInt .i64))]) (fun σ => o57 = .go σ) (fun L59 hL60 => ?_) ?_
              · refine ops_split 66 (decide (x52 < 0) || decide (n_0.Nodes ≤ x52)) rfl (fun hg61 => ?_) (fun hg61 => ?_)
                · replace h := cond_t h hg61
                  refine ops_no 8 false 66 rfl rfl rfl rfl rfl ?_
                  refine ops_no 8 false 66 rfl rfl rfl rfl rfl ?_
                  refine ops_no 8 false 66 rfl rfl rfl rfl rfl ?_
                  refine ops_no 8 false 66 rfl rfl rfl rfl rfl ?_
                  refine ops_no 8 false 66 rfl rfl rfl rfl rfl ?_
                  refine ops_y (wn rfl) rfl (y_pick (b := true) rfl rfl) ?_
                  refine ops_nil ?_
                  obtain rfl := some_eq h
                  exact goes_cut hL60 true [0, 1, 2, 3] (vcons rfl (vcons rfl (vcons rfl (vcons rfl (vcons rfl (vcons rfl (vcons rfl (vcons rfl (vnil))))))))) (by decide) rfl rfl
                · replace h := cond_f h hg61
                  refine ops_y (wg 8 false 66 rfl rfl rfl rfl) rfl (y_move rfl) ?_
                  refine ops_y (wg 8 false 66 rfl rfl rfl rfl) rfl (y_move rfl) ?_
                  obtain ⟨x62, hzx62, hlx62, hxx62, h⟩ := idx_some h
                  refine ops_y (wg 8 false 66 rfl rfl rfl rfl) rfl (y_indexAddrI (kd := .i64) (i := x52) 3 Try.runUnderlying34 Try.sizeOf3 rfl rfl rfl reads_row hzx62 (map_lt hlx62)) ?_
                  refine ops_y (wg 8 false 66 rfl rfl rfl rfl) rfl (y_load_elem (i := x52.toNat) 3 Try.isAgg3 rfl rfl reads_row (map_get hxx62)) ?_
                  refine ops_y (wg 8 false 66 rfl rfl rfl rfl) rfl (y_neq rfl rfl) ?_
                  refine ops_y (wn rfl) rfl (y_pick (b := false) rfl rfl) ?_
                  refine ops_nil ?_
                  obtain rfl := some_eq h
                  exact goes_cut hL60 (decide (x62 ≠ 0)) [0, 1, 2, 3] (vcons rfl (vcons rfl (vcons rfl (vcons rfl (vcons rfl (vcons rfl (vcons rfl (vcons rfl (vnil))))))))) (by decide) rfl rfl
              rintro b56 hj
              obtain rfl : o57 = _ := hj
              replace h := after_go ho58
              clear ho58
              refine ops_nil ?_
              refine goes_code ?_
              refine run_cond b56 rfl (fun hc63 => ?_) (fun hc63 => ?_)
              · replace h := cond_t h hc63
                refine run_seq ?_
                refine run_region' ?_
                refine ops_y (wn rfl) rfl (y_assign rfl) ?_
                refine ops_nil ?_
                refine goes_code ?_
                refine run_ret ?_
                obtain rfl := some_eq h
                obtain rfl := hstop46 _ rfl
                skip
                obtain rfl := after_stop ho38
                skip
                obtain rfl := hstop32 _ rfl
                skip
                obtain rfl := after_stop ho24
                refine fin_slots [2] [.bool false] [] [] Try.results7 rfl (by decide) rfl ?_
                exact ⟨rfl, rfl⟩
              · replace h := cond_f h hc63
                refine run_skip ?_
                refine goes_code ?_
                refine run_seq ?_
                refine run_region' ?_
                refine ops_y (wn rfl) rfl (y_move rfl) ?_
                refine ops_y (wn rfl) rfl (y_move rfl) ?_
                refine ops_y (wn rfl) rfl (y_move rfl) ?_
                refine ops_y (wn rfl) rfl (y_add rfl rfl) ?_
                obtain ⟨x64, hzx64, hlx64, hxx64, h⟩ := idx_some h
                refine ops_y (wn rfl) rfl (y_indexAddrI (kd := .i64) (i := x52) 3 Try.runUnderlying34 Try.sizeOf3 rfl rfl rfl reads_row hzx64 (map_lt hlx64)) ?_
                refine ops_t (wn rfl) rfl (t_store_row (i := x52.toNat) (j := 0) (c := (eInt .i64) x64) 3 Try.sizeOf3 rfl rfl rfl rfl (map_get hxx64) (by decide) (by simp [Value.cells, Value.oneCell', boxP])) ?_
                rintro _ _ ⟨rfl, rfl⟩
                refine ops_turn (retell 3 (g := row v19 1 ((x_43.set x52.toNat (IntKind.i64.wrap (i_28 + 1))).map (eInt .i64))) rfl (congrArg (row _ _) (map_set_at rfl))) ?_
                refine ops_nil ?_
                refine goes_code ?_
                refine run_region' ?_
                refine ops_y (wn rfl) rfl (y_move rfl) ?_
                refine ops_y (wn rfl) rfl (y_add rfl rfl) ?_
                refine ops_y (wn rfl) rfl (y_assign rfl) ?_
                refine ops_nil ?_
                refine goes_blk ?_
                refine goes_code ?_
                refine run_weak [(1, boxP b1 0), (3, v17), (5, v19), (6, .int .i64 (IntKind.i64.wrap (count_41 + 1))), (7, .int .i64 i_28), (8, .int .i64 k_42)] [0, 1, 2, 3] [box b1 [.int .i64 n_0.Nodes, n_0_Arcsv], ro n_0_Arcsv 4 (n_0.Arcs.map S_api_Arc.enc), nrow v17 NC_L_int_34 r15.1, row v19 1 ((x_43.set x52.toNat (IntKind.i64.wrap (i_28 + 1))).map (eInt .i64))] (vcons rfl (vcons rfl (vcons rfl (vcons rfl (vcons rfl (vcons rfl (vnil))))))) (by decide) rfl ?_
                refine run_region' ?_
                refine ops_y (wn rfl) rfl (y_move rfl) ?_
                refine ops_y (wn rfl) rfl (y_add rfl rfl) ?_
                refine ops_y (wn rfl) rfl (y_assign rfl) ?_
                refine ops_nil ?_
                obtain rfl := some_eq h
                exact goes_iter hgo45 ((IntKind.i64.wrap (count_41 + 1)), (IntKind.i64.wrap (k_42 + 1)), (x_43.set x52.toNat (IntKind.i64.wrap (i_28 + 1)))) () [0, 1, 2, 3] rfl (vcons rfl (vcons rfl (vcons rfl (vcons rfl (vcons rfl (vcons rfl (vnil))))))) (by decide) rfl
            · replace h := cond_f h hc50
              refine run_exit _ rfl ?_
              refine goes_blk ?_
              obtain rfl := some_eq h
              obtain rfl := hstop46 _ rfl
              exact goes_cut hL39 ((count_41, x_43), ()) [0, 1, 2, 3] (vcons rfl (vcons rfl (vcons rfl (vcons rfl (vcons rfl (vnil)))))) (by decide) rfl rfl
          rintro ⟨⟨count_35, x_36⟩, _⟩ hj
          obtain rfl : o37 = _ := hj
          replace h := after_go ho38
          clear ho38
          change Run _ _ _ (VF.of [(1, boxP b1 0), (3, v17), (5, v19), (6, .int .i64 count_35), (7, .int .i64 i_28)]) [box b1 [.int .i64 n_0.Nodes, n_0_Arcsv], ro n_0_Arcsv 4 (n_0.Arcs.map S_api_Arc.enc), nrow v17 NC_L_int_34 r15.1, row v19 1 (x_36.map (eInt .i64))]
          refine run_region' ?_
          refine ops_y (wn rfl) rfl (y_move rfl) ?_
          refine ops_y (wn rfl) rfl (y_add rfl rfl) ?_
          refine ops_y (wn rfl) rfl (y_assign rfl) ?_
          refine ops_nil ?_
          obtain rfl := some_eq h
          exact goes_iter hgo31 (count_35, (IntKind.i64.wrap (i_28 + 1)), x_36) () [0, 1, 2, 3] rfl (vcons rfl (vcons rfl (vcons rfl (vcons rfl (vcons rfl (vnil)))))) (by decide) rfl
        · replace h := cond_f h hc34
          refine run_exit _ rfl ?_
          obtain rfl := some_eq h
          obtain rfl := hstop32 _ rfl
          exact goes_cut hL25 ((count_27, x_29), ()) [0, 1, 3] (vcons rfl (vcons rfl (vcons rfl (vnil)))) (by decide) rfl rfl
      rintro ⟨⟨count_21, x_22⟩, _⟩ hj
      obtain rfl : o23 = _ := hj
      replace h := after_go ho24
      clear ho24
      change Run _ _ _ (VF.of [(1, boxP b1 0), (5, v19), (6, .int .i64 count_21)]) [box b1 [.int .i64 n_0.Nodes, n_0_Arcsv], ro n_0_Arcsv 4 (n_0.Arcs.map S_api_Arc.enc), row v19 1 (x_22.map (eInt .i64))]
      refine run_seq ?_
      refine run_region' ?_
      refine ops_y (wn rfl) rfl (y_assign rfl) ?_
      refine ops_nil ?_
      refine goes_code ?_
      obtain ⟨o67, h, ho68⟩ := bindJ_some h
      refine run_cut (((List (List Bool))) × (Value)) (fun σ => [(1, boxP b1 0), (5, v19), (6, .int .i64 count_21), (10, σ.2)]) (fun σ => [box b1 [.int .i64 n_0.Nodes, n_0_Arcsv], ro n_0_Arcsv 4 (n_0.Arcs.map S_api_Arc.enc), row v19 1 (x_22.map (eInt .i64)), nrow σ.2 NC_L_bool_27 σ.1]) (fun σ => o67 = .go σ.1) (fun L70 hL69 => ?_) ?_
      · -- the ways through
        refine run_seq ?_
        refine run_region' ?_
        refine ops_y (wn rfl) rfl (y_assign rfl) ?_
        refine ops_nil ?_
        refine goes_code ?_
        refine run_block ?_
        refine run_turn (nilrowN NC_L_bool_27) ?_
        refine run_iter (step := law09_GraphPartsAreMutual_L3 n n_0) (n := n) (s0 := (([] : List (List Bool)), 0)) h (G := Value) (.slice none 0 0) (fun σ γ => [(1, boxP b1 0), (5, v19), (6, .int .i64 count_21), (10, γ), (11, .int .i64 σ.2)]) (fun σ γ => [box b1 [.int .i64 n_0.Nodes, n_0_Arcsv], ro n_0_Arcsv 4 (n_0.Arcs.map S_api_Arc.enc), row v19 1 (x_22.map (eInt .i64)), nrow γ NC_L_bool_27 σ.1]) [0, 1, 2, 3] (vcons rfl (vcons rfl (vcons rfl (vcons rfl (vcons rfl (vnil)))))) (by decide) rfl ?_
        rintro ⟨all_71, v_72⟩ v73 o74 h L77 hgo75 hstop76
        change Run _ _ _ (VF.of [(1, boxP b1 0), (5, v19), (6, .int .i64 count_21), (10, v73), (11, .int .i64 v_72)]) [box b1 [.int .i64 n_0.Nodes, n_0_Arcsv], ro n_0_Arcsv 4 (n_0.Arcs.map S_api_Arc.enc), row v19 1 (x_22.map (eInt .i64)), nrow v73 NC_L_bool_27 all_71]
        refine run_seq ?_
        refine run_seq ?_
        refine run_region' ?_
        refine ops_y (wn rfl) rfl (y_move rfl) ?_
        refine ops_y (wn rfl) rfl (y_fieldAddr_box (sz := 0) Try.runUnderlying24 rfl Try.sizeOf3 rfl) ?_
        refine ops_y (wn rfl) rfl (y_load_box 0 Try.isAgg3 rfl rfl rfl) ?_
        refine ops_y (wn rfl) rfl (y_lss rfl rfl) ?_
        refine ops_nil ?_
        refine goes_code ?_
        refine run_cond (decide (v_72 < n_0.Nodes)) rfl (fun hc78 => ?_) (fun hc78 => ?_)
        · replace h := cond_t h hc78
          refine run_skip ?_
          refine goes_code ?_
          refine run_seq ?_
          refine run_block ?_
          refine run_seq ?_
          refine run_region' ?_
          refine ops_y (wn rfl) rfl (y_load_boxagg (c := [.int .i64 n_0.Nodes, n_0_Arcsv]) 0 Try.isAgg24 Try.sizeOf24 rfl rfl rfl) ?_
          refine ops_y (wn rfl) rfl (y_move rfl) ?_
          obtain ⟨r79, hr80, h⟩ := obind_some h
          refine ops_t (wn rfl) rfl (t_callx (vs := [.agg #[.int .i64 n_0.Nodes, n_0_Arcsv], .int .i64 v_72]) (cs := []) [(1, 0)] rfl Try.call11 rfl (graph_Reach_ok n n_0 v_72 n_0_Arcsv hr80) (showsX_view 1 rfl views_ro showsX_nil) rfl (.inl rfl)) ?_
          rintro _ _ ⟨_, ⟨v81, rfl, rfl⟩, rfl⟩
          refine ops_y (wn rfl) rfl (y_move rfl) ?_
          refine ops_y (wn rfl) rfl (y_extract rfl rfl) ?_
          refine ops_y (wn rfl) rfl (y_extract rfl rfl) ?_
          refine ops_y (wn rfl) rfl (y_assign rfl) ?_
          refine ops_y (wn rfl) rfl (y_assign rfl) ?_
          refine ops_nil ?_
          refine goes_code ?_
          refine run_seq ?_
          refine run_seq ?_
          refine run_weak [(1, boxP b1 0), (5, v19), (6, .int .i64 count_21), (10, v73), (11, .int .i64 v_72), (12, v81), (13, .int .i64 r79.2)] [0, 1, 2, 3, 4] [box b1 [.int .i64 n_0.Nodes, n_0_Arcsv], ro n_0_Arcsv 4 (n_0.Arcs.map S_api_Arc.enc), row v19 1 (x_22.map (eInt .i64)), nrow v73 NC_L_bool_27 all_71, row v81 1 (r79.1.map eBool)] (vcons rfl (vcons rfl (vcons rfl (vcons rfl (vcons rfl (vcons rfl (vcons rfl (vnil)))))))) (by decide) rfl ?_
          refine run_region' ?_
          refine ops_y (wn rfl) rfl (y_move rfl) ?_
          refine ops_y (wn rfl) rfl (y_neq rfl rfl) ?_
          refine ops_y (wn rfl) rfl (y_move rfl) ?_
          refine ops_cut 6 (Bool) (fun σ => [(1, boxP b1 0), (5, v19), (6, .int .i64 count_21), (10, v73), (11, .int .i64 v_72), (12, v81), (100, .bool σ)]) (fun σ => [box b1 [.int .i64 n_0.Nodes, n_0_Arcsv], ro n_0_Arcsv 4 (n_0.Arcs.map S_api_Arc.enc), row v19 1 (x_22.map (eInt .i64)), nrow v73 NC_L_bool_27 all_71, row v81 1 (r79.1.map eBool)]) (fun σ => σ = (decide (r79.2 ≠ 0) || decide ((r79.1.length : Int) ≠ n_0.Nodes))) (fun L82 hL83 => ?_) ?_
          · refine ops_split 94 (decide (r79.2 ≠ 0)) rfl (fun hg84 => ?_) (fun hg84 => ?_)
            · skip
              refine ops_no 2 false 94 rfl rfl rfl rfl rfl ?_
              refine ops_no 2 false 94 rfl rfl rfl rfl rfl ?_
              refine ops_no 2 false 94 rfl rfl rfl rfl rfl ?_
              refine ops_no 2 false 94 rfl rfl rfl rfl rfl ?_
              refine ops_no 2 false 94 rfl rfl rfl rfl rfl ?_
              refine ops_y (wn rfl) rfl (y_pick (b := true) rfl rfl) ?_
              refine ops_nil ?_
              exact goes_cut hL83 true [0, 1, 2, 3, 4] (vcons rfl (vcons rfl (vcons rfl (vcons rfl (vcons rfl (vcons rfl (vcons rfl (vnil)))))))) (by decide) rfl (by rw [hg84]; simp)
            · skip
              refine ops_y (wg 2 false 94 rfl rfl rfl rfl) rfl (y_move rfl) ?_
              refine ops_y (wg 2 false 94 rfl rfl rfl rfl) rfl ((y_len 4 rfl Try.runUnderlying27 rfl rfl reads_row).to (v_len eBool _)) ?_
              refine ops_y (wg 2 false 94 rfl rfl rfl rfl) rfl (y_fieldAddr_box (sz := 0) Try.runUnderlying24 rfl Try.sizeOf3 rfl) ?_
              refine ops_y (wg 2 false 94 rfl rfl rfl rfl) rfl (y_load_box 0 Try.isAgg3 rfl rfl rfl) ?_
              refine ops_y (wg 2 false 94 rfl rfl rfl rfl) rfl (y_neq rfl rfl) ?_
              refine ops_y (wn rfl) rfl (y_pick (b := false) rfl rfl) ?_
              refine ops_nil ?_
              exact goes_cut hL83 (decide ((r79.1.length : Int) ≠ n_0.Nodes)) [0, 1, 2, 3, 4] (vcons rfl (vcons rfl (vcons rfl (vcons rfl (vcons rfl (vcons rfl (vcons rfl (vnil)))))))) (by decide) rfl (by rw [hg84]; simp)
          rintro _ rfl
          refine ops_y (wn rfl) rfl (y_move rfl) ?_
          obtain ⟨o86, h, ho87⟩ := bindJ_some h
          refine ops_cut 6 (Bool) (fun σ => [(1, boxP b1 0), (5, v19), (6, .int .i64 count_21), (10, v73), (11, .int .i64 v_72), (12, v81), (107, .bool σ)]) (fun σ => [box b1 [.int .i64 n_0.Nodes, n_0_Arcsv], ro n_0_Arcsv 4 (n_0.Arcs.map S_api_Arc.enc), row v19 1 (x_22.map (eInt .i64)), nrow v73 NC_L_bool_27 all_71, row v81 1 (r79.1.map eBool)]) (fun σ => o86 = .go σ) (fun L88 hL89 => ?_) ?_
          · refine ops_split 101 (decide (r79.2 ≠ 0) || decide ((r79.1.length : Int) ≠ n_0.Nodes)) rfl (fun hg90 => ?_) (fun hg90 => ?_)
            · replace h := cond_t h hg90
              refine ops_no 9 false 101 rfl rfl rfl rfl rfl ?_
              refine ops_no 9 false 101 rfl rfl rfl rfl rfl ?_
              refine ops_no 9 false 101 rfl rfl rfl rfl rfl ?_
              refine ops_no 9 false 101 rfl rfl rfl rfl rfl ?_
              refine ops_no 9 false 101 rfl rfl rfl rfl rfl ?_
              refine ops_y (wn rfl) rfl (y_pick (b := true) rfl rfl) ?_
              refine ops_nil ?_
              obtain rfl := some_eq h
              exact goes_cut hL89 true [0, 1, 2, 3, 4] (vcons rfl (vcons rfl (vcons rfl (vcons rfl (vcons rfl (vcons rfl (vcons rfl (vnil)))))))) (by decide) rfl rfl
            · replace h := cond_f h hg90
              refine ops_y (wg 9 false 101 rfl rfl rfl rfl) rfl (y_move rfl) ?_
              refine ops_y (wg 9 false 101 rfl rfl rfl rfl) rfl (y_move rfl) ?_
              obtain ⟨x91, hzx91, hlx91, hxx91, h⟩ := idx_some h
              refine ops_y (wg 9 false 101 rfl rfl rfl rfl) rfl (y_indexAddrI (kd := .i64) (i := v_72) 4 Try.runUnderlying27 Try.sizeOf4 rfl rfl rfl reads_row hzx91 (map_lt hlx91)) ?_
              refine ops_y (wg 9 false 101 rfl rfl rfl rfl) rfl (y_load_elem (i := v_72.toNat) 4 Try.isAgg4 rfl rfl reads_row (map_get hxx91)) ?_
              refine ops_y (wg 9 false 101 rfl rfl rfl rfl) rfl (y_not rfl) ?_
              refine ops_y (wn rfl) rfl (y_pick (b := false) rfl rfl) ?_
              refine ops_nil ?_
              obtain rfl := some_eq h
              exact goes_cut hL89 (!x91) [0, 1, 2, 3, 4] (vcons rfl (vcons rfl (vcons rfl (vcons rfl (vcons rfl (vcons rfl (vcons rfl (vnil)))))))) (by decide) rfl rfl
          rintro b85 hj
          obtain rfl : o86 = _ := hj
          replace h := after_go ho87
          clear ho87
          refine ops_nil ?_
          refine goes_code ?_
          refine run_cond b85 rfl (fun hc92 => ?_) (fun hc92 => ?_)
          · replace h := cond_t h hc92
            refine run_seq ?_
            refine run_region' ?_
            refine ops_y (wn rfl) rfl (y_assign rfl) ?_
            refine ops_nil ?_
            refine goes_code ?_
            refine run_ret ?_
            obtain rfl := some_eq h
            obtain rfl := hstop76 _ rfl
            skip
            obtain rfl := after_stop ho68
            refine fin_slots [2] [.bool false] [] [] Try.results7 rfl (by decide) rfl ?_
            exact ⟨rfl, rfl⟩
          · replace h := cond_f h hc92
            refine run_skip ?_
            refine goes_code ?_
            obtain ⟨o93, h, ho94⟩ := bindJ_some h
            refine run_cut ((Unit) × (Unit)) (fun σ => [(1, boxP b1 0), (5, v19), (6, .int .i64 count_21), (10, v73), (11, .int .i64 v_72), (12, v81)]) (fun σ => [box b1 [.int .i64 n_0.Nodes, n_0_Arcsv], ro n_0_Arcsv 4 (n_0.Arcs.map S_api_Arc.enc), row v19 1 (x_22.map (eInt .i64)), nrow v73 NC_L_bool_27 all_71, row v81 1 (r79.1.map eBool)]) (fun σ => o93 = .go σ.1) (fun L96 hL95 => ?_) ?_
            · -- the ways through
              refine run_seq ?_
              refine run_region' ?_
              refine ops_y (wn rfl) rfl (y_assign rfl) ?_
              refine ops_nil ?_
              refine goes_code ?_
              refine run_block ?_
              refine run_iter (step := law09_GraphPartsAreMutual_L4 n_0 r79) (n := n) (s0 := 0) h (G := Unit) () (fun σ γ => [(1, boxP b1 0), (5, v19), (6, .int .i64 count_21), (10, v73), (11, .int .i64 v_72), (12, v81), (14, .int .i64 σ)]) (fun σ γ => [box b1 [.int .i64 n_0.Nodes, n_0_Arcsv], ro n_0_Arcsv 4 (n_0.Arcs.map S_api_Arc.enc), row v19 1 (x_22.map (eInt .i64)), nrow v73 NC_L_bool_27 all_71, row v81 1 (r79.1.map eBool)]) [0, 1, 2, 3, 4] (vcons rfl (vcons rfl (vcons rfl (vcons rfl (vcons rfl (vcons rfl (vcons rfl (vnil)))))))) (by decide) rfl ?_
              rintro i_97 _ o98 h L101 hgo99 hstop100
              change Run _ _ _ (VF.of [(1, boxP b1 0), (5, v19), (6, .int .i64 count_21), (10, v73), (11, .int .i64 v_72), (12, v81), (14, .int .i64 i_97)]) [box b1 [.int .i64 n_0.Nodes, n_0_Arcsv], ro n_0_Arcsv 4 (n_0.Arcs.map S_api_Arc.enc), row v19 1 (x_22.map (eInt .i64)), nrow v73 NC_L_bool_27 all_71, row v81 1 (r79.1.map eBool)]
              refine run_seq ?_
              refine run_seq ?_
              refine run_region' ?_
              refine ops_y (wn rfl) rfl (y_move rfl) ?_
              refine ops_y (wn rfl) rfl (y_fieldAddr_box (sz := 0) Try.runUnderlying24 rfl Try.sizeOf22 rfl) ?_
              refine ops_y (wn rfl) rfl (y_load_box 0 Try.isAgg22 rfl rfl rfl) ?_
              refine ops_y (wn rfl) rfl ((y_len 1 rfl Try.runUnderlying22 rfl rfl reads_ro).to (v_len S_api_Arc.enc _)) ?_
              refine ops_y (wn rfl) rfl (y_lss rfl rfl) ?_
              refine ops_nil ?_
              refine goes_code ?_
              refine run_cond (decide (i_97 < (n_0.Arcs.length : Int))) rfl (fun hc102 => ?_) (fun hc102 => ?_)
              · replace h := cond_t h hc102
                refine run_skip ?_
                refine goes_code ?_
                refine run_seq ?_
                refine run_block ?_
                refine run_seq ?_
                refine run_region' ?_
                refine ops_y (wn rfl) rfl (y_move rfl) ?_
                refine ops_y (wn rfl) rfl (y_fieldAddr_box (sz := 0) Try.runUnderlying24 rfl Try.sizeOf22 rfl) ?_
                refine ops_y (wn rfl) rfl (y_load_box 0 Try.isAgg22 rfl rfl rfl) ?_
                refine ops_y (wn rfl) rfl (y_move rfl) ?_
                obtain ⟨x103, hzx103, hlx103, hxx103, h⟩ := idx_some h
                refine ops_y (wn rfl) rfl (y_indexAddrI (kd := .i64) (i := i_97) 1 Try.runUnderlying22 Try.sizeOf67 rfl rfl rfl reads_ro hzx103 (map_lt hlx103)) ?_
                refine ops_y (wn rfl) rfl (y_fieldAddr_elem (sz := 0) Try.runUnderlying67 rfl Try.sizeOf3 rfl) ?_
                refine ops_y (wn rfl) rfl (y_load_field (i := i_97.toNat) (j := 0) 1 Try.isAgg3 rfl rfl reads_ro (map_get hxx103) rfl) ?_
                obtain ⟨x104, hzx104, hlx104, hxx104, h⟩ := idx_some h
                refine ops_y (wn rfl) rfl (y_indexAddrI (kd := .i64) (i := x103.From) 4 Try.runUnderlying27 Try.sizeOf4 rfl rfl rfl reads_row hzx104 (map_lt hlx104)) ?_
                refine ops_y (wn rfl) rfl (y_load_elem (i := (x103.From).toNat) 4 Try.isAgg4 rfl rfl reads_row (map_get hxx104)) ?_
                refine ops_y (wn rfl) rfl (y_move rfl) ?_
                obtain ⟨o106, h, ho107⟩ := bindJ_some h
                refine ops_cut 11 (Bool) (fun σ => [(1, boxP b1 0), (5, v19), (6, .int .i64 count_21), (10, v73), (11, .int .i64 v_72), (12, v81), (14, .int .i64 i_97), (135, .bool σ)]) (fun σ => [box b1 [.int .i64 n_0.Nodes, n_0_Arcsv], ro n_0_Arcsv 4 (n_0.Arcs.map S_api_Arc.enc), row v19 1 (x_22.map (eInt .i64)), nrow v73 NC_L_bool_27 all_71, row v81 1 (r79.1.map eBool)]) (fun σ => o106 = .go σ) (fun L108 hL109 => ?_) ?_
                · refine ops_split 124 x104 rfl (fun hg110 => ?_) (fun hg110 => ?_)
                  · replace h := cond_t h hg110
                    refine ops_weak [(1, boxP b1 0), (5, v19), (6, .int .i64 count_21), (10, v73), (11, .int .i64 v_72), (12, v81), (14, .int .i64 i_97), (124, .bool true)] [0, 1, 2, 3, 4] [box b1 [.int .i64 n_0.Nodes, n_0_Arcsv], ro n_0_Arcsv 4 (n_0.Arcs.map S_api_Arc.enc), row v19 1 (x_22.map (eInt .i64)), nrow v73 NC_L_bool_27 all_71, row v81 1 (r79.1.map eBool)] (vcons rfl (vcons rfl (vcons rfl (vcons rfl (vcons rfl (vcons rfl (vcons rfl (vcons rfl (vnil))))))))) (by decide) rfl ?_
                    refine ops_y (wg 9 true 124 rfl rfl rfl rfl) rfl (y_move rfl) ?_
                    refine ops_y (wg 9 true 124 rfl rfl rfl rfl) rfl (y_fieldAddr_box (sz := 0) Try.runUnderlying24 rfl Try.sizeOf22 rfl) ?_
                    refine ops_y (wg 9 true 124 rfl rfl rfl rfl) rfl (y_load_box 0 Try.isAgg22 rfl rfl rfl) ?_
                    refine ops_y (wg 9 true 124 rfl rfl rfl rfl) rfl (y_move rfl) ?_
                    refine ops_y (wg 9 true 124 rfl rfl rfl rfl) rfl (y_indexAddrI (kd := .i64) (i := i_97) 1 Try.runUnderlying22 Try.sizeOf67 rfl rfl rfl reads_ro hzx103 (map_lt hlx103)) ?_
                    refine ops_y (wg 9 true 124 rfl rfl rfl rfl) rfl (y_fieldAddr_elem (sz := 0) Try.runUnderlying67 rfl Try.sizeOf3 rfl) ?_
                    refine ops_y (wg 9 true 124 rfl rfl rfl rfl) rfl (y_load_field (i := i_97.toNat) (j := 1) 1 Try.isAgg3 rfl rfl reads_ro (map_get hxx103) rfl) ?_
                    obtain ⟨x111, hzx111, hlx111, hxx111, h⟩ := idx_some h
                    refine ops_y (wg 9 true 124 rfl rfl rfl rfl) rfl (y_indexAddrI (kd := .i64) (i := x103.To) 4 Try.runUnderlying27 Try.sizeOf4 rfl rfl rfl reads_row hzx111 (map_lt hlx111)) ?_
                    refine ops_y (wg 9 true 124 rfl rfl rfl rfl) rfl (y_load_elem (i := (x103.To).toNat) 4 Try.isAgg4 rfl rfl reads_row (map_get hxx111)) ?_
                    refine ops_y (wg 9 true 124 rfl rfl rfl rfl) rfl (y_not rfl) ?_
                    refine ops_y (wn rfl) rfl (y_pick (b := true) rfl rfl) ?_
                    refine ops_nil ?_
                    obtain rfl := some_eq h
                    exact goes_cut hL109 (!x111) [0, 1, 2, 3, 4] (vcons rfl (vcons rfl (vcons rfl (vcons rfl (vcons rfl (vcons rfl (vcons rfl (vcons rfl (vnil))))))))) (by decide) rfl rfl
                  · replace h := cond_f h hg110
                    refine ops_weak [(1, boxP b1 0), (5, v19), (6, .int .i64 count_21), (10, v73), (11, .int .i64 v_72), (12, v81), (14, .int .i64 i_97), (124, .bool false)] [0, 1, 2, 3, 4] [box b1 [.int .i64 n_0.Nodes, n_0_Arcsv], ro n_0_Arcsv 4 (n_0.Arcs.map S_api_Arc.enc), row v19 1 (x_22.map (eInt .i64)), nrow v73 NC_L_bool_27 all_71, row v81 1 (r79.1.map eBool)] (vcons rfl (vcons rfl (vcons rfl (vcons rfl (vcons rfl (vcons rfl (vcons rfl (vcons rfl (vnil))))))))) (by decide) rfl ?_
                    refine ops_no 9 true 124 rfl rfl rfl rfl rfl ?_
                    refine ops_no 9 true 124 rfl rfl rfl rfl rfl ?_
                    refine ops_no 9 true 124 rfl rfl rfl rfl rfl ?_
                    refine ops_no 9 true 124 rfl rfl rfl rfl rfl ?_
                    refine ops_no 9 true 124 rfl rfl rfl rfl rfl ?_
                    refine ops_no 9 true 124 rfl rfl rfl rfl rfl ?_
                    refine ops_no 9 true 124 rfl rfl rfl rfl rfl ?_
                    refine ops_no 9 true 124 rfl rfl rfl rfl rfl ?_
                    refine ops_no 9 true 124 rfl rfl rfl rfl rfl ?_
                    refine ops_no 9 true 124 rfl rfl rfl rfl rfl ?_
                    refine ops_y (wn rfl) rfl (y_pick (b := false) rfl rfl) ?_
                    refine ops_nil ?_
                    obtain rfl := some_eq h
                    exact goes_cut hL109 false [0, 1, 2, 3, 4] (vcons rfl (vcons rfl (vcons rfl (vcons rfl (vcons rfl (vcons rfl (vcons rfl (vcons rfl (vnil))))))))) (by decide) rfl rfl
                rintro b105 hj
                obtain rfl : o106 = _ := hj
                replace h := after_go ho107
                clear ho107
                refine ops_nil ?_
                refine goes_code ?_
                refine run_cond b105 rfl (fun hc112 => ?_) (fun hc112 => ?_)
                · replace h := cond_t h hc112
                  refine run_seq ?_
                  refine run_region' ?_
                  refine ops_y (wn rfl) rfl (y_assign rfl) ?_
                  refine ops_nil ?_
                  refine goes_code ?_
                  refine run_ret ?_
                  obtain rfl := some_eq h
                  obtain rfl := hstop100 _ rfl
                  skip
                  obtain rfl := after_stop ho94
                  skip
                  obtain rfl := hstop76 _ rfl
                  skip
                  obtain rfl := after_stop ho68
                  refine fin_slots [2] [.bool false] [] [] Try.results7 rfl (by decide) rfl ?_
                  exact ⟨rfl, rfl⟩
                · replace h := cond_f h hc112
                  refine run_skip ?_
                  refine goes_blk ?_
                  refine goes_code ?_
                  refine run_region' ?_
                  refine ops_y (wn rfl) rfl (y_move rfl) ?_
                  refine ops_y (wn rfl) rfl (y_add rfl rfl) ?_
                  refine ops_y (wn rfl) rfl (y_assign rfl) ?_
                  refine ops_nil ?_
                  obtain rfl := some_eq h
                  exact goes_iter hgo99 (IntKind.i64.wrap (i_97 + 1)) () [0, 1, 2, 3, 4] rfl (vcons rfl (vcons rfl (vcons rfl (vcons rfl (vcons rfl (vcons rfl (vcons rfl (vnil)))))))) (by decide) rfl
              · replace h := cond_f h hc102
                refine run_exit _ rfl ?_
                obtain rfl := some_eq h
                obtain rfl := hstop100 _ rfl
                exact goes_cut hL95 ((), ()) [0, 1, 2, 3, 4] (vcons rfl (vcons rfl (vcons rfl (vcons rfl (vcons rfl (vcons rfl (vnil))))))) (by decide) rfl rfl
            rintro ⟨_, _⟩ hj
            obtain rfl : o93 = _ := hj
            replace h := after_go ho94
            clear ho94
            change Run _ _ _ (VF.of [(1, boxP b1 0), (5, v19), (6, .int .i64 count_21), (10, v73), (11, .int .i64 v_72), (12, v81)]) [box b1 [.int .i64 n_0.Nodes, n_0_Arcsv], ro n_0_Arcsv 4 (n_0.Arcs.map S_api_Arc.enc), row v19 1 (x_22.map (eInt .i64)), nrow v73 NC_L_bool_27 all_71, row v81 1 (r79.1.map eBool)]
            refine run_region' ?_
            refine ops_y (wn rfl) rfl (y_move rfl) ?_
            refine ops_y (wn rfl) rfl (y_move rfl) ?_
            refine ops_turn (Go.Abs.freeze 4 rfl) ?_
            refine ops_slc 4 rfl reads_ro (fun hs114 hs114o => ?_)
            refine ops_t (wn rfl) rfl (t_lit [v81] Try.runUnderlying68 Try.sizeOf27 Try.zeroValue27 rfl (by decide) (by decide) rfl (by intro q hq; simp only [List.mem_cons, List.not_mem_nil, or_false] at hq; rcases hq with rfl <;> first | rfl | (rw [hs114]; rfl))) ?_
            rintro v113 _ ⟨rfl, _⟩
            refine ops_turn (turn_closeR (C := NC_L_bool_27) (l := ([r79.1] : List (List Bool))) 5 [(r79.1, v81)] rfl (by simp only [List.map_cons, List.map_nil, hs114]; rfl) rfl (hasall_cons (has_cons 4 rfl has_nil) hasall_nil)) ?_
            obtain ⟨hr116, h⟩ := need_some h
            refine ops_t (wn rfl) rfl (t_appendN (C := NC_L_bool_27) 3 5 (by decide) rfl Try.runUnderlying68 rfl Try.runUnderlying68 Try.typeInfo27 rfl (by decide) (by decide) Try.zeroValue27 rfl rfl rfl rfl (srcN_row 5 rfl) hr116) ?_
            rintro v115 _ rfl
            refine ops_y (wn rfl) rfl (y_assign rfl) ?_
            refine ops_nil ?_
            refine goes_blk ?_
            refine goes_code ?_
            refine run_region' ?_
            refine ops_y (wn rfl) rfl (y_move rfl) ?_
            refine ops_y (wn rfl) rfl (y_add rfl rfl) ?_
            refine ops_y (wn rfl) rfl (y_assign rfl) ?_
            refine ops_nil ?_
            obtain rfl := some_eq h
            exact goes_iter hgo75 ((all_71 ++ ([r79.1] : List (List Bool))), (IntKind.i64.wrap (v_72 + 1))) v115 [0, 1, 2, 3] rfl (vcons rfl (vcons rfl (vcons rfl (vcons rfl (vcons rfl (vnil)))))) (by decide) rfl
        · replace h := cond_f h hc78
          refine run_exit _ rfl ?_
          obtain rfl := some_eq h
          obtain rfl := hstop76 _ rfl
          exact goes_cut hL69 (all_71, v73) [0, 1, 2, 3] (vcons rfl (vcons rfl (vcons rfl (vcons rfl (vnil))))) (by decide) rfl rfl
      rintro ⟨all_65, v66⟩ hj
      obtain rfl : o67 = _ := hj
      replace h := after_go ho68
      clear ho68
      change Run _ _ _ (VF.of [(1, boxP b1 0), (5, v19), (6, .int .i64 count_21), (10, v66)]) [box b1 [.int .i64 n_0.Nodes, n_0_Arcsv], ro n_0_Arcsv 4 (n_0.Arcs.map S_api_Arc.enc), row v19 1 (x_22.map (eInt .i64)), nrow v66 NC_L_bool_27 all_65]
      obtain ⟨o117, h, ho118⟩ := bindJ_some h
      refine run_cut ((Unit) × (Unit)) (fun σ => [(1, boxP b1 0), (6, .int .i64 count_21)]) (fun σ => [box b1 [.int .i64 n_0.Nodes, n_0_Arcsv], ro n_0_Arcsv 4 (n_0.Arcs.map S_api_Arc.enc)]) (fun σ => o117 = .go σ.1) (fun L120 hL119 => ?_) ?_
      · -- the ways through
        refine run_seq ?_
        refine run_region' ?_
        refine ops_y (wn rfl) rfl (y_assign rfl) ?_
        refine ops_nil ?_
        refine goes_code ?_
        refine run_block ?_
        refine run_turn (freezeN 3 rfl) ?_
        refine run_iter (step := law09_GraphPartsAreMutual_L5 n n_0 x_22 all_65) (n := n) (s0 := 0) h (G := Unit) () (fun σ γ => [(1, boxP b1 0), (5, v19), (6, .int .i64 count_21), (10, v66), (15, .int .i64 σ)]) (fun σ γ => [box b1 [.int .i64 n_0.Nodes, n_0_Arcsv], ro n_0_Arcsv 4 (n_0.Arcs.map S_api_Arc.enc), row v19 1 (x_22.map (eInt .i64)), nro v66 NC_L_bool_27 all_65]) [0, 1, 2, 3] (vcons rfl (vcons rfl (vcons rfl (vcons rfl (vcons rfl (vnil)))))) (by decide) rfl ?_
        rintro v_121 _ o122 h L125 hgo123 hstop124
        change Run _ _ _ (VF.of [(1, boxP b1 0), (5, v19), (6, .int .i64 count_21), (10, v66), (15, .int .i64 v_121)]) [box b1 [.int .i64 n_0.Nodes, n_0_Arcsv], ro n_0_Arcsv 4 (n_0.Arcs.map S_api_Arc.enc), row v19 1 (x_22.map (eInt .i64)), nro v66 NC_L_bool_27 all_65]
        refine run_seq ?_
        refine run_seq ?_
        refine run_region' ?_
        refine ops_y (wn rfl) rfl (y_move rfl) ?_
        refine ops_y (wn rfl) rfl (y_fieldAddr_box (sz := 0) Try.runUnderlying24 rfl Try.sizeOf3 rfl) ?_
        refine ops_y (wn rfl) rfl (y_load_box 0 Try.isAgg3 rfl rfl rfl) ?_
        refine ops_y (wn rfl) rfl (y_lss rfl rfl) ?_
        refine ops_nil ?_
        refine goes_code ?_
        refine run_cond (decide (v_121 < n_0.Nodes)) rfl (fun hc126 => ?_) (fun hc126 => ?_)
        · replace h := cond_t h hc126
          refine run_skip ?_
          refine goes_code ?_
          obtain ⟨o127, h, ho128⟩ := bindJ_some h
          refine run_cut ((Unit) × (Unit)) (fun σ => [(1, boxP b1 0), (5, v19), (6, .int .i64 count_21), (10, v66), (15, .int .i64 v_121)]) (fun σ => [box b1 [.int .i64 n_0.Nodes, n_0_Arcsv], ro n_0_Arcsv 4 (n_0.Arcs.map S_api_Arc.enc), row v19 1 (x_22.map (eInt .i64)), nro v66 NC_L_bool_27 all_65]) (fun σ => o127 = .go σ.1) (fun L130 hL129 => ?_) ?_
          · -- the ways through
            refine run_block ?_
            refine run_seq ?_
            refine run_region' ?_
            refine ops_y (wn rfl) rfl (y_assign rfl) ?_
            refine ops_nil ?_
            refine goes_code ?_
            refine run_block ?_
            refine run_iter (step := law09_GraphPartsAreMutual_L6 n_0 x_22 all_65 v_121) (n := n) (s0 := 0) h (G := Unit) () (fun σ γ => [(1, boxP b1 0), (5, v19), (6, .int .i64 count_21), (10, v66), (15, .int .i64 v_121), (16, .int .i64 σ)]) (fun σ γ => [box b1 [.int .i64 n_0.Nodes, n_0_Arcsv], ro n_0_Arcsv 4 (n_0.Arcs.map S_api_Arc.enc), row v19 1 (x_22.map (eInt .i64)), nro v66 NC_L_bool_27 all_65]) [0, 1, 2, 3] (vcons rfl (vcons rfl (vcons rfl (vcons rfl (vcons rfl (vcons rfl (vnil))))))) (by decide) rfl ?_
            rintro w_131 _ o132 h L135 hgo133 hstop134
            change Run _ _ _ (VF.of [(1, boxP b1 0), (5, v19), (6, .int .i64 count_21), (10, v66), (15, .int .i64 v_121), (16, .int .i64 w_131)]) [box b1 [.int .i64 n_0.Nodes, n_0_Arcsv], ro n_0_Arcsv 4 (n_0.Arcs.map S_api_Arc.enc), row v19 1 (x_22.map (eInt .i64)), nro v66 NC_L_bool_27 all_65]
            refine run_seq ?_
            refine run_seq ?_
            refine run_region' ?_
            refine ops_y (wn rfl) rfl (y_move rfl) ?_
            refine ops_y (wn rfl) rfl (y_fieldAddr_box (sz := 0) Try.runUnderlying24 rfl Try.sizeOf3 rfl) ?_
            refine ops_y (wn rfl) rfl (y_load_box 0 Try.isAgg3 rfl rfl rfl) ?_
            refine ops_y (wn rfl) rfl (y_lss rfl rfl) ?_
            refine ops_nil ?_
            refine goes_code ?_
            refine run_cond (decide (w_131 < n_0.Nodes)) rfl (fun hc136 => ?_) (fun hc136 => ?_)
            · replace h := cond_t h hc136
              refine run_skip ?_
              refine goes_code ?_
              refine run_seq ?_
              refine run_block ?_
              refine run_seq ?_
              refine run_draw (by kernel_rfl) (by kernel_rfl) ?_
              refine still_y (wn rfl) rfl (y_move rfl) ?_
              refine still_y (wn rfl) rfl (y_move rfl) ?_
              obtain ⟨x137, hzx137, hlx137, hxx137, h⟩ := idx_some h
              refine still_y (wn rfl) rfl (y_indexAddrI (kd := .i64) (i := v_121) 2 Try.runUnderlying34 Try.sizeOf3 rfl rfl rfl reads_row hzx137 (map_lt hlx137)) ?_
              refine still_y (wn rfl) rfl (y_load_elem (i := v_121.toNat) 2 Try.isAgg3 rfl rfl reads_row (map_get hxx137)) ?_
              refine still_y (wn rfl) rfl (y_move rfl) ?_
              refine still_y (wn rfl) rfl (y_move rfl) ?_
              obtain ⟨x138, hzx138, hlx138, hxx138, h⟩ := idx_some h
              refine still_y (wn rfl) rfl (y_indexAddrI (kd := .i64) (i := w_131) 2 Try.runUnderlying34 Try.sizeOf3 rfl rfl rfl reads_row hzx138 (map_lt hlx138)) ?_
              refine still_y (wn rfl) rfl (y_load_elem (i := w_131.toNat) 2 Try.isAgg3 rfl rfl reads_row (map_get hxx138)) ?_
              refine still_y (wn rfl) rfl (y_eql rfl rfl) ?_
              refine still_y (wn rfl) rfl (y_move rfl) ?_
              refine still_y (wn rfl) rfl (y_move rfl) ?_
              obtain ⟨x139, hzx139, hlx139, hxx139, h⟩ := idx_some h
              refine still_y (wn rfl) rfl (y_indexAddrN (kd := .i64) (i := v_121) 3 Try.runUnderlying68 Try.sizeOf27 rfl rfl rfl readsN_ro hzx139 hlx139) ?_
              refine still_ex (exAt (C := NC_L_bool_27) (i := v_121.toNat) 3 rfl hxx139) ?_
              rintro g140
              refine still_y (wn rfl) rfl (y_load_at (n := v_121.toNat * 1) (j := 0) 4 Try.isAgg27 rfl rfl rfl) ?_
              refine still_y (wn rfl) rfl (y_move rfl) ?_
              obtain ⟨x141, hzx141, hlx141, hxx141, h⟩ := idx_some h
              refine still_y (wn rfl) rfl (y_indexAddrI (kd := .i64) (i := w_131) 5 Try.runUnderlying27 Try.sizeOf4 rfl rfl rfl reads_ro hzx141 (map_lt hlx141)) ?_
              refine still_y (wn rfl) rfl (y_load_elem (i := w_131.toNat) 5 Try.isAgg4 rfl rfl reads_ro (map_get hxx141)) ?_
              refine still_y (wn rfl) rfl (y_move rfl) ?_
              obtain ⟨o143, h, ho144⟩ := bindJ_some h
              refine still_cut 8 (Bool) (fun σ => [(1, boxP b1 0), (5, v19), (6, .int .i64 count_21), (10, v66), (15, .int .i64 v_121), (16, .int .i64 w_131), (160, .bool (decide (x137 = x138))), (176, .bool σ)]) (fun σ => [box b1 [.int .i64 n_0.Nodes, n_0_Arcsv], ro n_0_Arcsv 4 (n_0.Arcs.map S_api_Arc.enc), row v19 1 (x_22.map (eInt .i64)), nro v66 NC_L_bool_27 all_65, atc v66 (v_121.toNat * 1) [g140], ro g140 1 (x139.map eBool)]) (fun σ => o143 = .go σ) (fun L145 hL146 => ?_) ?_
              · refine still_split 168 x141 rfl (fun hg147 => ?_) (fun hg147 => ?_)
                · replace h := cond_t h hg147
                  refine still_y (wg 16 true 168 rfl rfl rfl rfl) rfl (y_move rfl) ?_
                  refine still_y (wg 16 true 168 rfl rfl rfl rfl) rfl (y_move rfl) ?_
                  obtain ⟨x148, hzx148, hlx148, hxx148, h⟩ := idx_some h
                  refine still_y (wg 16 true 168 rfl rfl rfl rfl) rfl (y_indexAddrN (kd := .i64) (i := w_131) 3 Try.runUnderlying68 Try.sizeOf27 rfl rfl rfl readsN_ro hzx148 hlx148) ?_
                  refine still_ex (exAt (C := NC_L_bool_27) (i := w_131.toNat) 3 rfl hxx148) ?_
                  rintro g149
                  refine still_y (wg 16 true 168 rfl rfl rfl rfl) rfl (y_load_at (n := w_131.toNat * 1) (j := 0) 6 Try.isAgg27 rfl rfl rfl) ?_
                  refine still_y (wg 16 true 168 rfl rfl rfl rfl) rfl (y_move rfl) ?_
                  obtain ⟨x150, hzx150, hlx150, hxx150, h⟩ := idx_some h
                  refine still_y (wg 16 true 168 rfl rfl rfl rfl) rfl (y_indexAddrI (kd := .i64) (i := v_121) 7 Try.runUnderlying27 Try.sizeOf4 rfl rfl rfl reads_ro hzx150 (map_lt hlx150)) ?_
                  refine still_y (wg 16 true 168 rfl rfl rfl rfl) rfl (y_load_elem (i := v_121.toNat) 7 Try.isAgg4 rfl rfl reads_ro (map_get hxx150)) ?_
                  refine still_y (wn rfl) rfl (y_pick (b := true) rfl rfl) ?_
                  refine still_nil ?_
                  obtain rfl := some_eq h
                  exact goes_cut hL146 x150 [0, 1, 2, 3, 4, 5] (vcons rfl (vcons rfl (vcons rfl (vcons rfl (vcons rfl (vcons rfl (vcons rfl (vcons rfl (vnil))))))))) (by decide) rfl rfl
                · replace h := cond_f h hg147
                  refine still_no 16 true 168 rfl rfl rfl rfl rfl ?_
                  refine still_no 16 true 168 rfl rfl rfl rfl rfl ?_
                  refine still_no 16 true 168 rfl rfl rfl rfl rfl ?_
                  refine still_no 16 true 168 rfl rfl rfl rfl rfl ?_
                  refine still_no 16 true 168 rfl rfl rfl rfl rfl ?_
                  refine still_no 16 true 168 rfl rfl rfl rfl rfl ?_
                  refine still_no 16 true 168 rfl rfl rfl rfl rfl ?_
                  refine still_y (wn rfl) rfl (y_pick (b := false) rfl rfl) ?_
                  refine still_nil ?_
                  obtain rfl := some_eq h
                  exact goes_cut hL146 false [0, 1, 2, 3, 4, 5] (vcons rfl (vcons rfl (vcons rfl (vcons rfl (vcons rfl (vcons rfl (vcons rfl (vcons rfl (vnil))))))))) (by decide) rfl rfl
              rintro b142 hj
              obtain rfl : o143 = _ := hj
              replace h := after_go ho144
              clear ho144
              refine still_y (wn rfl) rfl (y_bneq Try.runUnderlying4 rfl rfl) ?_
              refine still_nil ?_
              refine goes_code ?_
              refine run_cond (!((decide (x137 = x138)) == b142)) rfl (fun hc151 => ?_) (fun hc151 => ?_)
              · replace h := cond_t h hc151
                refine run_seq ?_
                refine run_region' ?_
                refine ops_y (wn rfl) rfl (y_assign rfl) ?_
                refine ops_nil ?_
                refine goes_code ?_
                refine run_ret ?_
                obtain rfl := some_eq h
                obtain rfl := hstop134 _ rfl
                skip
                obtain rfl := after_stop ho128
                skip
                obtain rfl := hstop124 _ rfl
                skip
                obtain rfl := after_stop ho118
                refine fin_slots [2] [.bool false] [] [] Try.results7 rfl (by decide) rfl ?_
                exact ⟨rfl, rfl⟩
              · replace h := cond_f h hc151
                refine run_skip ?_
                refine goes_blk ?_
                refine goes_code ?_
                refine run_region' ?_
                refine ops_y (wn rfl) rfl (y_move rfl) ?_
                refine ops_y (wn rfl) rfl (y_add rfl rfl) ?_
                refine ops_y (wn rfl) rfl (y_assign rfl) ?_
                refine ops_nil ?_
                obtain rfl := some_eq h
                exact goes_iter hgo133 (IntKind.i64.wrap (w_131 + 1)) () [0, 1, 2, 3] rfl (vcons rfl (vcons rfl (vcons rfl (vcons rfl (vcons rfl (vcons rfl (vnil))))))) (by decide) rfl
            · replace h := cond_f h hc136
              refine run_exit _ rfl ?_
              refine goes_blk ?_
              obtain rfl := some_eq h
              obtain rfl := hstop134 _ rfl
              exact goes_cut hL129 ((), ()) [0, 1, 2, 3] (vcons rfl (vcons rfl (vcons rfl (vcons rfl (vcons rfl (vnil)))))) (by decide) rfl rfl
          rintro ⟨_, _⟩ hj
          obtain rfl : o127 = _ := hj
          replace h := after_go ho128
          clear ho128
          change Run _ _ _ (VF.of [(1, boxP b1 0), (5, v19), (6, .int .i64 count_21), (10, v66), (15, .int .i64 v_121)]) [box b1 [.int .i64 n_0.Nodes, n_0_Arcsv], ro n_0_Arcsv 4 (n_0.Arcs.map S_api_Arc.enc), row v19 1 (x_22.map (eInt .i64)), nro v66 NC_L_bool_27 all_65]
          refine run_region' ?_
          refine ops_y (wn rfl) rfl (y_move rfl) ?_
          refine ops_y (wn rfl) rfl (y_add rfl rfl) ?_
          refine ops_y (wn rfl) rfl (y_assign rfl) ?_
          refine ops_nil ?_
          obtain rfl := some_eq h
          exact goes_iter hgo123 (IntKind.i64.wrap (v_121 + 1)) () [0, 1, 2, 3] rfl (vcons rfl (vcons rfl (vcons rfl (vcons rfl (vcons rfl (vnil)))))) (by decide) rfl
        · replace h := cond_f h hc126
          refine run_exit _ rfl ?_
          obtain rfl := some_eq h
          obtain rfl := hstop124 _ rfl
          exact goes_cut hL119 ((), ()) [0, 1] (vcons rfl (vcons rfl (vnil))) (by decide) rfl rfl
      rintro ⟨_, _⟩ hj
      obtain rfl : o117 = _ := hj
      replace h := after_go ho118
      clear ho118
      change Run _ _ _ (VF.of [(1, boxP b1 0), (6, .int .i64 count_21)]) [box b1 [.int .i64 n_0.Nodes, n_0_Arcsv], ro n_0_Arcsv 4 (n_0.Arcs.map S_api_Arc.enc)]
      refine run_seq ?_
      refine run_region' ?_
      obtain ⟨r152, hr153, h⟩ := obind_some h
      refine ops_t (wn rfl) rfl (t_callx (vs := []) (cs := []) [] rfl Try.call10 rfl (law09_sanity_ok n   hr153) showsX_nil rfl (.inl rfl)) ?_
      rintro _ _ ⟨_, ⟨rfl, rfl⟩, rfl⟩
      refine ops_y (wn rfl) rfl (y_move rfl) ?_
      refine ops_cut 5 (Bool) (fun σ => [(184, .bool σ)]) (fun σ => []) (fun σ => σ = (r152 && decide (count_21 = n_0.Nodes))) (fun L154 hL155 => ?_) ?_
      · refine ops_split 179 r152 rfl (fun hg156 => ?_) (fun hg156 => ?_)
        · skip
          refine ops_y (wg 1 true 179 rfl rfl rfl rfl) rfl (y_move rfl) ?_
          refine ops_y (wg 1 true 179 rfl rfl rfl rfl) rfl (y_fieldAddr_box (sz := 0) Try.runUnderlying24 rfl Try.sizeOf3 rfl) ?_
          refine ops_y (wg 1 true 179 rfl rfl rfl rfl) rfl (y_load_box 0 Try.isAgg3 rfl rfl rfl) ?_
          refine ops_y (wg 1 true 179 rfl rfl rfl rfl) rfl (y_eql rfl rfl) ?_
          refine ops_y (wn rfl) rfl (y_pick (b := true) rfl rfl) ?_
          refine ops_nil ?_
          exact goes_cut hL155 (decide (count_21 = n_0.Nodes)) [] (vcons rfl (vnil)) (by decide) rfl (by rw [hg156]; simp)
        · skip
          refine ops_no 1 true 179 rfl rfl rfl rfl rfl ?_
          refine ops_no 1 true 179 rfl rfl rfl rfl rfl ?_
          refine ops_no 1 true 179 rfl rfl rfl rfl rfl ?_
          refine ops_no 1 true 179 rfl rfl rfl rfl rfl ?_
          refine ops_y (wn rfl) rfl (y_pick (b := false) rfl rfl) ?_
          refine ops_nil ?_
          exact goes_cut hL155 false [] (vcons rfl (vnil)) (by decide) rfl (by rw [hg156]; simp)
      rintro _ rfl
      refine ops_y (wn rfl) rfl (y_assign rfl) ?_
      refine ops_nil ?_
      refine goes_code ?_
      refine run_ret ?_
      obtain rfl := some_eq h
      refine fin_slots [2] [.bool (r152 && decide (count_21 = n_0.Nodes))] [] [] Try.results7 rfl (by decide) rfl ?_
      exact ⟨rfl, rfl⟩

end Go.Proofs.Ytgelifcckhemiaa
