/-
  The law GraphOrdersForward, lifted.
-/
import Derived.Test.YtgelifcckhemiaaG6a
namespace Go.Proofs.Ytgelifcckhemiaa
open Go.Abs
set_option linter.unusedVariables false
set_option linter.unusedSimpArgs false
set_option maxRecDepth 20000
set_option maxHeartbeats 4000000


def law09_GraphOrdersForward_L1 (r19 : (List (List Int)) × Int) : (Bool × Int) → Option (Lp (Bool × Int) (Lp (Bool) (Bool))) :=
  fun (tied_31, i_32) =>
    cond (decide (i_32 < (r19.1.length : Int)))
      (bindJ (S := Bool)
        (cond tied_31
          (some (.go true))
          (idx r19.1 i_32 fun x44 =>
          some (.go (decide (1 < (x44.length : Int))))))
      (fun b38 =>
        some (.go (b38, (IntKind.i64.wrap (i_32 + 1))))))
      (some (.stop (.go tied_31)))
def law09_GraphOrdersForward_L2 (n_0 : S_api_Net) : (Bool × Int) → Option (Lp (Bool × Int) (Lp (Bool) (Bool))) :=
  fun (tied_51, i_52) =>
    cond (decide (i_52 < (n_0.Arcs.length : Int)))
      (bindJ (S := Bool)
        (cond tied_51
          (some (.go true))
          (idx n_0.Arcs i_52 fun x64 =>
          some (.go (decide (x64.From = x64.To)))))
      (fun b58 =>
        some (.go (b58, (IntKind.i64.wrap (i_52 + 1))))))
      (some (.stop (.go tied_51)))
def law09_GraphOrdersForward_L3 (n_0 : S_api_Net) (r15 : (List Int) × (List Int) × Int) : (Int × (List Int)) → Option (Lp (Int × (List Int)) (Lp ((List Int)) (Bool))) :=
  fun (i_85, x_86) =>
    cond (decide (i_85 < (r15.1.length : Int)))
      (idx r15.1 i_85 fun x92 =>
      bindJ (S := Bool)
        (cond (decide (x92 < 0) || decide (n_0.Nodes ≤ x92))
          (some (.go true))
          (idx r15.1 i_85 fun x102 =>
          idx x_86 x102 fun x103 =>
          some (.go (decide (x103 ≠ 0)))))
      (fun b96 =>
        cond b96
          (some (.stop (.stop false)))
          (idx r15.1 i_85 fun x105 =>
          idx x_86 x105 fun x106 =>
          some (.go ((IntKind.i64.wrap (i_85 + 1)), (x_86.set x105.toNat (IntKind.i64.wrap (i_85 + 1))))))))
      (some (.stop (.go x_86)))
def law09_GraphOrdersForward_L4 (n_0 : S_api_Net) (x_80 : (List Int)) : (Int) → Option (Lp (Int) (Lp (Unit) (Bool))) :=
  fun i_111 =>
    cond (decide (i_111 < (n_0.Arcs.length : Int)))
      (idx n_0.Arcs i_111 fun x117 =>
      idx x_80 x117.From fun x118 =>
      idx x_80 x117.To fun x119 =>
      cond (decide (x119 ≤ x118))
        (some (.stop (.stop false)))
        (some (.go (IntKind.i64.wrap (i_111 + 1)))))
      (some (.stop (.go ())))
def law09_GraphOrdersForward (n : Nat) (n_0 : S_api_Net) : Option (Bool) :=
  obind (law09_few n_0) fun r2 =>
  bindJ (S := Bool)
    (cond (!r2)
      (some (.go true))
      (obind (graph_Valid n n_0) fun r10 =>
      some (.go (!r10))))
  (fun b4 =>
    cond b4
      (obind (law09_sanity n) fun r13 =>
      some r13)
      (obind (graph_Order n n_0) fun r15 =>
      obind (graph_Parts n n_0) fun r19 =>
      cond (decide (r15.2.2 ≠ 0) || decide (r19.2 ≠ 0))
        (some false)
        (bindJ (S := Bool)
          (iter (law09_GraphOrdersForward_L1 r19) n (false, 0))
        (fun tied_26 =>
          bindJ (S := Bool)
            (iter (law09_GraphOrdersForward_L2 n_0) n (tied_26, 0))
          (fun tied_46 =>
            cond tied_46
              (obind (law09_sanity n) fun r66 =>
              some ((r66 && decide ((r15.1.length : Int) = 0)) && decide (0 < (r15.2.1.length : Int))))
              (cond (decide ((r15.1.length : Int) ≠ n_0.Nodes) || decide ((r15.2.1.length : Int) ≠ 0))
                (some false)
                (need (0 ≤ n_0.Nodes ∧ n_0.Nodes ≤ 4294967296) (
                bindJ (S := (List Int))
                  (iter (law09_GraphOrdersForward_L3 n_0 r15) n (0, (List.replicate (n_0.Nodes).toNat (0 : Int))))
                (fun x_80 =>
                  bindJ (S := Unit)
                    (iter (law09_GraphOrdersForward_L4 n_0 x_80) n 0)
                  (fun _ =>
                    obind (law09_sanity n) fun r121 =>
                    some r121))))))))))
theorem law09_GraphOrdersForward_ok (n : Nat) (n_0 : S_api_Net) (n_0_Arcsv : Value) {r : Bool} (h : law09_GraphOrdersForward n n_0 = some r) :
    Meets Try.prog 6 [.agg #[.int .i64 n_0.Nodes, n_0_Arcsv]] [ro n_0_Arcsv 4 (n_0.Arcs.map S_api_Arc.enc)] (fun v G => v = .bool r ∧ G = []) := by
  refine fn_of_run Try.func6 rfl Try.ntmps6 rfl (fun w0 o0 => ?_)
  refine run_seq ?_
  refine run_region' ?_
  refine ops_t (wn rfl) rfl (t_box rfl) ?_
  rintro _ _ ⟨b1, rfl, rfl⟩
  refine ops_y (wn rfl) rfl (y_assign rfl) ?_
  refine ops_nil ?_
  refine goes_code ?_
  refine run_seq ?_
  refine run_seq ?_
  refine run_region' ?_
  refine ops_y (wn rfl) rfl (y_load_boxagg (c := [.int .i64 n_0.Nodes, n_0_Arcsv]) 1 Try.isAgg24 Try.sizeOf24 rfl rfl rfl) ?_
  obtain ⟨r2, hr3, h⟩ := obind_some h
  refine ops_t (wn rfl) rfl (t_callx (vs := [.agg #[.int .i64 n_0.Nodes, n_0_Arcsv]]) (cs := []) [(0, 0)] rfl Try.call9 rfl (law09_few_ok n_0 n_0_Arcsv hr3) (showsX_view 0 rfl views_ro showsX_nil) rfl (.inl rfl)) ?_
  rintro _ _ ⟨_, ⟨rfl, rfl⟩, rfl⟩
  refine ops_y (wn rfl) rfl (y_not rfl) ?_
  refine ops_y (wn rfl) rfl (y_move rfl) ?_
  obtain ⟨o5, h, ho6⟩ := bindJ_some h
  refine ops_cut 4 (Bool) (fun σ => [(1, boxP b1 0), (21, .bool σ)]) (fun σ => [ro n_0_Arcsv 4 (n_0.Arcs.map S_api_Arc.enc), box b1 [.int .i64 n_0.Nodes, n_0_Arcsv]]) (fun σ => o5 = .go σ) (fun L7 hL8 => ?_) ?_
  · refine ops_split 17 (!r2) rfl (fun hg9 => ?_) (fun hg9 => ?_)
    · replace h := cond_t h hg9
      refine ops_no 3 false 17 rfl rfl rfl rfl rfl ?_
      refine ops_no 3 false 17 rfl rfl rfl rfl rfl ?_
      refine ops_no 3 false 17 rfl rfl rfl rfl rfl ?_
      refine ops_y (wn rfl) rfl (y_pick (b := true) rfl rfl) ?_
      refine ops_nil ?_
      obtain rfl := some_eq h
      exact goes_cut hL8 true [0, 1] (vcons rfl (vcons rfl (vnil))) (by decide) rfl rfl
    · replace h := cond_f h hg9
      refine ops_y (wg 3 false 17 rfl rfl rfl rfl) rfl (y_load_boxagg (c := [.int .i64 n_0.Nodes, n_0_Arcsv]) 1 Try.isAgg24 Try.sizeOf24 rfl rfl rfl) ?_
      obtain ⟨r10, hr11, h⟩ := obind_some h
      refine ops_t (wg 3 false 17 rfl rfl rfl rfl) rfl (t_callx (vs := [.agg #[.int .i64 n_0.Nodes, n_0_Arcsv]]) (cs := []) [(0, 0)] rfl Try.call17 rfl (graph_Valid_ok n n_0 n_0_Arcsv hr11) (showsX_view 0 rfl views_ro showsX_nil) rfl (.inl rfl)) ?_
      rintro _ _ ⟨_, ⟨rfl, rfl⟩, rfl⟩
      refine ops_y (wg 3 false 17 rfl rfl rfl rfl) rfl (y_not rfl) ?_
      refine ops_y (wn rfl) rfl (y_pick (b := false) rfl rfl) ?_
      refine ops_nil ?_
      obtain rfl := some_eq h
      exact goes_cut hL8 (!r10) [0, 1] (vcons rfl (vcons rfl (vnil))) (by decide) rfl rfl
  rintro b4 hj
  obtain rfl : o5 = _ := hj
  replace h := after_go ho6
  clear ho6
  refine ops_nil ?_
  refine goes_code ?_
  refine run_cond b4 rfl (fun hc12 => ?_) (fun hc12 => ?_)
  · replace h := cond_t h hc12
    refine run_seq ?_
    refine run_region' ?_
    obtain ⟨r13, hr14, h⟩ := obind_some h
    refine ops_t (wn rfl) rfl (t_callx (vs := []) (cs := []) [] rfl Try.call10 rfl (law09_sanity_ok n   hr14) showsX_nil rfl (.inl rfl)) ?_
    rintro _ _ ⟨_, ⟨rfl, rfl⟩, rfl⟩
    refine ops_y (wn rfl) rfl (y_assign rfl) ?_
    refine ops_nil ?_
    refine goes_code ?_
    refine run_ret ?_
    obtain rfl := some_eq h
    refine fin_slots [2] [.bool r13] [] [] Try.results6 rfl (by decide) rfl ?_
    exact ⟨rfl, rfl⟩
  · replace h := cond_f h hc12
    refine run_skip ?_
    refine goes_code ?_
    refine run_seq ?_
    refine run_region' ?_
    refine ops_y (wn rfl) rfl (y_load_boxagg (c := [.int .i64 n_0.Nodes, n_0_Arcsv]) 1 Try.isAgg24 Try.sizeOf24 rfl rfl rfl) ?_
    obtain ⟨r15, hr16, h⟩ := obind_some h
    refine ops_t (wn rfl) rfl (t_callx (vs := [.agg #[.int .i64 n_0.Nodes, n_0_Arcsv]]) (cs := []) [(0, 0)] rfl Try.call13 rfl (graph_Order_ok n n_0 n_0_Arcsv hr16) (showsX_view 0 rfl views_ro showsX_nil) rfl (.inl rfl)) ?_
    rintro _ _ ⟨_, ⟨v17, v18, rfl, rfl⟩, rfl⟩
    refine ops_y (wn rfl) rfl (y_move rfl) ?_
    refine ops_y (wn rfl) rfl (y_extract rfl rfl) ?_
    refine ops_y (wn rfl) rfl (y_extract rfl rfl) ?_
    refine ops_y (wn rfl) rfl (y_extract rfl rfl) ?_
    refine ops_y (wn rfl) rfl (y_assign rfl) ?_
    refine ops_y (wn rfl) rfl (y_assign rfl) ?_
    refine ops_y (wn rfl) rfl (y_assign rfl) ?_
    refine ops_nil ?_
    refine goes_code ?_
    refine run_seq ?_
    refine run_weak [(1, boxP b1 0), (3, v17), (4, v18), (5, .int .i64 r15.2.2)] [0, 1, 2, 3] [ro n_0_Arcsv 4 (n_0.Arcs.map S_api_Arc.enc), box b1 [.int .i64 n_0.Nodes, n_0_Arcsv], row v17 1 (r15.1.map (eInt .i64)), row v18 1 (r15.2.1.map (eInt .i64))] (vcons rfl (vcons rfl (vcons rfl (vcons rfl (vnil))))) (by decide) rfl ?_
    refine run_region' ?_
    refine ops_y (wn rfl) rfl (y_load_boxagg (c := [.int .i64 n_0.Nodes, n_0_Arcsv]) 1 Try.isAgg24 Try.sizeOf24 rfl rfl rfl) ?_
    obtain ⟨r19, hr20, h⟩ := obind_some h
    refine ops_t (wn rfl) rfl (t_callx (vs := [.agg #[.int .i64 n_0.Nodes, n_0_Arcsv]]) (cs := []) [(0, 0)] rfl Try.call12 rfl (graph_Parts_ok n n_0 n_0_Arcsv hr20) (showsX_view 0 rfl views_ro showsX_nil) rfl (.inl rfl)) ?_
    rintro _ _ ⟨_, ⟨v21, rfl, rfl⟩, rfl⟩
    refine ops_y (wn rfl) rfl (y_move rfl) ?_
    refine ops_y (wn rfl) rfl (y_extract rfl rfl) ?_
    refine ops_y (wn rfl) rfl (y_extract rfl rfl) ?_
    refine ops_y (wn rfl) rfl (y_assign rfl) ?_
    refine ops_y (wn rfl) rfl (y_assign rfl) ?_
    refine ops_nil ?_
    refine goes_code ?_
    refine run_seq ?_
    refine run_seq ?_
    refine run_region' ?_
    refine ops_y (wn rfl) rfl (y_move rfl) ?_
    refine ops_y (wn rfl) rfl (y_neq rfl rfl) ?_
    refine ops_y (wn rfl) rfl (y_move rfl) ?_
    refine ops_cut 3 (Bool) (fun σ => [(1, boxP b1 0), (3, v17), (4, v18), (6, v21), (39, .bool σ)]) (fun σ => [ro n_0_Arcsv 4 (n_0.Arcs.map S_api_Arc.enc), box b1 [.int .i64 n_0.Nodes, n_0_Arcsv], row v17 1 (r15.1.map (eInt .i64)), row v18 1 (r15.2.1.map (eInt .i64)), nrow v21 NC_L_int_34 r19.1]) (fun σ => σ = (decide (r15.2.2 ≠ 0) || decide (r19.2 ≠ 0))) (fun L22 hL23 => ?_) ?_
    · refine ops_split 36 (decide (r15.2.2 ≠ 0)) rfl (fun hg24 => ?_) (fun hg24 => ?_)
      · skip
        refine ops_no 2 false 36 rfl rfl rfl rfl rfl ?_
        refine ops_no 2 false 36 rfl rfl rfl rfl rfl ?_
        refine ops_y (wn rfl) rfl (y_pick (b := true) rfl rfl) ?_
        refine ops_nil ?_
        exact goes_cut hL23 true [0, 1, 2, 3, 4] (vcons rfl (vcons rfl (vcons rfl (vcons rfl (vcons rfl (vnil)))))) (by decide) rfl (by rw [hg24]; simp)
      · skip
        refine ops_y (wg 2 false 36 rfl rfl rfl rfl) rfl (y_move rfl) ?_
        refine ops_y (wg 2 false 36 rfl rfl rfl rfl) rfl (y_neq rfl rfl) ?_
        refine ops_y (wn rfl) rfl (y_pick (b := false) rfl rfl) ?_
        refine ops_nil ?_
        exact goes_cut hL23 (decide (r19.2 ≠ 0)) [0, 1, 2, 3, 4] (vcons rfl (vcons rfl (vcons rfl (vcons rfl (vcons rfl (vnil)))))) (by decide) rfl (by rw [hg24]; simp)
    rintro _ rfl
    refine ops_nil ?_
    refine goes_code ?_
    refine run_cond (decide (r15.2.2 ≠ 0) || decide (r19.2 ≠ 0)) rfl (fun hc25 => ?_) (fun hc25 => ?_)
    · replace h := cond_t h hc25
      refine run_seq ?_
      refine run_region' ?_
      refine ops_y (wn rfl) rfl (y_assign rfl) ?_
      refine ops_nil ?_
      refine goes_code ?_
      refine run_ret ?_
      obtain rfl := some_eq h
      refine fin_slots [2] [.bool false] [] [] Try.results6 rfl (by decide) rfl ?_
      exact ⟨rfl, rfl⟩
    · replace h := cond_f h hc25
      refine run_skip ?_
      refine goes_code ?_
      refine run_seq ?_
      refine run_region' ?_
      refine ops_y (wn rfl) rfl (y_assign rfl) ?_
      refine ops_nil ?_
      refine goes_code ?_
      obtain ⟨o27, h, ho28⟩ := bindJ_some h
      refine run_cut ((Bool) × (Unit)) (fun σ => [(1, boxP b1 0), (3, v17), (4, v18), (8, .bool σ.1)]) (fun σ => [box b1 [.int .i64 n_0.Nodes, n_0_Arcsv], ro n_0_Arcsv 4 (n_0.Arcs.map S_api_Arc.enc), row v17 1 (r15.1.map (eInt .i64)), row v18 1 (r15.2.1.map (eInt .i64))]) (fun σ => o27 = .go σ.1) (fun L30 hL29 => ?_) ?_
      · -- the ways through
        refine run_seq ?_
        refine run_region' ?_
        refine ops_y (wn rfl) rfl (y_assign rfl) ?_
        refine ops_nil ?_
        refine goes_code ?_
        refine run_block ?_
        refine run_iter (step := law09_GraphOrdersForward_L1 r19) (n := n) (s0 := (false, 0)) h (G := Unit) () (fun σ γ => [(1, boxP b1 0), (3, v17), (4, v18), (6, v21), (8, .bool σ.1), (9, .int .i64 σ.2)]) (fun σ γ => [box b1 [.int .i64 n_0.Nodes, n_0_Arcsv], ro n_0_Arcsv 4 (n_0.Arcs.map S_api_Arc.enc), row v17 1 (r15.1.map (eInt .i64)), row v18 1 (r15.2.1.map (eInt .i64)), nrow v21 NC_L_int_34 r19.1]) [1, 0, 2, 3, 4] (vcons rfl (vcons rfl (vcons rfl (vcons rfl (vcons rfl (vcons rfl (vnil))))))) (by decide) rfl ?_
        rintro ⟨tied_31, i_32⟩ _ o33 h L36 hgo34 hstop35
        change Run _ _ _ (VF.of [(1, boxP b1 0), (3, v17), (4, v18), (6, v21), (8, .bool tied_31), (9, .int .i64 i_32)]) [box b1 [.int .i64 n_0.Nodes, n_0_Arcsv], ro n_0_Arcsv 4 (n_0.Arcs.map S_api_Arc.enc), row v17 1 (r15.1.map (eInt .i64)), row v18 1 (r15.2.1.map (eInt .i64)), nrow v21 NC_L_int_34 r19.1]
        refine run_seq ?_
        refine run_seq ?_
        refine run_region' ?_
        refine ops_y (wn rfl) rfl (y_move rfl) ?_
        refine ops_y (wn rfl) rfl (y_move rfl) ?_
        refine ops_y (wn rfl) rfl (y_lenN 4 rfl Try.runUnderlying31 rfl rfl readsN_row) ?_
        refine ops_y (wn rfl) rfl (y_lss rfl rfl) ?_
        refine ops_nil ?_
        refine goes_code ?_
        refine run_cond (decide (i_32 < (r19.1.length : Int))) rfl (fun hc37 => ?_) (fun hc37 => ?_)
        · replace h := cond_t h hc37
          refine run_skip ?_
          refine goes_code ?_
          refine run_seq ?_
          refine run_block ?_
          refine run_region' ?_
          refine ops_y (wn rfl) rfl (y_move rfl) ?_
          refine ops_y (wn rfl) rfl (y_move rfl) ?_
          obtain ⟨o39, h, ho40⟩ := bindJ_some h
          refine ops_cut 7 (Bool) (fun σ => [(1, boxP b1 0), (3, v17), (4, v18), (6, v21), (9, .int .i64 i_32), (54, .bool σ)]) (fun σ => [box b1 [.int .i64 n_0.Nodes, n_0_Arcsv], ro n_0_Arcsv 4 (n_0.Arcs.map S_api_Arc.enc), row v17 1 (r15.1.map (eInt .i64)), row v18 1 (r15.2.1.map (eInt .i64)), nrow v21 NC_L_int_34 r19.1]) (fun σ => o39 = .go σ) (fun L41 hL42 => ?_) ?_
          · refine ops_split 47 tied_31 rfl (fun hg43 => ?_) (fun hg43 => ?_)
            · replace h := cond_t h hg43
              refine ops_no 1 false 47 rfl rfl rfl rfl rfl ?_
              refine ops_no 1 false 47 rfl rfl rfl rfl rfl ?_
              refine ops_no 1 false 47 rfl rfl rfl rfl rfl ?_
              refine ops_no 1 false 47 rfl rfl rfl rfl rfl ?_
              refine ops_no 1 false 47 rfl rfl rfl rfl rfl ?_
              refine ops_no 1 false 47 rfl rfl rfl rfl rfl ?_
              refine ops_y (wn rfl) rfl (y_pick (b := true) rfl rfl) ?_
              refine ops_nil ?_
              obtain rfl := some_eq h
              exact goes_cut hL42 true [0, 1, 2, 3, 4] (vcons rfl (vcons rfl (vcons rfl (vcons rfl (vcons rfl (vcons rfl (vnil))))))) (by decide) rfl rfl
            · replace h := cond_f h hg43
              refine ops_y (wg 1 false 47 rfl rfl rfl rfl) rfl (y_move rfl) ?_
              refine ops_y (wg 1 false 47 rfl rfl rfl rfl) rfl (y_move rfl) ?_
              obtain ⟨x44, hzx44, hlx44, hxx44, h⟩ := idx_some h
              refine ops_y (wg 1 false 47 rfl rfl rfl rfl) rfl (y_indexAddrN (kd := .i64) (i := i_32) 4 Try.runUnderlying31 Try.sizeOf34 rfl rfl rfl readsN_row hzx44 hlx44) ?_
              refine ops_t (wg 1 false 47 rfl rfl rfl rfl) rfl (t_loadNf (C := NC_L_int_34) (i := i_32.toNat) (j := 0) 4 (fun γ => γ) Try.isAgg34 rfl rfl hxx44 (fun _ => rfl)) ?_
              rintro _ _ ⟨g45, rfl, rfl⟩
              refine ops_y (wg 1 false 47 rfl rfl rfl rfl) rfl ((y_len 5 rfl Try.runUnderlying34 rfl rfl reads_ro).to (v_len (eInt .i64) _)) ?_
              refine ops_y (wg 1 false 47 rfl rfl rfl rfl) rfl (y_gtr rfl rfl) ?_
              refine ops_y (wn rfl) rfl (y_pick (b := false) rfl rfl) ?_
              refine ops_nil ?_
              obtain rfl := some_eq h
              exact goes_cut hL42 (decide (1 < (x44.length : Int))) [0, 1, 2, 3, 4] (vcons rfl (vcons rfl (vcons rfl (vcons rfl (vcons rfl (vcons rfl (vnil))))))) (by decide) rfl rfl
          rintro b38 hj
          obtain rfl : o39 = _ := hj
          replace h := after_go ho40
          clear ho40
          refine ops_y (wn rfl) rfl (y_assign rfl) ?_
          refine ops_nil ?_
          refine goes_blk ?_
          refine goes_code ?_
          refine run_region' ?_
          refine ops_y (wn rfl) rfl (y_move rfl) ?_
          refine ops_y (wn rfl) rfl (y_add rfl rfl) ?_
          refine ops_y (wn rfl) rfl (y_assign rfl) ?_
          refine ops_nil ?_
          obtain rfl := some_eq h
          exact goes_iter hgo34 (b38, (IntKind.i64.wrap (i_32 + 1))) () [0, 1, 2, 3, 4] rfl (vcons rfl (vcons rfl (vcons rfl (vcons rfl (vcons rfl (vcons rfl (vnil))))))) (by decide) rfl
        · replace h := cond_f h hc37
          refine run_exit _ rfl ?_
          obtain rfl := some_eq h
          obtain rfl := hstop35 _ rfl
          exact goes_cut hL29 (tied_31, ()) [0, 1, 2, 3] (vcons rfl (vcons rfl (vcons rfl (vcons rfl (vnil))))) (by decide) rfl rfl
      rintro ⟨tied_26, _⟩ hj
      obtain rfl : o27 = _ := hj
      replace h := after_go ho28
      clear ho28
      change Run _ _ _ (VF.of [(1, boxP b1 0), (3, v17), (4, v18), (8, .bool tied_26)]) [box b1 [.int .i64 n_0.Nodes, n_0_Arcsv], ro n_0_Arcsv 4 (n_0.Arcs.map S_api_Arc.enc), row v17 1 (r15.1.map (eInt .i64)), row v18 1 (r15.2.1.map (eInt .i64))]
      obtain ⟨o47, h, ho48⟩ := bindJ_some h
      refine run_cut ((Bool) × (Unit)) (fun σ => [(1, boxP b1 0), (3, v17), (4, v18), (8, .bool σ.1)]) (fun σ => [box b1 [.int .i64 n_0.Nodes, n_0_Arcsv], ro n_0_Arcsv 4 (n_0.Arcs.map S_api_Arc.enc), row v17 1 (r15.1.map (eInt .i64)), row v18 1 (r15.2.1.map (eInt .i64))]) (fun σ => o47 = .go σ.1) (fun L50 hL49 => ?_) ?_
      · -- the ways through
        refine run_seq ?_
        refine run_region' ?_
        refine ops_y (wn rfl) rfl (y_assign rfl) ?_
        refine ops_nil ?_
        refine goes_code ?_
        refine run_block ?_
        refine run_iter (step := law09_GraphOrdersForward_L2 n_0) (n := n) (s0 := (tied_26, 0)) h (G := Unit) () (fun σ γ => [(1, boxP b1 0), (3, v17), (4, v18), (8, .bool σ.1), (10, .int .i64 σ.2)]) (fun σ γ => [box b1 [.int .i64 n_0.Nodes, n_0_Arcsv], ro n_0_Arcsv 4 (n_0.Arcs.map S_api_Arc.enc), row v17 1 (r15.1.map (eInt .i64)), row v18 1 (r15.2.1.map (eInt .i64))]) [0, 1, 2, 3] (vcons rfl (vcons rfl (vcons rfl (vcons rfl (vcons rfl (vnil)))))) (by decide) rfl ?_
        rintro ⟨tied_51, i_52⟩ _ o53 h L56 hgo54 hstop55
        change Run _ _ _ (VF.of [(1, boxP b1 0), (3, v17), (4, v18), (8, .bool tied_51), (10, .int .i64 i_52)]) [box b1 [.int .i64 n_0.Nodes, n_0_Arcsv], ro n_0_Arcsv 4 (n_0.Arcs.map S_api_Arc.enc), row v17 1 (r15.1.map (eInt .i64)), row v18 1 (r15.2.1.map (eInt .i64))]
        refine run_seq ?_
        refine run_seq ?_
        refine run_region' ?_
        refine ops_y (wn rfl) rfl (y_move rfl) ?_
        refine ops_y (wn rfl) rfl (y_fieldAddr_box (sz := 0) Try.runUnderlying24 rfl Try.sizeOf22 rfl) ?_
        refine ops_y (wn rfl) rfl (y_load_box 0 Try.isAgg22 rfl rfl rfl) ?_
        refine ops_y (wn rfl) rfl ((y_len 1 rfl Try.runUnderlying22 rfl rfl reads_ro).to (v_len S_api_Arc.enc _)) ?_
        refine ops_y (wn rfl) rfl (y_lss rfl rfl) ?_
        refine ops_nil ?_
        refine goes_code ?_
        refine run_cond (decide (i_52 < (n_0.Arcs.length : Int))) rfl (fun hc57 => ?_) (fun hc57 => ?_)
        · replace h := cond_t h hc57
          refine run_skip ?_
          refine goes_code ?_
          refine run_seq ?_
          refine run_block ?_
          refine run_draw (by kernel_rfl) (by kernel_rfl) ?_
          refine still_y (wn rfl) rfl (y_move rfl) ?_
          refine still_y (wn rfl) rfl (y_move rfl) ?_
          obtain ⟨o59, h, ho60⟩ := bindJ_some h
          refine still_cut 14 (Bool) (fun σ => [(1, boxP b1 0), (3, v17), (4, v18), (10, .int .i64 i_52), (77, .bool σ)]) (fun σ => [box b1 [.int .i64 n_0.Nodes, n_0_Arcsv], ro n_0_Arcsv 4 (n_0.Arcs.map S_api_Arc.enc), row v17 1 (r15.1.map (eInt .i64)), row v18 1 (r15.2.1.map (eInt .i64))]) (fun σ => o59 = .go σ) (fun L61 hL62 => ?_) ?_
          · refine still_split 63 tied_51 rfl (fun hg63 => ?_) (fun hg63 => ?_)
            · replace h := cond_t h hg63
              refine still_no 1 false 63 rfl rfl rfl rfl rfl ?_
              refine still_no 1 false 63 rfl rfl rfl rfl rfl ?_
              refine still_no 1 false 63 rfl rfl rfl rfl rfl ?_
              refine still_no 1 false 63 rfl rfl rfl rfl rfl ?_
              refine still_no 1 false 63 rfl rfl rfl rfl rfl ?_
              refine still_no 1 false 63 rfl rfl rfl rfl rfl ?_
              refine still_no 1 false 63 rfl rfl rfl rfl rfl ?_
              refine still_no 1 false 63 rfl rfl rfl rfl rfl ?_
              refine still_no 1 false 63 rfl rfl rfl rfl rfl ?_
              refine still_no 1 false 63 rfl rfl rfl rfl rfl ?_
              refine still_no 1 false 63 rfl rfl rfl rfl rfl ?_
              refine still_no 1 false 63 rfl rfl rfl rfl rfl ?_
              refine still_no 1 false 63 rfl rfl rfl rfl rfl ?_
              refine still_y (wn rfl) rfl (y_pick (b := true) rfl rfl) ?_
              refine still_nil ?_
              obtain rfl := some_eq h
              exact goes_cut hL62 true [0, 1, 2, 3] (vcons rfl (vcons rfl (vcons rfl (vcons rfl (vcons rfl (vnil)))))) (by decide) rfl rfl
            · replace h := cond_f h hg63
              refine still_y (wg 1 false 63 rfl rfl rfl rfl) rfl (y_fieldAddr_box (sz := 0) Try.runUnderlying24 rfl Try.sizeOf22 rfl) ?_
              refine still_y (wg 1 false 63 rfl rfl rfl rfl) rfl (y_load_box 0 Try.isAgg22 rfl rfl rfl) ?_
              refine still_y (wg 1 false 63 rfl rfl rfl rfl) rfl (y_move rfl) ?_
              obtain ⟨x64, hzx64, hlx64, hxx64, h⟩ := idx_some h
              refine still_y (wg 1 false 63 rfl rfl rfl rfl) rfl (y_indexAddrI (kd := .i64) (i := i_52) 1 Try.runUnderlying22 Try.sizeOf67 rfl rfl rfl reads_ro hzx64 (map_lt hlx64)) ?_
              refine still_y (wg 1 false 63 rfl rfl rfl rfl) rfl (y_fieldAddr_elem (sz := 0) Try.runUnderlying67 rfl Try.sizeOf3 rfl) ?_
              refine still_y (wg 1 false 63 rfl rfl rfl rfl) rfl (y_load_field (i := i_52.toNat) (j := 0) 1 Try.isAgg3 rfl rfl reads_ro (map_get hxx64) rfl) ?_
              refine still_y (wg 1 false 63 rfl rfl rfl rfl) rfl (y_fieldAddr_box (sz := 0) Try.runUnderlying24 rfl Try.sizeOf22 rfl) ?_
              refine still_y (wg 1 false 63 rfl rfl rfl rfl) rfl (y_load_box 0 Try.isAgg22 rfl rfl rfl) ?_
              refine still_y (wg 1 false 63 rfl rfl rfl rfl) rfl (y_move rfl) ?_
              refine still_y (wg 1 false 63 rfl rfl rfl rfl) rfl (y_indexAddrI (kd := .i64) (i := i_52) 1 Try.runUnderlying22 Try.sizeOf67 rfl rfl rfl reads_ro hzx64 (map_lt hlx64)) ?_
              refine still_y (wg 1 false 63 rfl rfl rfl rfl) rfl (y_fieldAddr_elem (sz := 0) Try.runUnderlying67 rfl Try.sizeOf3 rfl) ?_
              refine still_y (wg 1 false 63 rfl rfl rfl rfl) rfl (y_load_field (i := i_52.toNat) (j := 1) 1 Try.isAgg3 rfl rfl reads_ro (map_get hxx64) rfl) ?_
              refine still_y (wg 1 false 63 rfl rfl rfl rfl) rfl (y_eql rfl rfl) ?_
              refine still_y (wn rfl) rfl (y_pick (b := false) rfl rfl) ?_
              refine still_nil ?_
              obtain rfl := some_eq h
              exact goes_cut hL62 (decide (x64.From = x64.To)) [0, 1, 2, 3] (vcons rfl (vcons rfl (vcons rfl (vcons rfl (vcons rfl (vnil)))))) (by decide) rfl rfl
          rintro b58 hj
          obtain rfl : o59 = _ := hj
          replace h := after_go ho60
          clear ho60
          refine still_y (wn rfl) rfl (y_assign rfl) ?_
          refine still_nil ?_
          refine goes_blk ?_
          refine goes_code ?_
          refine run_region' ?_
          refine ops_y (wn rfl) rfl (y_move rfl) ?_
          refine ops_y (wn rfl) rfl (y_add rfl rfl) ?_
          refine ops_y (wn rfl) rfl (y_assign rfl) ?_
          refine ops_nil ?_
          obtain rfl := some_eq h
          exact goes_iter hgo54 (b58, (IntKind.i64.wrap (i_52 + 1))) () [0, 1, 2, 3] rfl (vcons rfl (vcons rfl (vcons rfl (vcons rfl (vcons rfl (vnil)))))) (by decide) rfl
        · replace h := cond_f h hc57
          refine run_exit _ rfl ?_
          obtain rfl := some_eq h
          obtain rfl := hstop55 _ rfl
          exact goes_cut hL49 (tied_51, ()) [0, 1, 2, 3] (vcons rfl (vcons rfl (vcons rfl (vcons rfl (vnil))))) (by decide) rfl rfl
      rintro ⟨tied_46, _⟩ hj
      obtain rfl : o47 = _ := hj
      replace h := after_go ho48
      clear ho48
      change Run _ _ _ (VF.of [(1, boxP b1 0), (3, v17), (4, v18), (8, .bool tied_46)]) [box b1 [.int .i64 n_0.Nodes, n_0_Arcsv], ro n_0_Arcsv 4 (n_0.Arcs.map S_api_Arc.enc), row v17 1 (r15.1.map (eInt .i64)), row v18 1 (r15.2.1.map (eInt .i64))]
      refine run_seq ?_
      refine run_seq ?_
      refine run_region' ?_
      refine ops_y (wn rfl) rfl (y_move rfl) ?_
      refine ops_nil ?_
      refine goes_code ?_
      refine run_cond tied_46 rfl (fun hc65 => ?_) (fun hc65 => ?_)
      · replace h := cond_t h hc65
        refine run_seq ?_
        refine run_region' ?_
        obtain ⟨r66, hr67, h⟩ := obind_some h
        refine ops_t (wn rfl) rfl (t_callx (vs := []) (cs := []) [] rfl Try.call10 rfl (law09_sanity_ok n   hr67) showsX_nil rfl (.inl rfl)) ?_
        rintro _ _ ⟨_, ⟨rfl, rfl⟩, rfl⟩
        refine ops_y (wn rfl) rfl (y_move rfl) ?_
        refine ops_cut 4 (Bool) (fun σ => [(4, v18), (84, .bool σ)]) (fun σ => [row v18 1 (r15.2.1.map (eInt .i64))]) (fun σ => σ = (r66 && decide ((r15.1.length : Int) = 0))) (fun L68 hL69 => ?_) ?_
        · refine ops_split 80 r66 rfl (fun hg70 => ?_) (fun hg70 => ?_)
          · skip
            refine ops_y (wg 1 true 80 rfl rfl rfl rfl) rfl (y_move rfl) ?_
            refine ops_y (wg 1 true 80 rfl rfl rfl rfl) rfl ((y_len 2 rfl Try.runUnderlying34 rfl rfl reads_row).to (v_len (eInt .i64) _)) ?_
            refine ops_y (wg 1 true 80 rfl rfl rfl rfl) rfl (y_eql rfl rfl) ?_
            refine ops_y (wn rfl) rfl (y_pick (b := true) rfl rfl) ?_
            refine ops_nil ?_
            exact goes_cut hL69 (decide ((r15.1.length : Int) = 0)) [3] (vcons rfl (vcons rfl (vnil))) (by decide) rfl (by rw [hg70]; simp)
          · skip
            refine ops_no 1 true 80 rfl rfl rfl rfl rfl ?_
            refine ops_no 1 true 80 rfl rfl rfl rfl rfl ?_
            refine ops_no 1 true 80 rfl rfl rfl rfl rfl ?_
            refine ops_y (wn rfl) rfl (y_pick (b := false) rfl rfl) ?_
            refine ops_nil ?_
            exact goes_cut hL69 false [3] (vcons rfl (vcons rfl (vnil))) (by decide) rfl (by rw [hg70]; simp)
        rintro _ rfl
        refine ops_y (wn rfl) rfl (y_move rfl) ?_
        refine ops_cut 4 (Bool) (fun σ => [(89, .bool σ)]) (fun σ => []) (fun σ => σ = ((r66 && decide ((r15.1.length : Int) = 0)) && decide (0 < (r15.2.1.length : Int)))) (fun L71 hL72 => ?_) ?_
        · refine ops_split 85 (r66 && decide ((r15.1.length : Int) = 0)) rfl (fun hg73 => ?_) (fun hg73 => ?_)
          · skip
            refine ops_y (wg 6 true 85 rfl rfl rfl rfl) rfl (y_move rfl) ?_
            refine ops_y (wg 6 true 85 rfl rfl rfl rfl) rfl ((y_len 0 rfl Try.runUnderlying34 rfl rfl reads_row).to (v_len (eInt .i64) _)) ?_
            refine ops_y (wg 6 true 85 rfl rfl rfl rfl) rfl (y_gtr rfl rfl) ?_
            refine ops_y (wn rfl) rfl (y_pick (b := true) rfl rfl) ?_
            refine ops_nil ?_
            exact goes_cut hL72 (decide (0 < (r15.2.1.length : Int))) [] (vcons rfl (vnil)) (by decide) rfl (by rw [hg73]; simp)
          · skip
            refine ops_no 6 true 85 rfl rfl rfl rfl rfl ?_
            refine ops_no 6 true 85 rfl rfl rfl rfl rfl ?_
            refine ops_no 6 true 85 rfl rfl rfl rfl rfl ?_
            refine ops_y (wn rfl) rfl (y_pick (b := false) rfl rfl) ?_
            refine ops_nil ?_
            exact goes_cut hL72 false [] (vcons rfl (vnil)) (by decide) rfl (by rw [hg73]; simp)
        rintro _ rfl
        refine ops_y (wn rfl) rfl (y_assign rfl) ?_
        refine ops_nil ?_
        refine goes_code ?_
        refine run_ret ?_
        obtain rfl := some_eq h
        refine fin_slots [2] [.bool ((r66 && decide ((r15.1.length : Int) = 0)) && decide (0 < (r15.2.1.length : Int)))] [] [] Try.results6 rfl (by decide) rfl ?_
        exact ⟨rfl, rfl⟩
      · replace h := cond_f h hc65
        refine run_skip ?_
        refine goes_code ?_
        refine run_seq ?_
        refine run_seq ?_
        refine run_region' ?_
        refine ops_y (wn rfl) rfl (y_move rfl) ?_
        refine ops_y (wn rfl) rfl ((y_len 2 rfl Try.runUnderlying34 rfl rfl reads_row).to (v_len (eInt .i64) _)) ?_
        refine ops_y (wn rfl) rfl (y_fieldAddr_box (sz := 0) Try.runUnderlying24 rfl Try.sizeOf3 rfl) ?_
        refine ops_y (wn rfl) rfl (y_load_box 0 Try.isAgg3 rfl rfl rfl) ?_
        refine ops_y (wn rfl) rfl (y_neq rfl rfl) ?_
        refine ops_y (wn rfl) rfl (y_move rfl) ?_
        refine ops_cut 4 (Bool) (fun σ => [(1, boxP b1 0), (3, v17), (99, .bool σ)]) (fun σ => [box b1 [.int .i64 n_0.Nodes, n_0_Arcsv], ro n_0_Arcsv 4 (n_0.Arcs.map S_api_Arc.enc), row v17 1 (r15.1.map (eInt .i64))]) (fun σ => σ = (decide ((r15.1.length : Int) ≠ n_0.Nodes) || decide ((r15.2.1.length : Int) ≠ 0))) (fun L74 hL75 => ?_) ?_
        · refine ops_split 95 (decide ((r15.1.length : Int) ≠ n_0.Nodes)) rfl (fun hg76 => ?_) (fun hg76 => ?_)
          · skip
            refine ops_no 5 false 95 rfl rfl rfl rfl rfl ?_
            refine ops_no 5 false 95 rfl rfl rfl rfl rfl ?_
            refine ops_no 5 false 95 rfl rfl rfl rfl rfl ?_
            refine ops_y (wn rfl) rfl (y_pick (b := true) rfl rfl) ?_
            refine ops_nil ?_
            exact goes_cut hL75 true [0, 1, 2] (vcons rfl (vcons rfl (vcons rfl (vnil)))) (by decide) rfl (by rw [hg76]; simp)
          · skip
            refine ops_y (wg 5 false 95 rfl rfl rfl rfl) rfl (y_move rfl) ?_
            refine ops_y (wg 5 false 95 rfl rfl rfl rfl) rfl ((y_len 3 rfl Try.runUnderlying34 rfl rfl reads_row).to (v_len (eInt .i64) _)) ?_
            refine ops_y (wg 5 false 95 rfl rfl rfl rfl) rfl (y_neq rfl rfl) ?_
            refine ops_y (wn rfl) rfl (y_pick (b := false) rfl rfl) ?_
            refine ops_nil ?_
            exact goes_cut hL75 (decide ((r15.2.1.length : Int) ≠ 0)) [0, 1, 2] (vcons rfl (vcons rfl (vcons rfl (vnil)))) (by decide) rfl (by rw [hg76]; simp)
        rintro _ rfl
        refine ops_nil ?_
        refine goes_code ?_
        refine run_cond (decide ((r15.1.length : Int) ≠ n_0.Nodes) || decide ((r15.2.1.length : Int) ≠ 0)) rfl (fun hc77 => ?_) (fun hc77 => ?_)
        · replace h := cond_t h hc77
          refine run_seq ?_
          refine run_region' ?_
          refine ops_y (wn rfl) rfl (y_assign rfl) ?_
          refine ops_nil ?_
          refine goes_code ?_
          refine run_ret ?_
          obtain rfl := some_eq h
          refine fin_slots [2] [.bool false] [] [] Try.results6 rfl (by decide) rfl ?_
          exact ⟨rfl, rfl⟩
        · replace h := cond_f h hc77
          refine run_skip ?_
          refine goes_code ?_
          refine run_seq ?_
          refine run_region' ?_
          refine ops_y (wn rfl) rfl (y_fieldAddr_box (sz := 0) Try.runUnderlying24 rfl Try.sizeOf3 rfl) ?_
          refine ops_y (wn rfl) rfl (y_load_box 0 Try.isAgg3 rfl rfl rfl) ?_
          obtain ⟨hm79, h⟩ := need_some h
          refine ops_t (wn rfl) rfl (t_makeSlice (es := 1) Try.runUnderlying34 Try.typeInfo3 rfl Try.zeroValue3 rfl (by decide) rfl rfl hm79.1 hm79.2 (by decide)) ?_
          rintro v78 _ rfl
          refine ops_turn (retell 3 (g := row v78 1 ((List.replicate (n_0.Nodes).toNat (0 : Int)).map (eInt .i64))) rfl (congrArg (row _ _) (map_rep rfl))) ?_
          refine ops_y (wn rfl) rfl (y_assign rfl) ?_
          refine ops_nil ?_
          refine goes_code ?_
          obtain ⟨o81, h, ho82⟩ := bindJ_some h
          refine run_cut (((List Int)) × (Unit)) (fun σ => [(1, boxP b1 0), (11, v78)]) (fun σ => [box b1 [.int .i64 n_0.Nodes, n_0_Arcsv], ro n_0_Arcsv 4 (n_0.Arcs.map S_api_Arc.enc), row v78 1 (σ.1.map (eInt .i64))]) (fun σ => o81 = .go σ.1) (fun L84 hL83 => ?_) ?_
          · -- the ways through
            refine run_seq ?_
            refine run_region' ?_
            refine ops_y (wn rfl) rfl (y_assign rfl) ?_
            refine ops_nil ?_
            refine goes_code ?_
            refine run_block ?_
            refine run_iter (step := law09_GraphOrdersForward_L3 n_0 r15) (n := n) (s0 := (0, (List.replicate (n_0.Nodes).toNat (0 : Int)))) h (G := Unit) () (fun σ γ => [(1, boxP b1 0), (3, v17), (11, v78), (12, .int .i64 σ.1)]) (fun σ γ => [box b1 [.int .i64 n_0.Nodes, n_0_Arcsv], ro n_0_Arcsv 4 (n_0.Arcs.map S_api_Arc.enc), row v17 1 (r15.1.map (eInt .i64)), row v78 1 (σ.2.map (eInt .i64))]) [0, 1, 2, 3] (vcons rfl (vcons rfl (vcons rfl (vcons rfl (vnil))))) (by decide) rfl ?_
            rintro ⟨i_85, x_86⟩ _ o87 h L90 hgo88 hstop89
            change Run _ _ _ (VF.of [(1, boxP b1 0), (3, v17), (11, v78), (12, .int .i64 i_85)]) [box b1 [.int .i64 n_0.Nodes, n_0_Arcsv], ro n_0_Arcsv 4 (n_0.Arcs.map S_api_Arc.enc), row v17 1 (r15.1.map (eInt .i64)), row v78 1 (x_86.map (eInt .i64))]
            refine run_seq ?_
            refine run_seq ?_
            refine run_region' ?_
            refine ops_y (wn rfl) rfl (y_move rfl) ?_
            refine ops_y (wn rfl) rfl (y_move rfl) ?_
            refine ops_y (wn rfl) rfl ((y_len 2 rfl Try.runUnderlying34 rfl rfl reads_row).to (v_len (eInt .i64) _)) ?_
            refine ops_y (wn rfl) rfl (y_lss rfl rfl) ?_
            refine ops_nil ?_
            refine goes_code ?_
            refine run_cond (decide (i_85 < (r15.1.length : Int))) rfl (fun hc91 => ?_) (fun hc91 => ?_)
            · replace h := cond_t h hc91
              refine run_skip ?_
              refine goes_code ?_
              refine run_seq ?_
              refine run_block ?_
              refine run_seq ?_
              refine run_seq ?_
              refine run_draw (by kernel_rfl) (by kernel_rfl) ?_
              refine still_y (wn rfl) rfl (y_move rfl) ?_
              refine still_y (wn rfl) rfl (y_move rfl) ?_
              obtain ⟨x92, hzx92, hlx92, hxx92, h⟩ := idx_some h
              refine still_y (wn rfl) rfl (y_indexAddrI (kd := .i64) (i := i_85) 2 Try.runUnderlying34 Try.sizeOf3 rfl rfl rfl reads_row hzx92 (map_lt hlx92)) ?_
              refine still_y (wn rfl) rfl (y_load_elem (i := i_85.toNat) 2 Try.isAgg3 rfl rfl reads_row (map_get hxx92)) ?_
              refine still_y (wn rfl) rfl (y_lss rfl rfl) ?_
              refine still_y (wn rfl) rfl (y_move rfl) ?_
              refine still_cut 8 (Bool) (fun σ => [(1, boxP b1 0), (3, v17), (11, v78), (12, .int .i64 i_85), (122, .bool σ)]) (fun σ => [box b1 [.int .i64 n_0.Nodes, n_0_Arcsv], ro n_0_Arcsv 4 (n_0.Arcs.map S_api_Arc.enc), row v17 1 (r15.1.map (eInt .i64)), row v78 1 (x_86.map (eInt .i64))]) (fun σ => σ = (decide (x92 < 0) || decide (n_0.Nodes ≤ x92))) (fun L93 hL94 => ?_) ?_
              · refine still_split 114 (decide (x92 < 0)) rfl (fun hg95 => ?_) (fun hg95 => ?_)
                · skip
                  refine still_no 5 false 114 rfl rfl rfl rfl rfl ?_
                  refine still_no 5 false 114 rfl rfl rfl rfl rfl ?_
                  refine still_no 5 false 114 rfl rfl rfl rfl rfl ?_
                  refine still_no 5 false 114 rfl rfl rfl rfl rfl ?_
                  refine still_no 5 false 114 rfl rfl rfl rfl rfl ?_
                  refine still_no 5 false 114 rfl rfl rfl rfl rfl ?_
                  refine still_no 5 false 114 rfl rfl rfl rfl rfl ?_
                  refine still_y (wn rfl) rfl (y_pick (b := true) rfl rfl) ?_
                  refine still_nil ?_
                  exact goes_cut hL94 true [0, 1, 2, 3] (vcons rfl (vcons rfl (vcons rfl (vcons rfl (vcons rfl (vnil)))))) (by decide) rfl (by rw [hg95]; simp)
                · skip
                  refine still_y (wg 5 false 114 rfl rfl rfl rfl) rfl (y_move rfl) ?_
                  refine still_y (wg 5 false 114 rfl rfl rfl rfl) rfl (y_move rfl) ?_
                  refine still_y (wg 5 false 114 rfl rfl rfl rfl) rfl (y_indexAddrI (kd := .i64) (i := i_85) 2 Try.runUnderlying34 Try.sizeOf3 rfl rfl rfl reads_row hzx92 (map_lt hlx92)) ?_
                  refine still_y (wg 5 false 114 rfl rfl rfl rfl) rfl (y_load_elem (i := i_85.toNat) 2 Try.isAgg3 rfl rfl reads_row (map_get hxx92)) ?_
                  refine still_y (wg 5 false 114 rfl rfl rfl rfl) rfl (y_fieldAddr_box (sz := 0) Try.runUnderlying24 rfl Try.sizeOf3 rfl) ?_
                  refine still_y (wg 5 false 114 rfl rfl rfl rfl) rfl (y_load_box 0 Try.isAgg3 rfl rfl rfl) ?_
                  refine still_y (wg 5 false 114 rfl rfl rfl rfl) rfl (y_geq rfl rfl) ?_
                  refine still_y (wn rfl) rfl (y_pick (b := false) rfl rfl) ?_
                  refine still_nil ?_
                  exact goes_cut hL94 (decide (n_0.Nodes ≤ x92)) [0, 1, 2, 3] (vcons rfl (vcons rfl (vcons rfl (vcons rfl (vcons rfl (vnil)))))) (by decide) rfl (by rw [hg95]; simp)
              rintro _ rfl
              refine still_y (wn rfl) rfl (y_move rfl) ?_
              obtain ⟨o97, h, ho98⟩ := bindJ_some h
              refine still_cut 9 (Bool) (fun σ => [(1, boxP b1 0), (3, v17), (11, v78), (12, .int .i64 i_85), (132, .bool σ)]) (fun σ => [box b1 [.int .i64 n_0.Nodes, n_0_Arcsv], ro n_0_Arcsv 4 (n_0.Arcs.map S_api_Arc.enc), row v17 1 (r15.1.map (eInt .i64)), row v78 1 (x_86.map (eInt .i64))]) (fun σ => o97 = .go σ) (fun L99 hL100 => ?_) ?_
              · refine still_split 123 (decide (x92 < 0) || decide (n_0.Nodes ≤ x92)) rfl (fun hg101 => ?_) (fun hg101 => ?_)
                · replace h := cond_t h hg101
                  refine still_no 14 false 123 rfl rfl rfl rfl rfl ?_
                  refine still_no 14 false 123 rfl rfl rfl rfl rfl ?_
                  refine still_no 14 false 123 rfl rfl rfl rfl rfl ?_
                  refine still_no 14 false 123 rfl rfl rfl rfl rfl ?_
                  refine still_no 14 false 123 rfl rfl rfl rfl rfl ?_
                  refine still_no 14 false 123 rfl rfl rfl rfl rfl ?_
                  refine still_no 14 false 123 rfl rfl rfl rfl rfl ?_
                  refine still_no 14 false 123 rfl rfl rfl rfl rfl ?_
                  refine still_y (wn rfl) rfl (y_pick (b := true) rfl rfl) ?_
                  refine still_nil ?_
                  obtain rfl := some_eq h
                  exact goes_cut hL100 true [0, 1, 2, 3] (vcons rfl (vcons rfl (vcons rfl (vcons rfl (vcons rfl (vnil)))))) (by decide) rfl rfl
                · replace h := cond_f h hg101
                  refine still_y (wg 14 false 123 rfl rfl rfl rfl) rfl (y_move rfl) ?_
                  refine still_y (wg 14 false 123 rfl rfl rfl rfl) rfl (y_move rfl) ?_
                  refine still_y (wg 14 false 123 rfl rfl rfl rfl) rfl (y_move rfl) ?_
                  obtain ⟨x102, hzx102, hlx102, hxx102, h⟩ := idx_some h
                  refine still_y (wg 14 false 123 rfl rfl rfl rfl) rfl (y_indexAddrI (kd := .i64) (i := i_85) 2 Try.runUnderlying34 Try.sizeOf3 rfl rfl rfl reads_row hzx102 (map_lt hlx102)) ?_
                  refine still_y (wg 14 false 123 rfl rfl rfl rfl) rfl (y_load_elem (i := i_85.toNat) 2 Try.isAgg3 rfl rfl reads_row (map_get hxx102)) ?_
                  obtain ⟨x103, hzx103, hlx103, hxx103, h⟩ := idx_some h
                  refine still_y (wg 14 false 123 rfl rfl rfl rfl) rfl (y_indexAddrI (kd := .i64) (i := x102) 3 Try.runUnderlying34 Try.sizeOf3 rfl rfl rfl reads_row hzx103 (map_lt hlx103)) ?_
                  refine still_y (wg 14 false 123 rfl rfl rfl rfl) rfl (y_load_elem (i := x102.toNat) 3 Try.isAgg3 rfl rfl reads_row (map_get hxx103)) ?_
                  refine still_y (wg 14 false 123 rfl rfl rfl rfl) rfl (y_neq rfl rfl) ?_
                  refine still_y (wn rfl) rfl (y_pick (b := false) rfl rfl) ?_
                  refine still_nil ?_
                  obtain rfl := some_eq h
                  exact goes_cut hL100 (decide (x103 ≠ 0)) [0, 1, 2, 3] (vcons rfl (vcons rfl (vcons rfl (vcons rfl (vcons rfl (vnil)))))) (by decide) rfl rfl
              rintro b96 hj
              obtain rfl : o97 = _ := hj
              replace h := after_go ho98
              clear ho98
              refine still_nil ?_
              refine goes_code ?_
              refine run_cond b96 rfl (fun hc104 => ?_) (fun hc104 => ?_)
              · replace h := cond_t h hc104
                refine run_seq ?_
                refine run_region' ?_
                refine ops_y (wn rfl) rfl (y_assign rfl) ?_
                refine ops_nil ?_
                refine goes_code ?_
                refine run_ret ?_
                obtain rfl := some_eq h
                obtain rfl := hstop89 _ rfl
                skip
                obtain rfl := after_stop ho82
                refine fin_slots [2] [.bool false] [] [] Try.results6 rfl (by decide) rfl ?_
                exact ⟨rfl, rfl⟩
              · replace h := cond_f h hc104
                refine run_skip ?_
                refine goes_code ?_
                refine run_region' ?_
                refine ops_y (wn rfl) rfl (y_move rfl) ?_
                refine ops_y (wn rfl) rfl (y_move rfl) ?_
                refine ops_y (wn rfl) rfl (y_move rfl) ?_
                obtain ⟨x105, hzx105, hlx105, hxx105, h⟩ := idx_some h
                refine ops_y (wn rfl) rfl (y_indexAddrI (kd := .i64) (i := i_85) 2 Try.runUnderlying34 Try.sizeOf3 rfl rfl rfl reads_row hzx105 (map_lt hlx105)) ?_
                refine ops_y (wn rfl) rfl (y_load_elem (i := i_85.toNat) 2 Try.isAgg3 rfl rfl reads_row (map_get hxx105)) ?_
                refine ops_y (wn rfl) rfl (y_move rfl) ?_
                refine ops_y (wn rfl) rfl (y_add rfl rfl) ?_
                obtain ⟨x106, hzx106, hlx106, hxx106, h⟩ := idx_some h
                refine ops_y (wn rfl) rfl (y_indexAddrI (kd := .i64) (i := x105) 3 Try.runUnderlying34 Try.sizeOf3 rfl rfl rfl reads_row hzx106 (map_lt hlx106)) ?_
                refine ops_t (wn rfl) rfl (t_store_row (i := x105.toNat) (j := 0) (c := (eInt .i64) x106) 3 Try.sizeOf3 rfl rfl rfl rfl (map_get hxx106) (by decide) (by simp [Value.cells, Value.oneCell', boxP])) ?_
                rintro _ _ ⟨rfl, rfl⟩
                refine ops_turn (retell 3 (g := row v78 1 ((x_86.set x105.toNat (IntKind.i64.wrap (i_85 + 1))).map (eInt .i64))) rfl (congrArg (row _ _) (map_set_at rfl))) ?_
                refine ops_nil ?_
                refine goes_blk ?_
                refine goes_code ?_
                refine run_weak [(1, boxP b1 0), (3, v17), (11, v78), (12, .int .i64 i_85)] [0, 1, 2, 3] [box b1 [.int .i64 n_0.Nodes, n_0_Arcsv], ro n_0_Arcsv 4 (n_0.Arcs.map S_api_Arc.enc), row v17 1 (r15.1.map (eInt .i64)), row v78 1 ((x_86.set x105.toNat (IntKind.i64.wrap (i_85 + 1))).map (eInt .i64))] (vcons rfl (vcons rfl (vcons rfl (vcons rfl (vnil))))) (by decide) rfl ?_
                refine run_region' ?_
                refine ops_y (wn rfl) rfl (y_move rfl) ?_
                refine ops_y (wn rfl) rfl (y_add rfl rfl) ?_
                refine ops_y (wn rfl) rfl (y_assign rfl) ?_
                refine ops_nil ?_
                obtain rfl := some_eq h
                exact goes_iter hgo88 ((IntKind.i64.wrap (i_85 + 1)), (x_86.set x105.toNat (IntKind.i64.wrap (i_85 + 1)))) () [0, 1, 2, 3] rfl (vcons rfl (vcons rfl (vcons rfl (vcons rfl (vnil))))) (by decide) rfl
            · replace h := cond_f h hc91
              refine run_exit _ rfl ?_
              obtain rfl := some_eq h
              obtain rfl := hstop89 _ rfl
              exact goes_cut hL83 (x_86, ()) [0, 1, 3] (vcons rfl (vcons rfl (vnil))) (by decide) rfl rfl
          rintro ⟨x_80, _⟩ hj
          obtain rfl : o81 = _ := hj
          replace h := after_go ho82
          clear ho82
          change Run _ _ _ (VF.of [(1, boxP b1 0), (11, v78)]) [box b1 [.int .i64 n_0.Nodes, n_0_Arcsv], ro n_0_Arcsv 4 (n_0.Arcs.map S_api_Arc.enc), row v78 1 (x_80.map (eInt .i64))]
          obtain ⟨o107, h, ho108⟩ := bindJ_some h
          refine run_cut ((Unit) × (Unit)) (fun σ => []) (fun σ => []) (fun σ => o107 = .go σ.1) (fun L110 hL109 => ?_) ?_
          · -- the ways through
            refine run_seq ?_
            refine run_region' ?_
            refine ops_y (wn rfl) rfl (y_assign rfl) ?_
            refine ops_nil ?_
            refine goes_code ?_
            refine run_block ?_
            refine run_iter (step := law09_GraphOrdersForward_L4 n_0 x_80) (n := n) (s0 := 0) h (G := Unit) () (fun σ γ => [(1, boxP b1 0), (11, v78), (13, .int .i64 σ)]) (fun σ γ => [box b1 [.int .i64 n_0.Nodes, n_0_Arcsv], ro n_0_Arcsv 4 (n_0.Arcs.map S_api_Arc.enc), row v78 1 (x_80.map (eInt .i64))]) [0, 1, 2] (vcons rfl (vcons rfl (vcons rfl (vnil)))) (by decide) rfl ?_
            rintro i_111 _ o112 h L115 hgo113 hstop114
            change Run _ _ _ (VF.of [(1, boxP b1 0), (11, v78), (13, .int .i64 i_111)]) [box b1 [.int .i64 n_0.Nodes, n_0_Arcsv], ro n_0_Arcsv 4 (n_0.Arcs.map S_api_Arc.enc), row v78 1 (x_80.map (eInt .i64))]
            refine run_seq ?_
            refine run_seq ?_
            refine run_region' ?_
            refine ops_y (wn rfl) rfl (y_move rfl) ?_
            refine ops_y (wn rfl) rfl (y_fieldAddr_box (sz := 0) Try.runUnderlying24 rfl Try.sizeOf22 rfl) ?_
            refine ops_y (wn rfl) rfl (y_load_box 0 Try.isAgg22 rfl rfl rfl) ?_
            refine ops_y (wn rfl) rfl ((y_len 1 rfl Try.runUnderlying22 rfl rfl reads_ro).to (v_len S_api_Arc.enc _)) ?_
            refine ops_y (wn rfl) rfl (y_lss rfl rfl) ?_
            refine ops_nil ?_
            refine goes_code ?_
            refine run_cond (decide (i_111 < (n_0.Arcs.length : Int))) rfl (fun hc116 => ?_) (fun hc116 => ?_)
            · replace h := cond_t h hc116
              refine run_skip ?_
              refine goes_code ?_
              refine run_seq ?_
              refine run_block ?_
              refine run_seq ?_
              refine run_draw (by kernel_rfl) (by kernel_rfl) ?_
              refine still_y (wn rfl) rfl (y_move rfl) ?_
              refine still_y (wn rfl) rfl (y_fieldAddr_box (sz := 0) Try.runUnderlying24 rfl Try.sizeOf22 rfl) ?_
              refine still_y (wn rfl) rfl (y_load_box 0 Try.isAgg22 rfl rfl rfl) ?_
              refine still_y (wn rfl) rfl (y_move rfl) ?_
              obtain ⟨x117, hzx117, hlx117, hxx117, h⟩ := idx_some h
              refine still_y (wn rfl) rfl (y_indexAddrI (kd := .i64) (i := i_111) 1 Try.runUnderlying22 Try.sizeOf67 rfl rfl rfl reads_ro hzx117 (map_lt hlx117)) ?_
              refine still_y (wn rfl) rfl (y_fieldAddr_elem (sz := 0) Try.runUnderlying67 rfl Try.sizeOf3 rfl) ?_
              refine still_y (wn rfl) rfl (y_load_field (i := i_111.toNat) (j := 0) 1 Try.isAgg3 rfl rfl reads_ro (map_get hxx117) rfl) ?_
              obtain ⟨x118, hzx118, hlx118, hxx118, h⟩ := idx_some h
              refine still_y (wn rfl) rfl (y_indexAddrI (kd := .i64) (i := x117.From) 2 Try.runUnderlying34 Try.sizeOf3 rfl rfl rfl reads_row hzx118 (map_lt hlx118)) ?_
              refine still_y (wn rfl) rfl (y_load_elem (i := (x117.From).toNat) 2 Try.isAgg3 rfl rfl reads_row (map_get hxx118)) ?_
              refine still_y (wn rfl) rfl (y_move rfl) ?_
              refine still_y (wn rfl) rfl (y_fieldAddr_box (sz := 0) Try.runUnderlying24 rfl Try.sizeOf22 rfl) ?_
              refine still_y (wn rfl) rfl (y_load_box 0 Try.isAgg22 rfl rfl rfl) ?_
              refine still_y (wn rfl) rfl (y_move rfl) ?_
              refine still_y (wn rfl) rfl (y_indexAddrI (kd := .i64) (i := i_111) 1 Try.runUnderlying22 Try.sizeOf67 rfl rfl rfl reads_ro hzx117 (map_lt hlx117)) ?_
              refine still_y (wn rfl) rfl (y_fieldAddr_elem (sz := 0) Try.runUnderlying67 rfl Try.sizeOf3 rfl) ?_
              refine still_y (wn rfl) rfl (y_load_field (i := i_111.toNat) (j := 1) 1 Try.isAgg3 rfl rfl reads_ro (map_get hxx117) rfl) ?_
              obtain ⟨x119, hzx119, hlx119, hxx119, h⟩ := idx_some h
              refine still_y (wn rfl) rfl (y_indexAddrI (kd := .i64) (i := x117.To) 2 Try.runUnderlying34 Try.sizeOf3 rfl rfl rfl reads_row hzx119 (map_lt hlx119)) ?_
              refine still_y (wn rfl) rfl (y_load_elem (i := (x117.To).toNat) 2 Try.isAgg3 rfl rfl reads_row (map_get hxx119)) ?_
              refine still_y (wn rfl) rfl (y_geq rfl rfl) ?_
              refine still_nil ?_
              refine goes_code ?_
              refine run_cond (decide (x119 ≤ x118)) rfl (fun hc120 => ?_) (fun hc120 => ?_)
              · replace h := cond_t h hc120
                refine run_seq ?_
                refine run_weak [] [] [] vnil (by decide) rfl ?_
                refine run_region' ?_
                refine ops_y (wn rfl) rfl (y_assign rfl) ?_
                refine ops_nil ?_
                refine goes_code ?_
                refine run_ret ?_
                obtain rfl := some_eq h
                obtain rfl := hstop114 _ rfl
                skip
                obtain rfl := after_stop ho108
                refine fin_slots [2] [.bool false] [] [] Try.results6 rfl (by decide) rfl ?_
                exact ⟨rfl, rfl⟩
              · replace h := cond_f h hc120
                refine run_skip ?_
                refine goes_blk ?_
                refine goes_code ?_
                refine run_weak [(1, boxP b1 0), (11, v78), (13, .int .i64 i_111)] [0, 1, 2] [box b1 [.int .i64 n_0.Nodes, n_0_Arcsv], ro n_0_Arcsv 4 (n_0.Arcs.map S_api_Arc.enc), row v78 1 (x_80.map (eInt .i64))] (vcons rfl (vcons rfl (vcons rfl (vnil)))) (by decide) rfl ?_
                refine run_region' ?_
                refine ops_y (wn rfl) rfl (y_move rfl) ?_
                refine ops_y (wn rfl) rfl (y_add rfl rfl) ?_
                refine ops_y (wn rfl) rfl (y_assign rfl) ?_
                refine ops_nil ?_
                obtain rfl := some_eq h
                exact goes_iter hgo113 (IntKind.i64.wrap (i_111 + 1)) () [0, 1, 2] rfl (vcons rfl (vcons rfl (vcons rfl (vnil)))) (by decide) rfl
            · replace h := cond_f h hc116
              refine run_exit _ rfl ?_
              obtain rfl := some_eq h
              obtain rfl := hstop114 _ rfl
              exact goes_cut hL109 ((), ()) [] vnil (by decide) rfl rfl
          rintro ⟨_, _⟩ hj
          obtain rfl : o107 = _ := hj
          replace h := after_go ho108
          clear ho108
          change Run _ _ _ (VF.of []) []
          refine run_seq ?_
          refine run_region' ?_
          obtain ⟨r121, hr122, h⟩ := obind_some h
          refine ops_t (wn rfl) rfl (t_callx (vs := []) (cs := []) [] rfl Try.call10 rfl (law09_sanity_ok n   hr122) showsX_nil rfl (.inl rfl)) ?_
          rintro _ _ ⟨_, ⟨rfl, rfl⟩, rfl⟩
          refine ops_y (wn rfl) rfl (y_assign rfl) ?_
          refine ops_nil ?_
          refine goes_code ?_
          refine run_ret ?_
          obtain rfl := some_eq h
          refine fin_slots [2] [.bool r121] [] [] Try.results6 rfl (by decide) rfl ?_
          exact ⟨rfl, rfl⟩

end Go.Proofs.Ytgelifcckhemiaa
