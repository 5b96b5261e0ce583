/-
  The law GraphTreesNest, lifted.
-/
import Derived.Test.YtgelifcckhemiaaG5a
namespace Go.Proofs.Ytgelifcckhemiaa
open Go.Abs
set_option linter.unusedVariables false
set_option linter.unusedSimpArgs false
set_option maxRecDepth 20000
set_option maxHeartbeats 4000000


def law09_GraphTreesNest_L2 (n : Nat) (p_0 : (List Int)) (v_18 : Int) (r83 : (List Int) × Int) : (Int) → Option (Lp (Int) (Lp (Unit) (Lp (Int) (Lp (Unit) (Bool))))) :=
  fun w_87 =>
    cond (decide (w_87 < (p_0.length : Int)))
      (obind (graph_Climb n p_0 w_87) fun r93 =>
      bindJ (S := Bool)
        (cond (decide (r93.2 ≠ 0))
          (some (.go true))
          (obind (ref09_Has n r83.1 w_87) fun r102 =>
          obind (ref09_Has n r93.1 v_18) fun r104 =>
          some (.go (!(r102 == r104)))))
      (fun b96 =>
        cond b96
          (some (.stop (.stop (.stop (.stop false)))))
          (some (.go (IntKind.i64.wrap (w_87 + 1))))))
      (some (.stop (.go ())))
def law09_GraphTreesNest_L1 (n : Nat) (p_0 : (List Int)) (r4 : (List Int) × Int) : (Int) → Option (Lp (Int) (Lp (Unit) (Bool))) :=
  fun v_18 =>
    cond (decide (v_18 < (p_0.length : Int)))
      (bindJ (S := Unit)
        (obind (graph_Climb n p_0 v_18) fun r28 =>
        bindJ (S := Bool)
          (cond (decide (r28.2 ≠ 0) || decide ((r28.1.length : Int) = 0))
            (some (.go true))
            (idx r4.1 v_18 fun x40 =>
            some (.go (decide ((r28.1.length : Int) ≠ (IntKind.i64.wrap (x40 + 1)))))))
        (fun b34 =>
          bindJ (S := Bool)
            (cond b34
              (some (.go true))
              (idx r28.1 0 fun x47 =>
              some (.go (decide (x47 ≠ v_18)))))
          (fun b41 =>
            bindJ (S := Bool)
              (cond b41
                (some (.go true))
                (idx p_0 v_18 fun x54 =>
                some (.go (decide ((p_0.length : Int) ≤ x54)))))
            (fun b48 =>
              cond b48
                (some (.stop (.stop (.stop false))))
                (bindJ (S := Unit)
                  (idx p_0 v_18 fun x60 =>
                  cond (decide (0 ≤ x60))
                    (obind (graph_Climb n p_0 x60) fun r62 =>
                    bindJ (S := Bool)
                      (cond (decide (r62.2 ≠ 0))
                        (some (.go true))
                        (idx r4.1 v_18 fun x71 =>
                        idx r4.1 x60 fun x72 =>
                        some (.go (decide (x71 ≠ (IntKind.i64.wrap (x72 + 1)))))))
                    (fun b65 =>
                      bindJ (S := Bool)
                        (cond b65
                          (some (.go true))
                          (need (0 ≤ (1 : Int) ∧ 1 ≤ (r28.1.length : Int) ∧ (r28.1.length : Int) ≤ (r28.1.length : Int)) (
                          obind (ref09_Same n (r28.1.drop ((1 : Int).toNat)) r62.1) fun r78 =>
                          some (.go (!r78)))))
                      (fun b73 =>
                        cond b73
                          (some (.stop (.stop (.stop (.stop false)))))
                          (some (.go ())))))
                    (idx r4.1 v_18 fun x81 =>
                    cond (decide (x81 ≠ 0))
                      (some (.stop (.stop (.stop (.stop false)))))
                      (some (.go ()))))
                (fun _ =>
                  obind (graph_Below n p_0 v_18) fun r83 =>
                  cond (decide (r83.2 ≠ 0))
                    (some (.stop (.stop (.stop false))))
                    (iter (law09_GraphTreesNest_L2 n p_0 v_18 r83) n 0)))))))
      (fun _ =>
        some (.go (IntKind.i64.wrap (v_18 + 1)))))
      (some (.stop (.go ())))
def law09_GraphTreesNest (n : Nat) (p_0 : (List Int)) : Option (Bool) :=
  cond (decide (40 < (p_0.length : Int)))
    (obind (law09_sanity n) fun r2 =>
    some r2)
    (obind (graph_Depths n p_0) fun r4 =>
    cond (decide (r4.2 ≠ 0))
      (obind (law09_sanity n) fun r8 =>
      some (r8 && decide (r4.2 = 3)))
      (cond (decide ((r4.1.length : Int) ≠ (p_0.length : Int)))
        (some false)
        (bindJ (S := Unit)
          (iter (law09_GraphTreesNest_L1 n p_0 r4) n 0)
        (fun _ =>
          obind (law09_sanity n) fun r107 =>
          some r107))))
theorem law09_GraphTreesNest_ok (n : Nat) (p_0 : (List Int)) (p_0v : Value) {r : Bool} (h : law09_GraphTreesNest n p_0 = some r) :
    Meets Try.prog 8 [p_0v] [ro p_0v 1 (p_0.map (eInt .i64))] (fun v G => v = .bool r ∧ G = []) := by
  refine fn_of_run Try.func8 rfl Try.ntmps8 rfl (fun w0 o0 => ?_)
  refine run_seq ?_
  refine run_region' ?_
  refine ops_y (wn rfl) rfl (y_assign rfl) ?_
  refine ops_nil ?_
  refine goes_code ?_
  refine run_seq ?_
  refine run_seq ?_
  refine run_region' ?_
  refine ops_y (wn rfl) rfl (y_move rfl) ?_
  refine ops_y (wn rfl) rfl ((y_len 0 rfl Try.runUnderlying34 rfl rfl reads_ro).to (v_len (eInt .i64) _)) ?_
  refine ops_y (wn rfl) rfl (y_gtr rfl rfl) ?_
  refine ops_nil ?_
  refine goes_code ?_
  refine run_cond (decide (40 < (p_0.length : Int))) rfl (fun hc1 => ?_) (fun hc1 => ?_)
  · replace h := cond_t h hc1
    refine run_seq ?_
    refine run_region' ?_
    obtain ⟨r2, hr3, h⟩ := obind_some h
    refine ops_t (wn rfl) rfl (t_callx (vs := []) (cs := []) [] rfl Try.call10 rfl (law09_sanity_ok n   hr3) showsX_nil rfl (.inl rfl)) ?_
    rintro _ _ ⟨_, ⟨rfl, rfl⟩, rfl⟩
    refine ops_y (wn rfl) rfl (y_assign rfl) ?_
    refine ops_nil ?_
    refine goes_code ?_
    refine run_ret ?_
    obtain rfl := some_eq h
    refine fin_slots [2] [.bool r2] [] [] Try.results8 rfl (by decide) rfl ?_
    exact ⟨rfl, rfl⟩
  · replace h := cond_f h hc1
    refine run_skip ?_
    refine goes_code ?_
    refine run_seq ?_
    refine run_region' ?_
    refine ops_y (wn rfl) rfl (y_move rfl) ?_
    obtain ⟨r4, hr5, h⟩ := obind_some h
    refine ops_t (wn rfl) rfl (t_callx (vs := [p_0v]) (cs := []) [(0, 0)] rfl Try.call26 rfl (graph_Depths_ok n p_0 p_0v hr5) (showsX_view 0 rfl views_ro showsX_nil) rfl (.inl rfl)) ?_
    rintro _ _ ⟨_, ⟨v6, rfl, rfl⟩, rfl⟩
    refine ops_y (wn rfl) rfl (y_move rfl) ?_
    refine ops_y (wn rfl) rfl (y_extract rfl rfl) ?_
    refine ops_y (wn rfl) rfl (y_extract rfl rfl) ?_
    refine ops_y (wn rfl) rfl (y_assign rfl) ?_
    refine ops_y (wn rfl) rfl (y_assign rfl) ?_
    refine ops_nil ?_
    refine goes_code ?_
    refine run_seq ?_
    refine run_seq ?_
    refine run_weak [(0, p_0v), (3, v6), (4, .int .i64 r4.2)] [0, 1] [ro p_0v 1 (p_0.map (eInt .i64)), row v6 1 (r4.1.map (eInt .i64))] (vcons rfl (vcons rfl (vcons rfl (vnil)))) (by decide) rfl ?_
    refine run_region' ?_
    refine ops_y (wn rfl) rfl (y_move rfl) ?_
    refine ops_y (wn rfl) rfl (y_neq rfl rfl) ?_
    refine ops_nil ?_
    refine goes_code ?_
    refine run_cond (decide (r4.2 ≠ 0)) rfl (fun hc7 => ?_) (fun hc7 => ?_)
    · replace h := cond_t h hc7
      refine run_seq ?_
      refine run_region' ?_
      obtain ⟨r8, hr9, h⟩ := obind_some h
      refine ops_t (wn rfl) rfl (t_callx (vs := []) (cs := []) [] rfl Try.call10 rfl (law09_sanity_ok n   hr9) showsX_nil rfl (.inl rfl)) ?_
      rintro _ _ ⟨_, ⟨rfl, rfl⟩, rfl⟩
      refine ops_y (wn rfl) rfl (y_move rfl) ?_
      refine ops_cut 3 (Bool) (fun σ => [(30, .bool σ)]) (fun σ => []) (fun σ => σ = (r8 && decide (r4.2 = 3))) (fun L10 hL11 => ?_) ?_
      · refine ops_split 27 r8 rfl (fun hg12 => ?_) (fun hg12 => ?_)
        · skip
          refine ops_y (wg 1 true 27 rfl rfl rfl rfl) rfl (y_move rfl) ?_
          refine ops_y (wg 1 true 27 rfl rfl rfl rfl) rfl (y_eql rfl rfl) ?_
          refine ops_y (wn rfl) rfl (y_pick (b := true) rfl rfl) ?_
          refine ops_nil ?_
          exact goes_cut hL11 (decide (r4.2 = 3)) [] (vcons rfl (vnil)) (by decide) rfl (by rw [hg12]; simp)
        · skip
          refine ops_no 1 true 27 rfl rfl rfl rfl rfl ?_
          refine ops_no 1 true 27 rfl rfl rfl rfl rfl ?_
          refine ops_y (wn rfl) rfl (y_pick (b := false) rfl rfl) ?_
          refine ops_nil ?_
          exact goes_cut hL11 false [] (vcons rfl (vnil)) (by decide) rfl (by rw [hg12]; simp)
      rintro _ rfl
      refine ops_y (wn rfl) rfl (y_assign rfl) ?_
      refine ops_nil ?_
      refine goes_code ?_
      refine run_ret ?_
      obtain rfl := some_eq h
      refine fin_slots [2] [.bool (r8 && decide (r4.2 = 3))] [] [] Try.results8 rfl (by decide) rfl ?_
      exact ⟨rfl, rfl⟩
    · replace h := cond_f h hc7
      refine run_skip ?_
      refine goes_code ?_
      refine run_seq ?_
      refine run_seq ?_
      refine run_region' ?_
      refine ops_y (wn rfl) rfl (y_move rfl) ?_
      refine ops_y (wn rfl) rfl ((y_len 1 rfl Try.runUnderlying34 rfl rfl reads_row).to (v_len (eInt .i64) _)) ?_
      refine ops_y (wn rfl) rfl (y_move rfl) ?_
      refine ops_y (wn rfl) rfl ((y_len 0 rfl Try.runUnderlying34 rfl rfl reads_ro).to (v_len (eInt .i64) _)) ?_
      refine ops_y (wn rfl) rfl (y_neq rfl rfl) ?_
      refine ops_nil ?_
      refine goes_code ?_
      refine run_cond (decide ((r4.1.length : Int) ≠ (p_0.length : Int))) rfl (fun hc13 => ?_) (fun hc13 => ?_)
      · replace h := cond_t h hc13
        refine run_seq ?_
        refine run_region' ?_
        refine ops_y (wn rfl) rfl (y_assign rfl) ?_
        refine ops_nil ?_
        refine goes_code ?_
        refine run_ret ?_
        obtain rfl := some_eq h
        refine fin_slots [2] [.bool false] [] [] Try.results8 rfl (by decide) rfl ?_
        exact ⟨rfl, rfl⟩
      · replace h := cond_f h hc13
        refine run_skip ?_
        refine goes_code ?_
        obtain ⟨o14, h, ho15⟩ := bindJ_some h
        refine run_cut ((Unit) × (Unit)) (fun σ => []) (fun σ => []) (fun σ => o14 = .go σ.1) (fun L17 hL16 => ?_) ?_
        · -- the ways through
          refine run_seq ?_
          refine run_region' ?_
          refine ops_y (wn rfl) rfl (y_assign rfl) ?_
          refine ops_nil ?_
          refine goes_code ?_
          refine run_block ?_
          refine run_iter (step := law09_GraphTreesNest_L1 n p_0 r4) (n := n) (s0 := 0) h (G := Unit) () (fun σ γ => [(0, p_0v), (3, v6), (5, .int .i64 σ)]) (fun σ γ => [ro p_0v 1 (p_0.map (eInt .i64)), row v6 1 (r4.1.map (eInt .i64))]) [0, 1] (vcons rfl (vcons rfl (vcons rfl (vnil)))) (by decide) rfl ?_
          rintro v_18 _ o19 h L22 hgo20 hstop21
          change Run _ _ _ (VF.of [(0, p_0v), (3, v6), (5, .int .i64 v_18)]) [ro p_0v 1 (p_0.map (eInt .i64)), row v6 1 (r4.1.map (eInt .i64))]
          refine run_seq ?_
          refine run_seq ?_
          refine run_region' ?_
          refine ops_y (wn rfl) rfl (y_move rfl) ?_
          refine ops_y (wn rfl) rfl (y_move rfl) ?_
          refine ops_y (wn rfl) rfl ((y_len 0 rfl Try.runUnderlying34 rfl rfl reads_ro).to (v_len (eInt .i64) _)) ?_
          refine ops_y (wn rfl) rfl (y_lss rfl rfl) ?_
          refine ops_nil ?_
          refine goes_code ?_
          refine run_cond (decide (v_18 < (p_0.length : Int))) rfl (fun hc23 => ?_) (fun hc23 => ?_)
          · replace h := cond_t h hc23
            refine run_skip ?_
            refine goes_code ?_
            obtain ⟨o24, h, ho25⟩ := bindJ_some h
            refine run_cut ((Unit) × (Unit)) (fun σ => [(0, p_0v), (3, v6), (5, .int .i64 v_18)]) (fun σ => [ro p_0v 1 (p_0.map (eInt .i64)), row v6 1 (r4.1.map (eInt .i64))]) (fun σ => o24 = .go σ.1) (fun L27 hL26 => ?_) ?_
            · -- the ways through
              refine run_block ?_
              refine run_seq ?_
              refine run_region' ?_
              refine ops_y (wn rfl) rfl (y_move rfl) ?_
              refine ops_y (wn rfl) rfl (y_move rfl) ?_
              obtain ⟨r28, hr29, h⟩ := obind_some h
              refine ops_t (wn rfl) rfl (t_callx (vs := [p_0v, .int .i64 v_18]) (cs := []) [(0, 0)] rfl Try.call27 rfl (graph_Climb_ok n p_0 v_18 p_0v hr29) (showsX_view 0 rfl views_ro showsX_nil) rfl (.inl rfl)) ?_
              rintro _ _ ⟨_, ⟨v30, rfl, rfl⟩, rfl⟩
              refine ops_y (wn rfl) rfl (y_move rfl) ?_
              refine ops_y (wn rfl) rfl (y_extract rfl rfl) ?_
              refine ops_y (wn rfl) rfl (y_extract rfl rfl) ?_
              refine ops_y (wn rfl) rfl (y_assign rfl) ?_
              refine ops_y (wn rfl) rfl (y_assign rfl) ?_
              refine ops_nil ?_
              refine goes_code ?_
              refine run_seq ?_
              refine run_seq ?_
              refine run_weak [(0, p_0v), (3, v6), (5, .int .i64 v_18), (6, v30), (7, .int .i64 r28.2)] [0, 1, 2] [ro p_0v 1 (p_0.map (eInt .i64)), row v6 1 (r4.1.map (eInt .i64)), row v30 1 (r28.1.map (eInt .i64))] (vcons rfl (vcons rfl (vcons rfl (vcons rfl (vcons rfl (vnil)))))) (by decide) rfl ?_
              refine run_region' ?_
              refine ops_y (wn rfl) rfl (y_move rfl) ?_
              refine ops_y (wn rfl) rfl (y_neq rfl rfl) ?_
              refine ops_y (wn rfl) rfl (y_move rfl) ?_
              refine ops_cut 4 (Bool) (fun σ => [(0, p_0v), (3, v6), (5, .int .i64 v_18), (6, v30), (54, .bool σ)]) (fun σ => [ro p_0v 1 (p_0.map (eInt .i64)), row v6 1 (r4.1.map (eInt .i64)), row v30 1 (r28.1.map (eInt .i64))]) (fun σ => σ = (decide (r28.2 ≠ 0) || decide ((r28.1.length : Int) = 0))) (fun L31 hL32 => ?_) ?_
              · refine ops_split 50 (decide (r28.2 ≠ 0)) rfl (fun hg33 => ?_) (fun hg33 => ?_)
                · skip
                  refine ops_no 2 false 50 rfl rfl rfl rfl rfl ?_
                  refine ops_no 2 false 50 rfl rfl rfl rfl rfl ?_
                  refine ops_no 2 false 50 rfl rfl rfl rfl rfl ?_
                  refine ops_y (wn rfl) rfl (y_pick (b := true) rfl rfl) ?_
                  refine ops_nil ?_
                  exact goes_cut hL32 true [0, 1, 2] (vcons rfl (vcons rfl (vcons rfl (vcons rfl (vcons rfl (vnil)))))) (by decide) rfl (by rw [hg33]; simp)
                · skip
                  refine ops_y (wg 2 false 50 rfl rfl rfl rfl) rfl (y_move rfl) ?_
                  refine ops_y (wg 2 false 50 rfl rfl rfl rfl) rfl ((y_len 2 rfl Try.runUnderlying34 rfl rfl reads_row).to (v_len (eInt .i64) _)) ?_
                  refine ops_y (wg 2 false 50 rfl rfl rfl rfl) rfl (y_eql rfl rfl) ?_
                  refine ops_y (wn rfl) rfl (y_pick (b := false) rfl rfl) ?_
                  refine ops_nil ?_
                  exact goes_cut hL32 (decide ((r28.1.length : Int) = 0)) [0, 1, 2] (vcons rfl (vcons rfl (vcons rfl (vcons rfl (vcons rfl (vnil)))))) (by decide) rfl (by rw [hg33]; simp)
              rintro _ rfl
              refine ops_y (wn rfl) rfl (y_move rfl) ?_
              obtain ⟨o35, h, ho36⟩ := bindJ_some h
              refine ops_cut 9 (Bool) (fun σ => [(0, p_0v), (3, v6), (5, .int .i64 v_18), (6, v30), (64, .bool σ)]) (fun σ => [ro p_0v 1 (p_0.map (eInt .i64)), row v6 1 (r4.1.map (eInt .i64)), row v30 1 (r28.1.map (eInt .i64))]) (fun σ => o35 = .go σ) (fun L37 hL38 => ?_) ?_
              · refine ops_split 55 (decide (r28.2 ≠ 0) || decide ((r28.1.length : Int) = 0)) rfl (fun hg39 => ?_) (fun hg39 => ?_)
                · replace h := cond_t h hg39
                  refine ops_no 7 false 55 rfl rfl rfl rfl rfl ?_
                  refine ops_no 7 false 55 rfl rfl rfl rfl rfl ?_
                  refine ops_no 7 false 55 rfl rfl rfl rfl rfl ?_
                  refine ops_no 7 false 55 rfl rfl rfl rfl rfl ?_
                  refine ops_no 7 false 55 rfl rfl rfl rfl rfl ?_
                  refine ops_no 7 false 55 rfl rfl rfl rfl rfl ?_
                  refine ops_no 7 false 55 rfl rfl rfl rfl rfl ?_
                  refine ops_no 7 false 55 rfl rfl rfl rfl rfl ?_
                  refine ops_y (wn rfl) rfl (y_pick (b := true) rfl rfl) ?_
                  refine ops_nil ?_
                  obtain rfl := some_eq h
                  exact goes_cut hL38 true [0, 1, 2] (vcons rfl (vcons rfl (vcons rfl (vcons rfl (vcons rfl (vnil)))))) (by decide) rfl rfl
                · replace h := cond_f h hg39
                  refine ops_y (wg 7 false 55 rfl rfl rfl rfl) rfl (y_move rfl) ?_
                  refine ops_y (wg 7 false 55 rfl rfl rfl rfl) rfl ((y_len 2 rfl Try.runUnderlying34 rfl rfl reads_row).to (v_len (eInt .i64) _)) ?_
                  refine ops_y (wg 7 false 55 rfl rfl rfl rfl) rfl (y_move rfl) ?_
                  refine ops_y (wg 7 false 55 rfl rfl rfl rfl) rfl (y_move rfl) ?_
                  obtain ⟨x40, hzx40, hlx40, hxx40, h⟩ := idx_some h
                  refine ops_y (wg 7 false 55 rfl rfl rfl rfl) rfl (y_indexAddrI (kd := .i64) (i := v_18) 1 Try.runUnderlying34 Try.sizeOf3 rfl rfl rfl reads_row hzx40 (map_lt hlx40)) ?_
                  refine ops_y (wg 7 false 55 rfl rfl rfl rfl) rfl (y_load_elem (i := v_18.toNat) 1 Try.isAgg3 rfl rfl reads_row (map_get hxx40)) ?_
                  refine ops_y (wg 7 false 55 rfl rfl rfl rfl) rfl (y_add rfl rfl) ?_
                  refine ops_y (wg 7 false 55 rfl rfl rfl rfl) rfl (y_neq rfl rfl) ?_
                  refine ops_y (wn rfl) rfl (y_pick (b := false) rfl rfl) ?_
                  refine ops_nil ?_
                  obtain rfl := some_eq h
                  exact goes_cut hL38 (decide ((r28.1.length : Int) ≠ (IntKind.i64.wrap (x40 + 1)))) [0, 1, 2] (vcons rfl (vcons rfl (vcons rfl (vcons rfl (vcons rfl (vnil)))))) (by decide) rfl rfl
              rintro b34 hj
              obtain rfl : o35 = _ := hj
              replace h := after_go ho36
              clear ho36
              refine ops_y (wn rfl) rfl (y_move rfl) ?_
              obtain ⟨o42, h, ho43⟩ := bindJ_some h
              refine ops_cut 6 (Bool) (fun σ => [(0, p_0v), (3, v6), (5, .int .i64 v_18), (6, v30), (71, .bool σ)]) (fun σ => [ro p_0v 1 (p_0.map (eInt .i64)), row v6 1 (r4.1.map (eInt .i64)), row v30 1 (r28.1.map (eInt .i64))]) (fun σ => o42 = .go σ) (fun L44 hL45 => ?_) ?_
              · refine ops_split 65 b34 rfl (fun hg46 => ?_) (fun hg46 => ?_)
                · replace h := cond_t h hg46
                  refine ops_no 17 false 65 rfl rfl rfl rfl rfl ?_
                  refine ops_no 17 false 65 rfl rfl rfl rfl rfl ?_
                  refine ops_no 17 false 65 rfl rfl rfl rfl rfl ?_
                  refine ops_no 17 false 65 rfl rfl rfl rfl rfl ?_
                  refine ops_no 17 false 65 rfl rfl rfl rfl rfl ?_
                  refine ops_y (wn rfl) rfl (y_pick (b := true) rfl rfl) ?_
                  refine ops_nil ?_
                  obtain rfl := some_eq h
                  exact goes_cut hL45 true [0, 1, 2] (vcons rfl (vcons rfl (vcons rfl (vcons rfl (vcons rfl (vnil)))))) (by decide) rfl rfl
                · replace h := cond_f h hg46
                  refine ops_y (wg 17 false 65 rfl rfl rfl rfl) rfl (y_move rfl) ?_
                  obtain ⟨x47, hzx47, hlx47, hxx47, h⟩ := idx_some h
                  refine ops_y (wg 17 false 65 rfl rfl rfl rfl) rfl (y_indexAddrI (kd := .i64) (i := 0) 2 Try.runUnderlying34 Try.sizeOf3 rfl rfl rfl reads_row hzx47 (map_lt hlx47)) ?_
                  refine ops_y (wg 17 false 65 rfl rfl rfl rfl) rfl (y_load_elem (i := (0 : Int).toNat) 2 Try.isAgg3 rfl rfl reads_row (map_get hxx47)) ?_
                  refine ops_y (wg 17 false 65 rfl rfl rfl rfl) rfl (y_move rfl) ?_
                  refine ops_y (wg 17 false 65 rfl rfl rfl rfl) rfl (y_neq rfl rfl) ?_
                  refine ops_y (wn rfl) rfl (y_pick (b := false) rfl rfl) ?_
                  refine ops_nil ?_
                  obtain rfl := some_eq h
                  exact goes_cut hL45 (decide (x47 ≠ v_18)) [0, 1, 2] (vcons rfl (vcons rfl (vcons rfl (vcons rfl (vcons rfl (vnil)))))) (by decide) rfl rfl
              rintro b41 hj
              obtain rfl : o42 = _ := hj
              replace h := after_go ho43
              clear ho43
              refine ops_y (wn rfl) rfl (y_move rfl) ?_
              obtain ⟨o49, h, ho50⟩ := bindJ_some h
              refine ops_cut 8 (Bool) (fun σ => [(0, p_0v), (3, v6), (5, .int .i64 v_18), (6, v30), (80, .bool σ)]) (fun σ => [ro p_0v 1 (p_0.map (eInt .i64)), row v6 1 (r4.1.map (eInt .i64)), row v30 1 (r28.1.map (eInt .i64))]) (fun σ => o49 = .go σ) (fun L51 hL52 => ?_) ?_
              · refine ops_split 72 b41 rfl (fun hg53 => ?_) (fun hg53 => ?_)
                · replace h := cond_t h hg53
                  refine ops_no 24 false 72 rfl rfl rfl rfl rfl ?_
                  refine ops_no 24 false 72 rfl rfl rfl rfl rfl ?_
                  refine ops_no 24 false 72 rfl rfl rfl rfl rfl ?_
                  refine ops_no 24 false 72 rfl rfl rfl rfl rfl ?_
                  refine ops_no 24 false 72 rfl rfl rfl rfl rfl ?_
                  refine ops_no 24 false 72 rfl rfl rfl rfl rfl ?_
                  refine ops_no 24 false 72 rfl rfl rfl rfl rfl ?_
                  refine ops_y (wn rfl) rfl (y_pick (b := true) rfl rfl) ?_
                  refine ops_nil ?_
                  obtain rfl := some_eq h
                  exact goes_cut hL52 true [0, 1, 2] (vcons rfl (vcons rfl (vcons rfl (vcons rfl (vcons rfl (vnil)))))) (by decide) rfl rfl
                · replace h := cond_f h hg53
                  refine ops_y (wg 24 false 72 rfl rfl rfl rfl) rfl (y_move rfl) ?_
                  refine ops_y (wg 24 false 72 rfl rfl rfl rfl) rfl (y_move rfl) ?_
                  obtain ⟨x54, hzx54, hlx54, hxx54, h⟩ := idx_some h
                  refine ops_y (wg 24 false 72 rfl rfl rfl rfl) rfl (y_indexAddrI (kd := .i64) (i := v_18) 0 Try.runUnderlying34 Try.sizeOf3 rfl rfl rfl reads_ro hzx54 (map_lt hlx54)) ?_
                  refine ops_y (wg 24 false 72 rfl rfl rfl rfl) rfl (y_load_elem (i := v_18.toNat) 0 Try.isAgg3 rfl rfl reads_ro (map_get hxx54)) ?_
                  refine ops_y (wg 24 false 72 rfl rfl rfl rfl) rfl (y_move rfl) ?_
                  refine ops_y (wg 24 false 72 rfl rfl rfl rfl) rfl ((y_len 0 rfl Try.runUnderlying34 rfl rfl reads_ro).to (v_len (eInt .i64) _)) ?_
                  refine ops_y (wg 24 false 72 rfl rfl rfl rfl) rfl (y_geq rfl rfl) ?_
                  refine ops_y (wn rfl) rfl (y_pick (b := false) rfl rfl) ?_
                  refine ops_nil ?_
                  obtain rfl := some_eq h
                  exact goes_cut hL52 (decide ((p_0.length : Int) ≤ x54)) [0, 1, 2] (vcons rfl (vcons rfl (vcons rfl (vcons rfl (vcons rfl (vnil)))))) (by decide) rfl rfl
              rintro b48 hj
              obtain rfl : o49 = _ := hj
              replace h := after_go ho50
              clear ho50
              refine ops_nil ?_
              refine goes_code ?_
              refine run_cond b48 rfl (fun hc55 => ?_) (fun hc55 => ?_)
              · replace h := cond_t h hc55
                refine run_seq ?_
                refine run_region' ?_
                refine ops_y (wn rfl) rfl (y_assign rfl) ?_
                refine ops_nil ?_
                refine goes_code ?_
                refine run_ret ?_
                obtain rfl := some_eq h
                obtain rfl := after_stop ho25
                skip
                obtain rfl := hstop21 _ rfl
                skip
                obtain rfl := after_stop ho15
                refine fin_slots [2] [.bool false] [] [] Try.results8 rfl (by decide) rfl ?_
                exact ⟨rfl, rfl⟩
              · replace h := cond_f h hc55
                refine run_skip ?_
                refine goes_code ?_
                obtain ⟨o56, h, ho57⟩ := bindJ_some h
                refine run_cut ((Unit) × (Unit)) (fun σ => [(0, p_0v), (3, v6), (5, .int .i64 v_18)]) (fun σ => [ro p_0v 1 (p_0.map (eInt .i64)), row v6 1 (r4.1.map (eInt .i64))]) (fun σ => o56 = .go σ.1) (fun L59 hL58 => ?_) ?_
                · -- the ways through
                  refine run_seq ?_
                  refine run_region' ?_
                  refine ops_y (wn rfl) rfl (y_move rfl) ?_
                  refine ops_y (wn rfl) rfl (y_move rfl) ?_
                  obtain ⟨x60, hzx60, hlx60, hxx60, h⟩ := idx_some h
                  refine ops_y (wn rfl) rfl (y_indexAddrI (kd := .i64) (i := v_18) 0 Try.runUnderlying34 Try.sizeOf3 rfl rfl rfl reads_ro hzx60 (map_lt hlx60)) ?_
                  refine ops_y (wn rfl) rfl (y_load_elem (i := v_18.toNat) 0 Try.isAgg3 rfl rfl reads_ro (map_get hxx60)) ?_
                  refine ops_y (wn rfl) rfl (y_geq rfl rfl) ?_
                  refine ops_nil ?_
                  refine goes_code ?_
                  refine run_cond (decide (0 ≤ x60)) rfl (fun hc61 => ?_) (fun hc61 => ?_)
                  · replace h := cond_t h hc61
                    refine run_seq ?_
                    refine run_region' ?_
                    refine ops_y (wn rfl) rfl (y_move rfl) ?_
                    refine ops_y (wn rfl) rfl (y_move rfl) ?_
                    refine ops_y (wn rfl) rfl (y_move rfl) ?_
                    refine ops_y (wn rfl) rfl (y_indexAddrI (kd := .i64) (i := v_18) 0 Try.runUnderlying34 Try.sizeOf3 rfl rfl rfl reads_ro hzx60 (map_lt hlx60)) ?_
                    refine ops_y (wn rfl) rfl (y_load_elem (i := v_18.toNat) 0 Try.isAgg3 rfl rfl reads_ro (map_get hxx60)) ?_
                    obtain ⟨r62, hr63, h⟩ := obind_some h
                    refine ops_t (wn rfl) rfl (t_callx (vs := [p_0v, .int .i64 x60]) (cs := []) [(0, 0)] rfl Try.call27 rfl (graph_Climb_ok n p_0 x60 p_0v hr63) (showsX_view 0 rfl views_ro showsX_nil) rfl (.inl rfl)) ?_
                    rintro _ _ ⟨_, ⟨v64, rfl, rfl⟩, rfl⟩
                    refine ops_y (wn rfl) rfl (y_move rfl) ?_
                    refine ops_y (wn rfl) rfl (y_extract rfl rfl) ?_
                    refine ops_y (wn rfl) rfl (y_extract rfl rfl) ?_
                    refine ops_y (wn rfl) rfl (y_assign rfl) ?_
                    refine ops_y (wn rfl) rfl (y_assign rfl) ?_
                    refine ops_nil ?_
                    refine goes_code ?_
                    refine run_seq ?_
                    refine run_weak [(0, p_0v), (3, v6), (5, .int .i64 v_18), (6, v30), (8, v64), (9, .int .i64 r62.2)] [0, 1, 2, 3] [ro p_0v 1 (p_0.map (eInt .i64)), row v6 1 (r4.1.map (eInt .i64)), row v30 1 (r28.1.map (eInt .i64)), row v64 1 (r62.1.map (eInt .i64))] (vcons rfl (vcons rfl (vcons rfl (vcons rfl (vcons rfl (vcons rfl (vnil))))))) (by decide) rfl ?_
                    refine run_turn (Go.Abs.freeze 2 rfl) ?_
                    refine run_drawany [ro p_0v 1 (p_0.map (eInt .i64)), row v6 1 (r4.1.map (eInt .i64)), ro v30 1 (r28.1.map (eInt .i64)), row v64 1 (r62.1.map (eInt .i64))] (by kernel_rfl) ?_
                    refine any_y 0 rfl (by kernel_rfl) (by kernel_rfl) (by kernel_rfl) (ss (ss (ss (ss (sn))))) (wn rfl) rfl (y_move rfl) ?_
                    refine any_y 1 rfl (by kernel_rfl) (by kernel_rfl) (by kernel_rfl) (ss (ss (ss (ss (sn))))) (wn rfl) rfl (y_neq rfl rfl) ?_
                    refine any_y 2 rfl (by kernel_rfl) (by kernel_rfl) (by kernel_rfl) (ss (ss (ss (ss (sn))))) (wn rfl) rfl (y_move rfl) ?_
                    obtain ⟨o66, h, ho67⟩ := bindJ_some h
                    refine any_cut #[true, true, true, true, true, true, true, true, true, true, true, true, true, true, true, true, true, false, false, false, false, false, false, false] 7 Bool (fun σ => [(0, p_0v), (3, v6), (5, .int .i64 v_18), (6, v30), (8, v64), (111, .bool σ)]) (fun σ => [ro p_0v 1 (p_0.map (eInt .i64)), row v6 1 (r4.1.map (eInt .i64)), ro v30 1 (r28.1.map (eInt .i64)), row v64 1 (r62.1.map (eInt .i64))]) (fun σ => o66 = .go σ) (fun hL69 => ?_) ?_
                    · refine any_split 97 (decide (r62.2 ≠ 0)) rfl (fun hg70 => ?_) (fun hg70 => ?_)
                      · replace h := cond_t h hg70
                        refine any_no 3 rfl (by kernel_rfl) (by kernel_rfl) (by kernel_rfl) (ss (ss (ss (ss (sn))))) 2 false 97 rfl rfl rfl rfl rfl ?_
                        refine any_no 4 rfl (by kernel_rfl) (by kernel_rfl) (by kernel_rfl) (ss (ss (ss (ss (sn))))) 2 false 97 rfl rfl rfl rfl rfl ?_
                        refine any_no 5 rfl (by kernel_rfl) (by kernel_rfl) (by kernel_rfl) (ss (ss (ss (ss (sn))))) 2 false 97 rfl rfl rfl rfl rfl ?_
                        refine any_no 6 rfl (by kernel_rfl) (by kernel_rfl) (by kernel_rfl) (ss (ss (ss (ss (sn))))) 2 false 97 rfl rfl rfl rfl rfl ?_
                        refine any_no 7 rfl (by kernel_rfl) (by kernel_rfl) (by kernel_rfl) (ss (ss (ss (ss (sn))))) 2 false 97 rfl rfl rfl rfl rfl ?_
                        refine any_no 8 rfl (by kernel_rfl) (by kernel_rfl) (by kernel_rfl) (ss (ss (ss (ss (sn))))) 2 false 97 rfl rfl rfl rfl rfl ?_
                        refine any_no 9 rfl (by kernel_rfl) (by kernel_rfl) (by kernel_rfl) (ss (ss (ss (ss (sn))))) 2 false 97 rfl rfl rfl rfl rfl ?_
                        refine any_no 10 rfl (by kernel_rfl) (by kernel_rfl) (by kernel_rfl) (ss (ss (ss (ss (sn))))) 2 false 97 rfl rfl rfl rfl rfl ?_
                        refine any_no 11 rfl (by kernel_rfl) (by kernel_rfl) (by kernel_rfl) (ss (ss (ss (ss (sn))))) 2 false 97 rfl rfl rfl rfl rfl ?_
                        refine any_no 12 rfl (by kernel_rfl) (by kernel_rfl) (by kernel_rfl) (ss (ss (ss (ss (sn))))) 2 false 97 rfl rfl rfl rfl rfl ?_
                        refine any_no 13 rfl (by kernel_rfl) (by kernel_rfl) (by kernel_rfl) (ss (ss (ss (ss (sn))))) 2 false 97 rfl rfl rfl rfl rfl ?_
                        refine any_no 14 rfl (by kernel_rfl) (by kernel_rfl) (by kernel_rfl) (ss (ss (ss (ss (sn))))) 2 false 97 rfl rfl rfl rfl rfl ?_
                        refine any_no 15 rfl (by kernel_rfl) (by kernel_rfl) (by kernel_rfl) (ss (ss (ss (ss (sn))))) 2 false 97 rfl rfl rfl rfl rfl ?_
                        refine any_y 16 rfl (by kernel_rfl) (by kernel_rfl) (by kernel_rfl) (ss (ss (ss (ss (sn))))) (wn rfl) rfl (y_pick (b := true) rfl rfl) ?_
                        obtain rfl := some_eq h
                        exact any_weak [(0, p_0v), (3, v6), (5, .int .i64 v_18), (6, v30), (8, v64), (111, .bool true)] [0, 1, 2, 3] [ro p_0v 1 (p_0.map (eInt .i64)), row v6 1 (r4.1.map (eInt .i64)), ro v30 1 (r28.1.map (eInt .i64)), row v64 1 (r62.1.map (eInt .i64))] (by kernel_rfl) (vcons rfl (vcons rfl (vcons rfl (vcons rfl (vcons rfl (vcons rfl (vnil))))))) (by decide) rfl (hL69 true rfl)
                      · replace h := cond_f h hg70
                        refine any_y 3 rfl (by kernel_rfl) (by kernel_rfl) (by kernel_rfl) (ss (ss (ss (ss (sn))))) (wg 2 false 97 rfl rfl rfl rfl) rfl (y_move rfl) ?_
                        refine any_y 4 rfl (by kernel_rfl) (by kernel_rfl) (by kernel_rfl) (ss (ss (ss (ss (sn))))) (wg 2 false 97 rfl rfl rfl rfl) rfl (y_move rfl) ?_
                        obtain ⟨x71, hzx71, hlx71, hxx71, h⟩ := idx_some h
                        refine any_y 5 rfl (by kernel_rfl) (by kernel_rfl) (by kernel_rfl) (ss (ss (ss (ss (sn))))) (wg 2 false 97 rfl rfl rfl rfl) rfl (y_indexAddrI (kd := .i64) (i := v_18) 1 Try.runUnderlying34 Try.sizeOf3 rfl rfl rfl reads_row hzx71 (map_lt hlx71)) ?_
                        refine any_y 6 rfl (by kernel_rfl) (by kernel_rfl) (by kernel_rfl) (ss (ss (ss (ss (sn))))) (wg 2 false 97 rfl rfl rfl rfl) rfl (y_load_elem (i := v_18.toNat) 1 Try.isAgg3 rfl rfl reads_row (map_get hxx71)) ?_
                        refine any_y 7 rfl (by kernel_rfl) (by kernel_rfl) (by kernel_rfl) (ss (ss (ss (ss (sn))))) (wg 2 false 97 rfl rfl rfl rfl) rfl (y_move rfl) ?_
                        refine any_y 8 rfl (by kernel_rfl) (by kernel_rfl) (by kernel_rfl) (ss (ss (ss (ss (sn))))) (wg 2 false 97 rfl rfl rfl rfl) rfl (y_move rfl) ?_
                        refine any_y 9 rfl (by kernel_rfl) (by kernel_rfl) (by kernel_rfl) (ss (ss (ss (ss (sn))))) (wg 2 false 97 rfl rfl rfl rfl) rfl (y_move rfl) ?_
                        refine any_y 10 rfl (by kernel_rfl) (by kernel_rfl) (by kernel_rfl) (ss (ss (ss (ss (sn))))) (wg 2 false 97 rfl rfl rfl rfl) rfl (y_indexAddrI (kd := .i64) (i := v_18) 0 Try.runUnderlying34 Try.sizeOf3 rfl rfl rfl reads_ro hzx60 (map_lt hlx60)) ?_
                        refine any_y 11 rfl (by kernel_rfl) (by kernel_rfl) (by kernel_rfl) (ss (ss (ss (ss (sn))))) (wg 2 false 97 rfl rfl rfl rfl) rfl (y_load_elem (i := v_18.toNat) 0 Try.isAgg3 rfl rfl reads_ro (map_get hxx60)) ?_
                        obtain ⟨x72, hzx72, hlx72, hxx72, h⟩ := idx_some h
                        refine any_y 12 rfl (by kernel_rfl) (by kernel_rfl) (by kernel_rfl) (ss (ss (ss (ss (sn))))) (wg 2 false 97 rfl rfl rfl rfl) rfl (y_indexAddrI (kd := .i64) (i := x60) 1 Try.runUnderlying34 Try.sizeOf3 rfl rfl rfl reads_row hzx72 (map_lt hlx72)) ?_
                        refine any_y 13 rfl (by kernel_rfl) (by kernel_rfl) (by kernel_rfl) (ss (ss (ss (ss (sn))))) (wg 2 false 97 rfl rfl rfl rfl) rfl (y_load_elem (i := x60.toNat) 1 Try.isAgg3 rfl rfl reads_row (map_get hxx72)) ?_
                        refine any_y 14 rfl (by kernel_rfl) (by kernel_rfl) (by kernel_rfl) (ss (ss (ss (ss (sn))))) (wg 2 false 97 rfl rfl rfl rfl) rfl (y_add rfl rfl) ?_
                        refine any_y 15 rfl (by kernel_rfl) (by kernel_rfl) (by kernel_rfl) (ss (ss (ss (ss (sn))))) (wg 2 false 97 rfl rfl rfl rfl) rfl (y_neq rfl rfl) ?_
                        refine any_y 16 rfl (by kernel_rfl) (by kernel_rfl) (by kernel_rfl) (ss (ss (ss (ss (sn))))) (wn rfl) rfl (y_pick (b := false) rfl rfl) ?_
                        obtain rfl := some_eq h
                        exact any_weak [(0, p_0v), (3, v6), (5, .int .i64 v_18), (6, v30), (8, v64), (111, .bool (decide (x71 ≠ (IntKind.i64.wrap (x72 + 1)))))] [0, 1, 2, 3] [ro p_0v 1 (p_0.map (eInt .i64)), row v6 1 (r4.1.map (eInt .i64)), ro v30 1 (r28.1.map (eInt .i64)), row v64 1 (r62.1.map (eInt .i64))] (by kernel_rfl) (vcons rfl (vcons rfl (vcons rfl (vcons rfl (vcons rfl (vcons rfl (vnil))))))) (by decide) rfl (hL69 (decide (x71 ≠ (IntKind.i64.wrap (x72 + 1)))) rfl)
                    rintro b65 hj
                    obtain rfl : o66 = _ := hj
                    replace h := after_go ho67
                    clear ho67
                    refine any_y 17 rfl (by kernel_rfl) (by kernel_rfl) (by kernel_rfl) (ss (ss (ss (ss (sn))))) (wn rfl) rfl (y_move rfl) ?_
                    obtain ⟨o74, h, ho75⟩ := bindJ_some h
                    refine any_split 112 b65 rfl (fun hg76 => ?_) (fun hg76 => ?_)
                    · replace h := cond_t h hg76
                      refine any_no 18 rfl (by kernel_rfl) (by kernel_rfl) (by kernel_rfl) (ss (ss (ss (ss (sn))))) 17 false 112 rfl rfl rfl rfl rfl ?_
                      refine any_no 19 rfl (by kernel_rfl) (by kernel_rfl) (by kernel_rfl) (ss (ss (ss (ss (sn))))) 17 false 112 rfl rfl rfl rfl rfl ?_
                      refine any_no 20 rfl (by kernel_rfl) (by kernel_rfl) (by kernel_rfl) (ss (ss (ss (ss (sn))))) 17 false 112 rfl rfl rfl rfl rfl ?_
                      refine any_no 21 rfl (by kernel_rfl) (by kernel_rfl) (by kernel_rfl) (ss (ss (ss (ss (sn))))) 17 false 112 rfl rfl rfl rfl rfl ?_
                      refine any_no 22 rfl (by kernel_rfl) (by kernel_rfl) (by kernel_rfl) (ss (ss (ss (ss (sn))))) 17 false 112 rfl rfl rfl rfl rfl ?_
                      refine any_y 23 rfl (by kernel_rfl) (by kernel_rfl) (by kernel_rfl) (ss (ss (ss (ss (sn))))) (wn rfl) rfl (y_pick (b := true) rfl rfl) ?_
                      obtain rfl := some_eq h
                      replace h := after_go ho75
                      refine any_nil (by kernel_rfl) ?_
                      refine goes_code ?_
                      refine run_cond_t rfl ?_
                      refine run_seq ?_
                      refine run_weak [] [] [] vnil (by decide) rfl ?_
                      refine run_region' ?_
                      refine ops_y (wn rfl) rfl (y_assign rfl) ?_
                      refine ops_nil ?_
                      refine goes_code ?_
                      refine run_ret ?_
                      obtain rfl := some_eq h
                      obtain rfl := after_stop ho57
                      skip
                      obtain rfl := after_stop ho25
                      skip
                      obtain rfl := hstop21 _ rfl
                      skip
                      obtain rfl := after_stop ho15
                      refine fin_slots [2] [.bool false] [] [] Try.results8 rfl (by decide) rfl ?_
                      exact ⟨rfl, rfl⟩
                    · replace h := cond_f h hg76
                      refine any_y 18 rfl (by kernel_rfl) (by kernel_rfl) (by kernel_rfl) (ss (ss (ss (ss (sn))))) (wg 17 false 112 rfl rfl rfl rfl) rfl (y_move rfl) ?_
                      obtain ⟨hb77, h⟩ := need_some h
                      refine any_y 19 rfl (by kernel_rfl) (by kernel_rfl) (by kernel_rfl) (ss (ss (ss (ss (sn))))) (wg 17 false 112 rfl rfl rfl rfl) rfl (y_slice (l := 1) (r := (r28.1.length : Int)) 2 Try.runUnderlying34 Try.sizeOf3 rfl rfl reads_ro (bi1 (kd := .i64) rfl) (by rw [← List.length_map (f := (eInt .i64))]; exact bi0) hb77.1 hb77.2.1 (map_len_le hb77.2.2)) ?_
                      refine any_turn (turn_sub (l := (1 : Int).toNat) (r := ((r28.1.length : Int)).toNat) 2 rfl (by omega) (map_toNat_le hb77.2.2)) ?_
                      refine any_turn (retell 4 (g := ro (subS v30 1 ((1 : Int).toNat) (((r28.1.length : Int)).toNat)) 1 ((r28.1.drop ((1 : Int).toNat)).map (eInt .i64))) rfl (congrArg (ro _ _) (sub_lo _ _ _))) ?_
                      refine any_grow [ro p_0v 1 (p_0.map (eInt .i64)), row v6 1 (r4.1.map (eInt .i64)), ro v30 1 (r28.1.map (eInt .i64)), row v64 1 (r62.1.map (eInt .i64)), ro (subS v30 1 ((1 : Int).toNat) (((r28.1.length : Int)).toNat)) 1 ((r28.1.drop ((1 : Int).toNat)).map (eInt .i64))] (ss (ss (ss (ss (sn))))) ?_
                      refine any_y 20 rfl (by kernel_rfl) (by kernel_rfl) (by kernel_rfl) (ss (ss (ss (ss (ss (sn)))))) (wg 17 false 112 rfl rfl rfl rfl) rfl (y_move rfl) ?_
                      refine any_all [21] (by kernel_rfl) rfl (anyo_cons ?_ anyo_nil)
                      obtain ⟨r78, hr79, h⟩ := obind_some h
                      refine any_t rfl (wg 17 false 112 rfl rfl rfl rfl) rfl (t_callx (vs := [(subS v30 1 ((1 : Int).toNat) (((r28.1.length : Int)).toNat)), v64]) (cs := []) [(4, 0), (3, 1)] rfl Try.call20 rfl (ref09_Same_ok n (r28.1.drop ((1 : Int).toNat)) r62.1 (subS v30 1 ((1 : Int).toNat) (((r28.1.length : Int)).toNat)) v64 hr79) (showsX_view 4 rfl views_ro (showsX_look 3 rfl views_row showsX_nil)) rfl (.inr (by rintro _ _ ⟨rfl, rfl⟩ g hg; first | (cases hg; done) | (simp only [List.mem_cons, List.not_mem_nil, or_false] at hg; first | (subst hg; first | exact strict_row | exact strict_box) | (rcases hg with rfl | rfl <;> first | exact strict_row | exact strict_box) | (rcases hg with rfl | rfl | rfl <;> first | exact strict_row | exact strict_box))))) ?_
                      rintro _ _ ⟨_, ⟨rfl, rfl⟩, rfl⟩
                      refine ⟨(ss (ss (ss (ss (ss (sn)))))), ?_⟩
                      refine any_y 22 rfl (by kernel_rfl) (by kernel_rfl) (by kernel_rfl) (ss (ss (ss (ss (ss (sn)))))) (wg 17 false 112 rfl rfl rfl rfl) rfl (y_not rfl) ?_
                      refine any_y 23 rfl (by kernel_rfl) (by kernel_rfl) (by kernel_rfl) (ss (ss (ss (ss (ss (sn)))))) (wn rfl) rfl (y_pick (b := false) rfl rfl) ?_
                      obtain rfl := some_eq h
                      replace h := after_go ho75
                      refine any_nil (by kernel_rfl) ?_
                      refine goes_code ?_
                      refine run_cond (!r78) rfl (fun hc80 => ?_) (fun hc80 => ?_)
                      · replace h := cond_t h hc80
                        refine run_seq ?_
                        refine run_weak [] [] [] vnil (by decide) rfl ?_
                        refine run_region' ?_
                        refine ops_y (wn rfl) rfl (y_assign rfl) ?_
                        refine ops_nil ?_
                        refine goes_code ?_
                        refine run_ret ?_
                        obtain rfl := some_eq h
                        obtain rfl := after_stop ho57
                        skip
                        obtain rfl := after_stop ho25
                        skip
                        obtain rfl := hstop21 _ rfl
                        skip
                        obtain rfl := after_stop ho15
                        refine fin_slots [2] [.bool false] [] [] Try.results8 rfl (by decide) rfl ?_
                        exact ⟨rfl, rfl⟩
                      · replace h := cond_f h hc80
                        refine run_skip ?_
                        obtain rfl := some_eq h
                        exact goes_cut hL58 ((), ()) [0, 1] (vcons rfl (vcons rfl (vcons rfl (vnil)))) (by decide) rfl rfl
                  · replace h := cond_f h hc61
                    refine run_seq ?_
                    refine run_region' ?_
                    refine ops_y (wn rfl) rfl (y_move rfl) ?_
                    refine ops_y (wn rfl) rfl (y_move rfl) ?_
                    obtain ⟨x81, hzx81, hlx81, hxx81, h⟩ := idx_some h
                    refine ops_y (wn rfl) rfl (y_indexAddrI (kd := .i64) (i := v_18) 1 Try.runUnderlying34 Try.sizeOf3 rfl rfl rfl reads_row hzx81 (map_lt hlx81)) ?_
                    refine ops_y (wn rfl) rfl (y_load_elem (i := v_18.toNat) 1 Try.isAgg3 rfl rfl reads_row (map_get hxx81)) ?_
                    refine ops_y (wn rfl) rfl (y_neq rfl rfl) ?_
                    refine ops_nil ?_
                    refine goes_code ?_
                    refine run_cond (decide (x81 ≠ 0)) rfl (fun hc82 => ?_) (fun hc82 => ?_)
                    · replace h := cond_t h hc82
                      refine run_seq ?_
                      refine run_weak [] [] [] vnil (by decide) rfl ?_
                      refine run_region' ?_
                      refine ops_y (wn rfl) rfl (y_assign rfl) ?_
                      refine ops_nil ?_
                      refine goes_code ?_
                      refine run_ret ?_
                      obtain rfl := some_eq h
                      obtain rfl := after_stop ho57
                      skip
                      obtain rfl := after_stop ho25
                      skip
                      obtain rfl := hstop21 _ rfl
                      skip
                      obtain rfl := after_stop ho15
                      refine fin_slots [2] [.bool false] [] [] Try.results8 rfl (by decide) rfl ?_
                      exact ⟨rfl, rfl⟩
                    · replace h := cond_f h hc82
                      refine run_skip ?_
                      obtain rfl := some_eq h
                      exact goes_cut hL58 ((), ()) [0, 1] (vcons rfl (vcons rfl (vcons rfl (vnil)))) (by decide) rfl rfl
                rintro ⟨_, _⟩ hj
                obtain rfl : o56 = _ := hj
                replace h := after_go ho57
                clear ho57
                change Run _ _ _ (VF.of [(0, p_0v), (3, v6), (5, .int .i64 v_18)]) [ro p_0v 1 (p_0.map (eInt .i64)), row v6 1 (r4.1.map (eInt .i64))]
                refine run_seq ?_
                refine run_region' ?_
                refine ops_y (wn rfl) rfl (y_move rfl) ?_
                refine ops_y (wn rfl) rfl (y_move rfl) ?_
                obtain ⟨r83, hr84, h⟩ := obind_some h
                refine ops_t (wn rfl) rfl (t_callx (vs := [p_0v, .int .i64 v_18]) (cs := []) [(0, 0)] rfl Try.call28 rfl (graph_Below_ok n p_0 v_18 p_0v hr84) (showsX_view 0 rfl views_ro showsX_nil) rfl (.inl rfl)) ?_
                rintro _ _ ⟨_, ⟨v85, rfl, rfl⟩, rfl⟩
                refine ops_y (wn rfl) rfl (y_move rfl) ?_
                refine ops_y (wn rfl) rfl (y_extract rfl rfl) ?_
                refine ops_y (wn rfl) rfl (y_extract rfl rfl) ?_
                refine ops_y (wn rfl) rfl (y_assign rfl) ?_
                refine ops_y (wn rfl) rfl (y_assign rfl) ?_
                refine ops_nil ?_
                refine goes_code ?_
                refine run_seq ?_
                refine run_seq ?_
                refine run_weak [(0, p_0v), (3, v6), (5, .int .i64 v_18), (10, v85), (11, .int .i64 r83.2)] [0, 1, 2] [ro p_0v 1 (p_0.map (eInt .i64)), row v6 1 (r4.1.map (eInt .i64)), row v85 1 (r83.1.map (eInt .i64))] (vcons rfl (vcons rfl (vcons rfl (vcons rfl (vcons rfl (vnil)))))) (by decide) rfl ?_
                refine run_region' ?_
                refine ops_y (wn rfl) rfl (y_move rfl) ?_
                refine ops_y (wn rfl) rfl (y_neq rfl rfl) ?_
                refine ops_nil ?_
                refine goes_code ?_
                refine run_cond (decide (r83.2 ≠ 0)) rfl (fun hc86 => ?_) (fun hc86 => ?_)
                · replace h := cond_t h hc86
                  refine run_seq ?_
                  refine run_region' ?_
                  refine ops_y (wn rfl) rfl (y_assign rfl) ?_
                  refine ops_nil ?_
                  refine goes_code ?_
                  refine run_ret ?_
                  obtain rfl := some_eq h
                  obtain rfl := after_stop ho25
                  skip
                  obtain rfl := hstop21 _ rfl
                  skip
                  obtain rfl := after_stop ho15
                  refine fin_slots [2] [.bool false] [] [] Try.results8 rfl (by decide) rfl ?_
                  exact ⟨rfl, rfl⟩
                · replace h := cond_f h hc86
                  refine run_skip ?_
                  refine goes_code ?_
                  refine run_seq ?_
                  refine run_region' ?_
                  refine ops_y (wn rfl) rfl (y_assign rfl) ?_
                  refine ops_nil ?_
                  refine goes_code ?_
                  refine run_block ?_
                  refine run_iter (step := law09_GraphTreesNest_L2 n p_0 v_18 r83) (n := n) (s0 := 0) h (G := Unit) () (fun σ γ => [(0, p_0v), (3, v6), (5, .int .i64 v_18), (10, v85), (12, .int .i64 σ)]) (fun σ γ => [ro p_0v 1 (p_0.map (eInt .i64)), row v6 1 (r4.1.map (eInt .i64)), row v85 1 (r83.1.map (eInt .i64))]) [0, 1, 2] (vcons rfl (vcons rfl (vcons rfl (vcons rfl (vcons rfl (vnil)))))) (by decide) rfl ?_
                  rintro w_87 _ o88 h L91 hgo89 hstop90
                  change Run _ _ _ (VF.of [(0, p_0v), (3, v6), (5, .int .i64 v_18), (10, v85), (12, .int .i64 w_87)]) [ro p_0v 1 (p_0.map (eInt .i64)), row v6 1 (r4.1.map (eInt .i64)), row v85 1 (r83.1.map (eInt .i64))]
                  refine run_seq ?_
                  refine run_seq ?_
                  refine run_region' ?_
                  refine ops_y (wn rfl) rfl (y_move rfl) ?_
                  refine ops_y (wn rfl) rfl (y_move rfl) ?_
                  refine ops_y (wn rfl) rfl ((y_len 0 rfl Try.runUnderlying34 rfl rfl reads_ro).to (v_len (eInt .i64) _)) ?_
                  refine ops_y (wn rfl) rfl (y_lss rfl rfl) ?_
                  refine ops_nil ?_
                  refine goes_code ?_
                  refine run_cond (decide (w_87 < (p_0.length : Int))) rfl (fun hc92 => ?_) (fun hc92 => ?_)
                  · replace h := cond_t h hc92
                    refine run_skip ?_
                    refine goes_code ?_
                    refine run_seq ?_
                    refine run_block ?_
                    refine run_seq ?_
                    refine run_region' ?_
                    refine ops_y (wn rfl) rfl (y_move rfl) ?_
                    refine ops_y (wn rfl) rfl (y_move rfl) ?_
                    obtain ⟨r93, hr94, h⟩ := obind_some h
                    refine ops_t (wn rfl) rfl (t_callx (vs := [p_0v, .int .i64 w_87]) (cs := []) [(0, 0)] rfl Try.call27 rfl (graph_Climb_ok n p_0 w_87 p_0v hr94) (showsX_view 0 rfl views_ro showsX_nil) rfl (.inl rfl)) ?_
                    rintro _ _ ⟨_, ⟨v95, rfl, rfl⟩, rfl⟩
                    refine ops_y (wn rfl) rfl (y_move rfl) ?_
                    refine ops_y (wn rfl) rfl (y_extract rfl rfl) ?_
                    refine ops_y (wn rfl) rfl (y_extract rfl rfl) ?_
                    refine ops_y (wn rfl) rfl (y_assign rfl) ?_
                    refine ops_y (wn rfl) rfl (y_assign rfl) ?_
                    refine ops_nil ?_
                    refine goes_code ?_
                    refine run_seq ?_
                    refine run_weak [(0, p_0v), (3, v6), (5, .int .i64 v_18), (10, v85), (12, .int .i64 w_87), (13, v95), (14, .int .i64 r93.2)] [0, 1, 2, 3] [ro p_0v 1 (p_0.map (eInt .i64)), row v6 1 (r4.1.map (eInt .i64)), row v85 1 (r83.1.map (eInt .i64)), row v95 1 (r93.1.map (eInt .i64))] (vcons rfl (vcons rfl (vcons rfl (vcons rfl (vcons rfl (vcons rfl (vcons rfl (vnil)))))))) (by decide) rfl ?_
                    refine run_region' ?_
                    refine ops_y (wn rfl) rfl (y_move rfl) ?_
                    refine ops_y (wn rfl) rfl (y_neq rfl rfl) ?_
                    refine ops_y (wn rfl) rfl (y_move rfl) ?_
                    obtain ⟨o97, h, ho98⟩ := bindJ_some h
                    refine ops_cut 8 (Bool) (fun σ => [(0, p_0v), (3, v6), (5, .int .i64 v_18), (10, v85), (12, .int .i64 w_87), (154, .bool σ)]) (fun σ => [ro p_0v 1 (p_0.map (eInt .i64)), row v6 1 (r4.1.map (eInt .i64)), row v85 1 (r83.1.map (eInt .i64))]) (fun σ => o97 = .go σ) (fun L99 hL100 => ?_) ?_
                    · refine ops_split 146 (decide (r93.2 ≠ 0)) rfl (fun hg101 => ?_) (fun hg101 => ?_)
                      · replace h := cond_t h hg101
                        refine ops_no 2 false 146 rfl rfl rfl rfl rfl ?_
                        refine ops_no 2 false 146 rfl rfl rfl rfl rfl ?_
                        refine ops_no 2 false 146 rfl rfl rfl rfl rfl ?_
                        refine ops_no 2 false 146 rfl rfl rfl rfl rfl ?_
                        refine ops_no 2 false 146 rfl rfl rfl rfl rfl ?_
                        refine ops_no 2 false 146 rfl rfl rfl rfl rfl ?_
                        refine ops_no 2 false 146 rfl rfl rfl rfl rfl ?_
                        refine ops_y (wn rfl) rfl (y_pick (b := true) rfl rfl) ?_
                        refine ops_nil ?_
                        obtain rfl := some_eq h
                        exact goes_cut hL100 true [0, 1, 2] (vcons rfl (vcons rfl (vcons rfl (vcons rfl (vcons rfl (vcons rfl (vnil))))))) (by decide) rfl rfl
                      · replace h := cond_f h hg101
                        refine ops_y (wg 2 false 146 rfl rfl rfl rfl) rfl (y_move rfl) ?_
                        refine ops_y (wg 2 false 146 rfl rfl rfl rfl) rfl (y_move rfl) ?_
                        obtain ⟨r102, hr103, h⟩ := obind_some h
                        refine ops_t (wg 2 false 146 rfl rfl rfl rfl) rfl (t_callx (vs := [v85, .int .i64 w_87]) (cs := []) [(2, 1)] rfl Try.call32 rfl (ref09_Has_ok n r83.1 w_87 v85 hr103) (showsX_look 2 rfl views_row showsX_nil) rfl (.inr (by rintro _ _ ⟨rfl, rfl⟩ g hg; first | (cases hg; done) | (simp only [List.mem_cons, List.not_mem_nil, or_false] at hg; first | (subst hg; first | exact strict_row | exact strict_box) | (rcases hg with rfl | rfl <;> first | exact strict_row | exact strict_box) | (rcases hg with rfl | rfl | rfl <;> first | exact strict_row | exact strict_box))))) ?_
                        rintro _ _ ⟨_, ⟨rfl, rfl⟩, rfl⟩
                        refine ops_y (wg 2 false 146 rfl rfl rfl rfl) rfl (y_move rfl) ?_
                        refine ops_y (wg 2 false 146 rfl rfl rfl rfl) rfl (y_move rfl) ?_
                        obtain ⟨r104, hr105, h⟩ := obind_some h
                        refine ops_t (wg 2 false 146 rfl rfl rfl rfl) rfl (t_callx (vs := [v95, .int .i64 v_18]) (cs := []) [(3, 1)] rfl Try.call32 rfl (ref09_Has_ok n r93.1 v_18 v95 hr105) (showsX_look 3 rfl views_row showsX_nil) rfl (.inr (by rintro _ _ ⟨rfl, rfl⟩ g hg; first | (cases hg; done) | (simp only [List.mem_cons, List.not_mem_nil, or_false] at hg; first | (subst hg; first | exact strict_row | exact strict_box) | (rcases hg with rfl | rfl <;> first | exact strict_row | exact strict_box) | (rcases hg with rfl | rfl | rfl <;> first | exact strict_row | exact strict_box))))) ?_
                        rintro _ _ ⟨_, ⟨rfl, rfl⟩, rfl⟩
                        refine ops_y (wg 2 false 146 rfl rfl rfl rfl) rfl (y_bneq Try.runUnderlying4 rfl rfl) ?_
                        refine ops_y (wn rfl) rfl (y_pick (b := false) rfl rfl) ?_
                        refine ops_nil ?_
                        obtain rfl := some_eq h
                        exact goes_cut hL100 (!(r102 == r104)) [0, 1, 2] (vcons rfl (vcons rfl (vcons rfl (vcons rfl (vcons rfl (vcons rfl (vnil))))))) (by decide) rfl rfl
                    rintro b96 hj
                    obtain rfl : o97 = _ := hj
                    replace h := after_go ho98
                    clear ho98
                    refine ops_nil ?_
                    refine goes_code ?_
                    refine run_cond b96 rfl (fun hc106 => ?_) (fun hc106 => ?_)
                    · replace h := cond_t h hc106
                      refine run_seq ?_
                      refine run_region' ?_
                      refine ops_y (wn rfl) rfl (y_assign rfl) ?_
                      refine ops_nil ?_
                      refine goes_code ?_
                      refine run_ret ?_
                      obtain rfl := some_eq h
                      obtain rfl := hstop90 _ rfl
                      skip
                      obtain rfl := after_stop ho25
                      skip
                      obtain rfl := hstop21 _ rfl
                      skip
                      obtain rfl := after_stop ho15
                      refine fin_slots [2] [.bool false] [] [] Try.results8 rfl (by decide) rfl ?_
                      exact ⟨rfl, rfl⟩
                    · replace h := cond_f h hc106
                      refine run_skip ?_
                      refine goes_blk ?_
                      refine goes_code ?_
                      refine run_region' ?_
                      refine ops_y (wn rfl) rfl (y_move rfl) ?_
                      refine ops_y (wn rfl) rfl (y_add rfl rfl) ?_
                      refine ops_y (wn rfl) rfl (y_assign rfl) ?_
                      refine ops_nil ?_
                      obtain rfl := some_eq h
                      exact goes_iter hgo89 (IntKind.i64.wrap (w_87 + 1)) () [0, 1, 2] rfl (vcons rfl (vcons rfl (vcons rfl (vcons rfl (vcons rfl (vnil)))))) (by decide) rfl
                  · replace h := cond_f h hc92
                    refine run_exit _ rfl ?_
                    refine goes_blk ?_
                    obtain rfl := some_eq h
                    obtain rfl := hstop90 _ rfl
                    exact goes_cut hL26 ((), ()) [0, 1] (vcons rfl (vcons rfl (vcons rfl (vnil)))) (by decide) rfl rfl
            rintro ⟨_, _⟩ hj
            obtain rfl : o24 = _ := hj
            replace h := after_go ho25
            clear ho25
            change Run _ _ _ (VF.of [(0, p_0v), (3, v6), (5, .int .i64 v_18)]) [ro p_0v 1 (p_0.map (eInt .i64)), row v6 1 (r4.1.map (eInt .i64))]
            refine run_region' ?_
            refine ops_y (wn rfl) rfl (y_move rfl) ?_
            refine ops_y (wn rfl) rfl (y_add rfl rfl) ?_
            refine ops_y (wn rfl) rfl (y_assign rfl) ?_
            refine ops_nil ?_
            obtain rfl := some_eq h
            exact goes_iter hgo20 (IntKind.i64.wrap (v_18 + 1)) () [0, 1] rfl (vcons rfl (vcons rfl (vcons rfl (vnil)))) (by decide) rfl
          · replace h := cond_f h hc23
            refine run_exit _ rfl ?_
            obtain rfl := some_eq h
            obtain rfl := hstop21 _ rfl
            exact goes_cut hL16 ((), ()) [] vnil (by decide) rfl rfl
        rintro ⟨_, _⟩ hj
        obtain rfl : o14 = _ := hj
        replace h := after_go ho15
        clear ho15
        change Run _ _ _ (VF.of []) []
        refine run_seq ?_
        refine run_region' ?_
        obtain ⟨r107, hr108, h⟩ := obind_some h
        refine ops_t (wn rfl) rfl (t_callx (vs := []) (cs := []) [] rfl Try.call10 rfl (law09_sanity_ok n   hr108) showsX_nil rfl (.inl rfl)) ?_
        rintro _ _ ⟨_, ⟨rfl, rfl⟩, rfl⟩
        refine ops_y (wn rfl) rfl (y_assign rfl) ?_
        refine ops_nil ?_
        refine goes_code ?_
        refine run_ret ?_
        obtain rfl := some_eq h
        refine fin_slots [2] [.bool r107] [] [] Try.results8 rfl (by decide) rfl ?_
        exact ⟨rfl, rfl⟩

end Go.Proofs.Ytgelifcckhemiaa
