/-
  Functions of the program, lifted: part 4.
-/
import Derived.Test.YtgelifcckhemiaaFc
namespace Go.Proofs.Ytgelifcckhemiaa
open Go.Abs
set_option linter.unusedVariables false
set_option linter.unusedSimpArgs false
set_option maxRecDepth 20000
set_option maxHeartbeats 4000000

def graph_Depths_L2 (parents_0 : (List Int)) : (Int × Int) → Option (Lp (Int × Int) (Lp (Int) (Lp ((List Int) × Int) (Lp ((List Int)) ((List Int) × Int))))) :=
 fun (k_21, w_22) =>
  cond (decide (w_22 ≠ (-1)))
   (bindJ (S := Bool)
    (cond (decide ((parents_0.length : Int) ≤ (IntKind.i64.wrap (k_21 + 1))))
     (some (.go true))
     (idx parents_0 w_22 fun x34 =>
     some (.go (decide (x34 < (-1))))))
   (fun b28 =>
    bindJ (S := Bool)
     (cond b28
      (some (.go true))
      (idx parents_0 w_22 fun x41 =>
      some (.go (decide ((parents_0.length : Int) ≤ x41)))))
    (fun b35 =>
     cond b35
      (some (.stop (.stop (.stop (.stop (([] : List Int), 3))))))
      (idx parents_0 w_22 fun x43 =>
      some (.go ((IntKind.i64.wrap (k_21 + 1)), x43))))))
   (some (.stop (.go k_21)))
def graph_Depths_L1 (n : Nat) (parents_0 : (List Int)) : ((List Int) × Int) → Option (Lp ((List Int) × Int) (Lp ((List Int)) ((List Int) × Int))) :=
 fun (out_8, s_9) =>
  cond (decide (s_9 < (parents_0.length : Int)))
   (bindJ (S := Int)
    (iter (graph_Depths_L2 parents_0) n ((-1), s_9))
   (fun k_16 =>
    need (out_8.length + ([k_16] : List Int).length ≤ 4294967296) (
    some (.go ((out_8 ++ ([k_16] : List Int)), (IntKind.i64.wrap (s_9 + 1)))))))
   (some (.stop (.go out_8)))
def graph_Depths (n : Nat) (parents_0 : (List Int)) : Option ((List Int) × Int) :=
 cond (decide (256 < (parents_0.length : Int)))
  (some (([] : List Int), 3))
  (bindJ (S := (List Int))
   (iter (graph_Depths_L1 n parents_0) n (([] : List Int), 0))
  (fun out_2 =>
   some (out_2, 0)))
theorem graph_Depths_ok (n : Nat) (parents_0 : (List Int)) (parents_0v : Value) {r : (List Int) × Int} (h : graph_Depths n parents_0 = some r) :
  Meets Try.prog 26 [parents_0v] [ro parents_0v 1 (parents_0.map (eInt .i64))] (fun v G => ∃ v0, v = .tuple #[v0, .int .i64 r.2] ∧ G = [row v0 1 (r.1.map (eInt .i64))]) := by
 refine fn_of_run Try.func26 rfl Try.ntmps26 rfl (fun w0 o0 => ?_)
 refine run_seq ?_
 refine run_region' ?_
 refine oy rfl rfl (y_assign rfl) ?_
 refine oy rfl rfl (y_assign rfl) ?_
 refine ops_nil ?_
 refine goes_code ?_
 refine run_seq ?_
 refine run_seq ?_
 refine run_region' ?_
 refine oy rfl rfl (y_move rfl) ?_
 refine oy rfl rfl ((y_len 0 rfl Try.runUnderlying34 rfl rfl reads_ro).to (v_len (eInt .i64) _)) ?_
 refine oy rfl rfl (y_gtr rfl rfl) ?_
 refine ops_nil ?_
 refine goes_code ?_
 refine run_cond (decide (256 < (parents_0.length : Int))) rfl (fun hc1 => ?_) (fun hc1 => ?_)
 ·replace h := cond_t h hc1
  refine run_seq ?_
  refine run_region' ?_
  refine oy rfl rfl (y_assign rfl) ?_
  refine oy rfl rfl (y_assign rfl) ?_
  refine ops_nil ?_
  refine goes_code ?_
  refine run_ret ?_
  refine fin_turn (nilrow 1) ?_
  refine fin_turn (retell 1 (g := row (.slice none 0 0) 1 (([] : List Int).map (eInt .i64))) rfl rfl) ?_
  obtain rfl := some_eq h
  refine fin_slots [2, 3] [(.slice none 0 0), .int .i64 3] [1] [row (.slice none 0 0) 1 (([] : List Int).map (eInt .i64))] Try.results26 rfl (by decide) rfl ?_
  exact ⟨_, rfl, rfl⟩
 ·replace h := cond_f h hc1
  refine run_skip ?_
  refine goes_code ?_
  refine run_seq ?_
  refine run_region' ?_
  refine oy rfl rfl (y_assign rfl) ?_
  refine ops_nil ?_
  refine goes_code ?_
  obtain ⟨o4, h, ho5⟩ := bindJ_some h
  refine run_cut (((List Int)) × (Value)) (fun σ => [(4, σ.2)]) (fun σ => [row σ.2 1 (σ.1.map (eInt .i64))]) (fun σ => o4 = .go σ.1) (fun L7 hL6 => ?_) ?_
  ·
   refine run_seq ?_
   refine run_region' ?_
   refine oy rfl rfl (y_move rfl) ?_
   refine oy rfl rfl ((y_len 0 rfl Try.runUnderlying34 rfl rfl reads_ro).to (v_len (eInt .i64) _)) ?_
   refine oy rfl rfl (y_move rfl) ?_
   refine ops_nil ?_
   refine goes_code ?_
   refine run_block ?_
   refine run_turn (nilrow 1) ?_
   refine run_turn (retell 1 (g := row (.slice none 0 0) 1 (([] : List Int).map (eInt .i64))) rfl rfl) ?_
   refine run_iter (step := graph_Depths_L1 n parents_0) (n := n) (s0 := (([] : List Int), 0)) h (G := Value) (.slice none 0 0) (fun σ γ => [(0, parents_0v), (4, γ), (12, .int .i64 (parents_0.length : Int)), (13, .int .i64 σ.2)]) (fun σ γ => [ro parents_0v 1 (parents_0.map (eInt .i64)), row γ 1 (σ.1.map (eInt .i64))]) [0, 1] (qv4 rfl rfl rfl rfl) (by decide) rfl ?_
   rintro ⟨out_8, s_9⟩ v10 o11 h L14 hgo12 hstop13
   change Run _ _ _ (VF.of [(0, parents_0v), (4, v10), (12, .int .i64 (parents_0.length : Int)), (13, .int .i64 s_9)]) [ro parents_0v 1 (parents_0.map (eInt .i64)), row v10 1 (out_8.map (eInt .i64))]
   refine run_seq ?_
   refine run_region' ?_
   refine oy rfl rfl (y_lss rfl rfl) ?_
   refine ops_nil ?_
   refine goes_code ?_
   refine run_seq ?_
   refine run_cond (decide (s_9 < (parents_0.length : Int))) rfl (fun hc15 => ?_) (fun hc15 => ?_)
   ·replace h := cond_t h hc15
    refine run_skip ?_
    refine goes_code ?_
    refine run_seq ?_
    refine run_block ?_
    refine run_seq ?_
    refine run_region' ?_
    refine oy rfl rfl (y_move rfl) ?_
    refine oy rfl rfl (y_assign rfl) ?_
    refine ops_nil ?_
    refine goes_code ?_
    refine run_seq ?_
    refine run_region' ?_
    refine oy rfl rfl (y_assign rfl) ?_
    refine ops_nil ?_
    refine goes_code ?_
    obtain ⟨o17, h, ho18⟩ := bindJ_some h
    refine run_cut ((Int) × (Unit)) (fun σ => [(0, parents_0v), (4, v10), (6, .int .i64 σ.1), (12, .int .i64 (parents_0.length : Int)), (13, .int .i64 s_9)]) (fun σ => [ro parents_0v 1 (parents_0.map (eInt .i64)), row v10 1 (out_8.map (eInt .i64))]) (fun σ => o17 = .go σ.1) (fun L20 hL19 => ?_) ?_
    ·
     refine run_seq ?_
     refine run_region' ?_
     refine oy rfl rfl (y_move rfl) ?_
     refine oy rfl rfl (y_assign rfl) ?_
     refine ops_nil ?_
     refine goes_code ?_
     refine run_block ?_
     refine run_iter (step := graph_Depths_L2 parents_0) (n := n) (s0 := ((-1), s_9)) h (G := Unit) () (fun σ γ => [(0, parents_0v), (4, v10), (6, .int .i64 σ.1), (7, .int .i64 σ.2), (12, .int .i64 (parents_0.length : Int)), (13, .int .i64 s_9)]) (fun σ γ => [ro parents_0v 1 (parents_0.map (eInt .i64)), row v10 1 (out_8.map (eInt .i64))]) [0, 1] (qv6 rfl rfl rfl rfl rfl rfl) (by decide) rfl ?_
     rintro ⟨k_21, w_22⟩ _ o23 h L26 hgo24 hstop25
     change Run _ _ _ (VF.of [(0, parents_0v), (4, v10), (6, .int .i64 k_21), (7, .int .i64 w_22), (12, .int .i64 (parents_0.length : Int)), (13, .int .i64 s_9)]) [ro parents_0v 1 (parents_0.map (eInt .i64)), row v10 1 (out_8.map (eInt .i64))]
     refine run_seq ?_
     refine run_seq ?_
     refine run_region' ?_
     refine oy rfl rfl (y_move rfl) ?_
     refine oy rfl rfl (y_neq rfl rfl) ?_
     refine ops_nil ?_
     refine goes_code ?_
     refine run_cond (decide (w_22 ≠ (-1))) rfl (fun hc27 => ?_) (fun hc27 => ?_)
     ·replace h := cond_t h hc27
      refine run_skip ?_
      refine goes_code ?_
      refine run_seq ?_
      refine run_block ?_
      refine run_seq ?_
      refine run_region' ?_
      refine oy rfl rfl (y_move rfl) ?_
      refine oy rfl rfl (y_add rfl rfl) ?_
      refine oy rfl rfl (y_assign rfl) ?_
      refine ops_nil ?_
      refine goes_code ?_
      refine run_seq ?_
      refine run_region' ?_
      refine oy rfl rfl (y_move rfl) ?_
      refine oy rfl rfl (y_move rfl) ?_
      refine oy rfl rfl ((y_len 0 rfl Try.runUnderlying34 rfl rfl reads_ro).to (v_len (eInt .i64) _)) ?_
      refine oy rfl rfl (y_geq rfl rfl) ?_
      refine oy rfl rfl (y_move rfl) ?_
      obtain ⟨o29, h, ho30⟩ := bindJ_some h
      refine ops_cut 6 (Bool) (fun σ => [(0, parents_0v), (4, v10), (6, .int .i64 (IntKind.i64.wrap (k_21 + 1))), (7, .int .i64 w_22), (12, .int .i64 (parents_0.length : Int)), (13, .int .i64 s_9), (35, .bool σ)]) (fun σ => [ro parents_0v 1 (parents_0.map (eInt .i64)), row v10 1 (out_8.map (eInt .i64))]) (fun σ => o29 = .go σ) (fun L31 hL32 => ?_) ?_
      ·refine ops_split 29 (decide ((parents_0.length : Int) ≤ (IntKind.i64.wrap (k_21 + 1)))) rfl (fun hg33 => ?_) (fun hg33 => ?_)
       ·replace h := cond_t h hg33
        refine ops_no 4 false 29 rfl rfl rfl rfl rfl ?_
        refine ops_no 4 false 29 rfl rfl rfl rfl rfl ?_
        refine ops_no 4 false 29 rfl rfl rfl rfl rfl ?_
        refine ops_no 4 false 29 rfl rfl rfl rfl rfl ?_
        refine ops_no 4 false 29 rfl rfl rfl rfl rfl ?_
        refine ops_weak [(0, parents_0v), (4, v10), (6, .int .i64 (IntKind.i64.wrap (k_21 + 1))), (7, .int .i64 w_22), (12, .int .i64 (parents_0.length : Int)), (13, .int .i64 s_9), (29, .bool true)] [0, 1] [ro parents_0v 1 (parents_0.map (eInt .i64)), row v10 1 (out_8.map (eInt .i64))] (qv7 rfl rfl rfl rfl rfl rfl rfl) (by decide) rfl ?_
        refine oy rfl rfl (y_pick (b := true) rfl rfl) ?_
        refine ops_nil ?_
        obtain rfl := some_eq h
        exact goes_cut hL32 true [0, 1] (qv7 rfl rfl rfl rfl rfl rfl rfl) (by decide) rfl rfl
       ·replace h := cond_f h hg33
        refine ops_y (wg 4 false 29 rfl rfl rfl rfl) rfl (y_move rfl) ?_
        refine ops_y (wg 4 false 29 rfl rfl rfl rfl) rfl (y_move rfl) ?_
        obtain ⟨x34, hzx34, hlx34, hxx34, h⟩ := idx_some h
        refine ops_y (wg 4 false 29 rfl rfl rfl rfl) rfl (y_indexAddrI (kd := .i64) (i := w_22) 0 Try.runUnderlying34 Try.sizeOf3 rfl rfl rfl reads_ro hzx34 (map_lt hlx34)) ?_
        refine ops_y (wg 4 false 29 rfl rfl rfl rfl) rfl (y_load_elem (i := w_22.toNat) 0 Try.isAgg3 rfl rfl reads_ro (map_get hxx34)) ?_
        refine ops_y (wg 4 false 29 rfl rfl rfl rfl) rfl (y_lss rfl rfl) ?_
        refine ops_weak [(0, parents_0v), (4, v10), (6, .int .i64 (IntKind.i64.wrap (k_21 + 1))), (7, .int .i64 w_22), (12, .int .i64 (parents_0.length : Int)), (13, .int .i64 s_9), (29, .bool false), (34, .bool (decide (x34 < (-1))))] [0, 1] [ro parents_0v 1 (parents_0.map (eInt .i64)), row v10 1 (out_8.map (eInt .i64))] (qv8 rfl rfl rfl rfl rfl rfl rfl rfl) (by decide) rfl ?_
        refine oy rfl rfl (y_pick (b := false) rfl rfl) ?_
        refine ops_nil ?_
        obtain rfl := some_eq h
        exact goes_cut hL32 (decide (x34 < (-1))) [0, 1] (qv7 rfl rfl rfl rfl rfl rfl rfl) (by decide) rfl rfl
      rintro b28 hj
      obtain rfl : o29 = _ := hj
      replace h := after_go ho30
      clear ho30
      refine oy rfl rfl (y_move rfl) ?_
      obtain ⟨o36, h, ho37⟩ := bindJ_some h
      refine ops_cut 8 (Bool) (fun σ => [(0, parents_0v), (4, v10), (6, .int .i64 (IntKind.i64.wrap (k_21 + 1))), (7, .int .i64 w_22), (12, .int .i64 (parents_0.length : Int)), (13, .int .i64 s_9), (44, .bool σ)]) (fun σ => [ro parents_0v 1 (parents_0.map (eInt .i64)), row v10 1 (out_8.map (eInt .i64))]) (fun σ => o36 = .go σ) (fun L38 hL39 => ?_) ?_
      ·refine ops_split 36 b28 rfl (fun hg40 => ?_) (fun hg40 => ?_)
       ·replace h := cond_t h hg40
        refine ops_no 11 false 36 rfl rfl rfl rfl rfl ?_
        refine ops_no 11 false 36 rfl rfl rfl rfl rfl ?_
        refine ops_no 11 false 36 rfl rfl rfl rfl rfl ?_
        refine ops_no 11 false 36 rfl rfl rfl rfl rfl ?_
        refine ops_no 11 false 36 rfl rfl rfl rfl rfl ?_
        refine ops_no 11 false 36 rfl rfl rfl rfl rfl ?_
        refine ops_no 11 false 36 rfl rfl rfl rfl rfl ?_
        refine oy rfl rfl (y_pick (b := true) rfl rfl) ?_
        refine ops_nil ?_
        obtain rfl := some_eq h
        exact goes_cut hL39 true [0, 1] (qv7 rfl rfl rfl rfl rfl rfl rfl) (by decide) rfl rfl
       ·replace h := cond_f h hg40
        refine ops_y (wg 11 false 36 rfl rfl rfl rfl) rfl (y_move rfl) ?_
        refine ops_y (wg 11 false 36 rfl rfl rfl rfl) rfl (y_move rfl) ?_
        obtain ⟨x41, hzx41, hlx41, hxx41, h⟩ := idx_some h
        refine ops_y (wg 11 false 36 rfl rfl rfl rfl) rfl (y_indexAddrI (kd := .i64) (i := w_22) 0 Try.runUnderlying34 Try.sizeOf3 rfl rfl rfl reads_ro hzx41 (map_lt hlx41)) ?_
        refine ops_y (wg 11 false 36 rfl rfl rfl rfl) rfl (y_load_elem (i := w_22.toNat) 0 Try.isAgg3 rfl rfl reads_ro (map_get hxx41)) ?_
        refine ops_y (wg 11 false 36 rfl rfl rfl rfl) rfl (y_move rfl) ?_
        refine ops_y (wg 11 false 36 rfl rfl rfl rfl) rfl ((y_len 0 rfl Try.runUnderlying34 rfl rfl reads_ro).to (v_len (eInt .i64) _)) ?_
        refine ops_y (wg 11 false 36 rfl rfl rfl rfl) rfl (y_geq rfl rfl) ?_
        refine oy rfl rfl (y_pick (b := false) rfl rfl) ?_
        refine ops_nil ?_
        obtain rfl := some_eq h
        exact goes_cut hL39 (decide ((parents_0.length : Int) ≤ x41)) [0, 1] (qv7 rfl rfl rfl rfl rfl rfl rfl) (by decide) rfl rfl
      rintro b35 hj
      obtain rfl : o36 = _ := hj
      replace h := after_go ho37
      clear ho37
      refine ops_nil ?_
      refine goes_code ?_
      refine run_cond b35 rfl (fun hc42 => ?_) (fun hc42 => ?_)
      ·replace h := cond_t h hc42
       refine run_seq ?_
       refine run_region' ?_
       refine oy rfl rfl (y_assign rfl) ?_
       refine oy rfl rfl (y_assign rfl) ?_
       refine ops_nil ?_
       refine goes_code ?_
       refine run_ret ?_
       refine fin_turn (nilrow 1) ?_
       refine fin_turn (retell 2 (g := row (.slice none 0 0) 1 (([] : List Int).map (eInt .i64))) rfl rfl) ?_
       obtain rfl := some_eq h
       obtain rfl := hstop25 _ rfl
       skip
       obtain rfl := after_stop ho18
       skip
       obtain rfl := hstop13 _ rfl
       skip
       obtain rfl := after_stop ho5
       refine fin_slots [2, 3] [(.slice none 0 0), .int .i64 3] [2] [row (.slice none 0 0) 1 (([] : List Int).map (eInt .i64))] Try.results26 rfl (by decide) rfl ?_
       exact ⟨_, rfl, rfl⟩
      ·replace h := cond_f h hc42
       refine run_skip ?_
       refine goes_blk ?_
       refine goes_code ?_
       refine run_region' ?_
       refine oy rfl rfl (y_move rfl) ?_
       refine oy rfl rfl (y_move rfl) ?_
       obtain ⟨x43, hzx43, hlx43, hxx43, h⟩ := idx_some h
       refine oy rfl rfl (y_indexAddrI (kd := .i64) (i := w_22) 0 Try.runUnderlying34 Try.sizeOf3 rfl rfl rfl reads_ro hzx43 (map_lt hlx43)) ?_
       refine oy rfl rfl (y_load_elem (i := w_22.toNat) 0 Try.isAgg3 rfl rfl reads_ro (map_get hxx43)) ?_
       refine oy rfl rfl (y_assign rfl) ?_
       refine ops_nil ?_
       obtain rfl := some_eq h
       exact goes_iter hgo24 ((IntKind.i64.wrap (k_21 + 1)), x43) () [0, 1] rfl (qv6 rfl rfl rfl rfl rfl rfl) (by decide) rfl
     ·replace h := cond_f h hc27
      refine run_exit _ rfl ?_
      obtain rfl := some_eq h
      obtain rfl := hstop25 _ rfl
      exact goes_cut hL19 (k_21, ()) [0, 1] (qv5 rfl rfl rfl rfl rfl) (by decide) rfl rfl
    rintro ⟨k_16, _⟩ hj
    obtain rfl : o17 = _ := hj
    replace h := after_go ho18
    clear ho18
    change Run _ _ _ (VF.of [(0, parents_0v), (4, v10), (6, .int .i64 k_16), (12, .int .i64 (parents_0.length : Int)), (13, .int .i64 s_9)]) [ro parents_0v 1 (parents_0.map (eInt .i64)), row v10 1 (out_8.map (eInt .i64))]
    refine run_region' ?_
    refine oy rfl rfl (y_move rfl) ?_
    refine oy rfl rfl (y_move rfl) ?_
    refine ot rfl rfl (t_lit [.int .i64 k_16] Try.runUnderlying34 Try.sizeOf3 Try.zeroValue3 rfl (by decide) (by decide) rfl (by simp [Value.cells, boxP])) ?_
    rintro v44 _ ⟨rfl, _⟩
    refine ops_turn (retell 2 (g := row v44 1 (([k_16] : List Int).map (eInt .i64))) rfl rfl) ?_
    obtain ⟨hr46, h⟩ := need_some h
    refine ot rfl rfl (t_append (es := 1) 1 rfl Try.runUnderlying34 rfl Try.runUnderlying34 (.inr ⟨_, rfl⟩) Try.typeInfo3 rfl (by decide) Try.zeroValue3 rfl rfl rfl rfl (src_reads 2 rfl reads_row (map_ok (eInt_ok _) _)) (map_room hr46 (by decide)) (map_fit hr46)) ?_
    rintro v45 _ rfl
    refine ops_turn (retell 1 (g := row v45 1 ((out_8 ++ ([k_16] : List Int)).map (eInt .i64))) rfl (congrArg (row _ _) List.map_append.symm)) ?_
    refine oy rfl rfl (y_assign rfl) ?_
    refine ops_nil ?_
    refine goes_blk ?_
    refine goes_code ?_
    refine run_region' ?_
    refine oy rfl rfl (y_add rfl rfl) ?_
    refine oy rfl rfl (y_move rfl) ?_
    refine ops_nil ?_
    obtain rfl := some_eq h
    exact goes_iter hgo12 ((out_8 ++ ([k_16] : List Int)), (IntKind.i64.wrap (s_9 + 1))) v45 [0, 1] rfl (qv4 rfl rfl rfl rfl) (by decide) rfl
   ·replace h := cond_f h hc15
    refine run_exit _ rfl ?_
    obtain rfl := some_eq h
    obtain rfl := hstop13 _ rfl
    exact goes_cut hL6 (out_8, v10) [1] (qv1 rfl) (by decide) rfl rfl
  rintro ⟨out_2, v3⟩ hj
  obtain rfl : o4 = _ := hj
  replace h := after_go ho5
  clear ho5
  change Run _ _ _ (VF.of [(4, v3)]) [row v3 1 (out_2.map (eInt .i64))]
  refine run_seq ?_
  refine run_region' ?_
  refine oy rfl rfl (y_move rfl) ?_
  refine oy rfl rfl (y_assign rfl) ?_
  refine oy rfl rfl (y_assign rfl) ?_
  refine ops_nil ?_
  refine goes_code ?_
  refine run_ret ?_
  obtain rfl := some_eq h
  refine fin_slots [2, 3] [v3, .int .i64 0] [0] [row v3 1 (out_2.map (eInt .i64))] Try.results26 rfl (by decide) rfl ?_
  exact ⟨_, rfl, rfl⟩

def graph_climb_L1 (parents_0 : (List Int)) : (Int × (List Int)) → Option (Lp (Int × (List Int)) (Lp ((List Int)) ((List Int)))) :=
 fun (node_7, out_8) =>
  cond (decide (node_7 ≠ (-1)))
   (need (out_8.length + ([node_7] : List Int).length ≤ 4294967296) (
   idx parents_0 node_7 fun x18 =>
   some (.go (x18, (out_8 ++ ([node_7] : List Int))))))
   (some (.stop (.go out_8)))
def graph_climb (n : Nat) (parents_0 : (List Int)) (node_1 : Int) : Option ((List Int)) :=
 bindJ (S := (List Int))
  (iter (graph_climb_L1 parents_0) n (node_1, ([] : List Int)))
 (fun out_1 =>
  some out_1)
theorem graph_climb_ok (n : Nat) (parents_0 : (List Int)) (node_1 : Int) (parents_0v : Value) {r : (List Int)} (h : graph_climb n parents_0 node_1 = some r) :
  Meets Try.prog 54 [parents_0v, .int .i64 node_1] [ro parents_0v 1 (parents_0.map (eInt .i64))] (fun v G => ∃ v0, v = v0 ∧ G = [row v0 1 (r.map (eInt .i64))]) := by
 refine fn_of_run Try.func54 rfl Try.ntmps54 rfl (fun w0 o0 => ?_)
 refine run_seq ?_
 refine run_region' ?_
 refine oy rfl rfl (y_assign rfl) ?_
 refine ops_nil ?_
 refine goes_code ?_
 refine run_seq ?_
 refine run_region' ?_
 refine oy rfl rfl (y_assign rfl) ?_
 refine ops_nil ?_
 refine goes_code ?_
 obtain ⟨o3, h, ho4⟩ := bindJ_some h
 refine run_cut (((List Int)) × (Value)) (fun σ => [(5, σ.2)]) (fun σ => [row σ.2 1 (σ.1.map (eInt .i64))]) (fun σ => o3 = .go σ.1) (fun L6 hL5 => ?_) ?_
 ·
  refine run_block ?_
  refine run_turn (nilrow 1) ?_
  refine run_turn (retell 1 (g := row (.slice none 0 0) 1 (([] : List Int).map (eInt .i64))) rfl rfl) ?_
  refine run_iter (step := graph_climb_L1 parents_0) (n := n) (s0 := (node_1, ([] : List Int))) h (G := Value) (.slice none 0 0) (fun σ γ => [(0, parents_0v), (1, .int .i64 σ.1), (5, γ)]) (fun σ γ => [ro parents_0v 1 (parents_0.map (eInt .i64)), row γ 1 (σ.2.map (eInt .i64))]) [0, 1] (qv3 rfl rfl rfl) (by decide) rfl ?_
  rintro ⟨node_7, out_8⟩ v9 o10 h L13 hgo11 hstop12
  change Run _ _ _ (VF.of [(0, parents_0v), (1, .int .i64 node_7), (5, v9)]) [ro parents_0v 1 (parents_0.map (eInt .i64)), row v9 1 (out_8.map (eInt .i64))]
  refine run_seq ?_
  refine run_seq ?_
  refine run_region' ?_
  refine oy rfl rfl (y_move rfl) ?_
  refine oy rfl rfl (y_neq rfl rfl) ?_
  refine ops_nil ?_
  refine goes_code ?_
  refine run_cond (decide (node_7 ≠ (-1))) rfl (fun hc14 => ?_) (fun hc14 => ?_)
  ·replace h := cond_t h hc14
   refine run_skip ?_
   refine goes_code ?_
   refine run_seq ?_
   refine run_block ?_
   refine run_region' ?_
   refine oy rfl rfl (y_move rfl) ?_
   refine oy rfl rfl (y_move rfl) ?_
   refine ot rfl rfl (t_lit [.int .i64 node_7] Try.runUnderlying34 Try.sizeOf3 Try.zeroValue3 rfl (by decide) (by decide) rfl (by simp [Value.cells, boxP])) ?_
   rintro v15 _ ⟨rfl, _⟩
   refine ops_turn (retell 2 (g := row v15 1 (([node_7] : List Int).map (eInt .i64))) rfl rfl) ?_
   obtain ⟨hr17, h⟩ := need_some h
   refine ot rfl rfl (t_append (es := 1) 1 rfl Try.runUnderlying34 rfl Try.runUnderlying34 (.inr ⟨_, rfl⟩) Try.typeInfo3 rfl (by decide) Try.zeroValue3 rfl rfl rfl rfl (src_reads 2 rfl reads_row (map_ok (eInt_ok _) _)) (map_room hr17 (by decide)) (map_fit hr17)) ?_
   rintro v16 _ rfl
   refine ops_turn (retell 1 (g := row v16 1 ((out_8 ++ ([node_7] : List Int)).map (eInt .i64))) rfl (congrArg (row _ _) List.map_append.symm)) ?_
   refine oy rfl rfl (y_assign rfl) ?_
   refine ops_nil ?_
   refine goes_blk ?_
   refine goes_code ?_
   refine run_region' ?_
   refine oy rfl rfl (y_move rfl) ?_
   refine oy rfl rfl (y_move rfl) ?_
   obtain ⟨x18, hzx18, hlx18, hxx18, h⟩ := idx_some h
   refine oy rfl rfl (y_indexAddrI (kd := .i64) (i := node_7) 0 Try.runUnderlying34 Try.sizeOf3 rfl rfl rfl reads_ro hzx18 (map_lt hlx18)) ?_
   refine oy rfl rfl (y_load_elem (i := node_7.toNat) 0 Try.isAgg3 rfl rfl reads_ro (map_get hxx18)) ?_
   refine oy rfl rfl (y_assign rfl) ?_
   refine ops_nil ?_
   obtain rfl := some_eq h
   exact goes_iter hgo11 (x18, (out_8 ++ ([node_7] : List Int))) v16 [0, 1] rfl (qv3 rfl rfl rfl) (by decide) rfl
  ·replace h := cond_f h hc14
   refine run_exit _ rfl ?_
   obtain rfl := some_eq h
   obtain rfl := hstop12 _ rfl
   exact goes_cut hL5 (out_8, v9) [1] (qv1 rfl) (by decide) rfl rfl
 rintro ⟨out_1, v2⟩ hj
 obtain rfl : o3 = _ := hj
 replace h := after_go ho4
 clear ho4
 change Run _ _ _ (VF.of [(5, v2)]) [row v2 1 (out_1.map (eInt .i64))]
 refine run_seq ?_
 refine run_region' ?_
 refine oy rfl rfl (y_move rfl) ?_
 refine oy rfl rfl (y_assign rfl) ?_
 refine ops_nil ?_
 refine goes_code ?_
 refine run_ret ?_
 obtain rfl := some_eq h
 refine fin_slots [4] [v2] [0] [row v2 1 (out_1.map (eInt .i64))] Try.results54 rfl (by decide) rfl ?_
 exact ⟨_, rfl, rfl⟩

def graph_Climb (n : Nat) (parents_0 : (List Int)) (node_1 : Int) : Option ((List Int) × Int) :=
 obind (graph_Depths n parents_0) fun r1 =>
 cond (decide (r1.2 ≠ 0))
  (some (([] : List Int), r1.2))
  (cond (decide (node_1 < 0) || decide ((parents_0.length : Int) ≤ node_1))
   (some (([] : List Int), 1))
   (obind (graph_climb n parents_0 node_1) fun r9 =>
   some (r9, 0)))
theorem graph_Climb_ok (n : Nat) (parents_0 : (List Int)) (node_1 : Int) (parents_0v : Value) {r : (List Int) × Int} (h : graph_Climb n parents_0 node_1 = some r) :
  Meets Try.prog 27 [parents_0v, .int .i64 node_1] [ro parents_0v 1 (parents_0.map (eInt .i64))] (fun v G => ∃ v0, v = .tuple #[v0, .int .i64 r.2] ∧ G = [row v0 1 (r.1.map (eInt .i64))]) := by
 refine fn_of_run Try.func27 rfl Try.ntmps27 rfl (fun w0 o0 => ?_)
 refine run_seq ?_
 refine run_region' ?_
 refine oy rfl rfl (y_assign rfl) ?_
 refine oy rfl rfl (y_assign rfl) ?_
 refine ops_nil ?_
 refine goes_code ?_
 refine run_seq ?_
 refine run_seq ?_
 refine run_region' ?_
 refine oy rfl rfl (y_move rfl) ?_
 obtain ⟨r1, hr2, h⟩ := obind_some h
 refine ot rfl rfl (t_callx (vs := [parents_0v]) (cs := []) [(0, 0)] rfl Try.call26 rfl (graph_Depths_ok n parents_0 parents_0v hr2) (showsX_view 0 rfl views_ro showsX_nil) rfl (.inl rfl)) ?_
 rintro _ _ ⟨_, ⟨v3, rfl, rfl⟩, rfl⟩
 refine oy rfl rfl (y_move rfl) ?_
 refine oy rfl rfl (y_extract rfl rfl) ?_
 refine oy rfl rfl (y_extract rfl rfl) ?_
 refine oy rfl rfl (y_assign rfl) ?_
 refine oy rfl rfl (y_assign rfl) ?_
 refine ops_nil ?_
 refine goes_code ?_
 refine run_seq ?_
 refine run_weak [(0, parents_0v), (1, .int .i64 node_1), (7, .int .i64 r1.2)] [0] [ro parents_0v 1 (parents_0.map (eInt .i64))] (qv3 rfl rfl rfl) (by decide) rfl ?_
 refine run_region' ?_
 refine oy rfl rfl (y_move rfl) ?_
 refine oy rfl rfl (y_neq rfl rfl) ?_
 refine ops_nil ?_
 refine goes_code ?_
 refine run_cond (decide (r1.2 ≠ 0)) rfl (fun hc4 => ?_) (fun hc4 => ?_)
 ·replace h := cond_t h hc4
  refine run_seq ?_
  refine run_region' ?_
  refine oy rfl rfl (y_move rfl) ?_
  refine oy rfl rfl (y_assign rfl) ?_
  refine oy rfl rfl (y_assign rfl) ?_
  refine ops_nil ?_
  refine goes_code ?_
  refine run_ret ?_
  refine fin_turn (nilrow 1) ?_
  refine fin_turn (retell 1 (g := row (.slice none 0 0) 1 (([] : List Int).map (eInt .i64))) rfl rfl) ?_
  obtain rfl := some_eq h
  refine fin_slots [4, 5] [(.slice none 0 0), .int .i64 r1.2] [1] [row (.slice none 0 0) 1 (([] : List Int).map (eInt .i64))] Try.results27 rfl (by decide) rfl ?_
  exact ⟨_, rfl, rfl⟩
 ·replace h := cond_f h hc4
  refine run_skip ?_
  refine goes_code ?_
  refine run_seq ?_
  refine run_seq ?_
  refine run_region' ?_
  refine oy rfl rfl (y_move rfl) ?_
  refine oy rfl rfl (y_lss rfl rfl) ?_
  refine oy rfl rfl (y_move rfl) ?_
  refine ops_cut 5 (Bool) (fun σ => [(0, parents_0v), (1, .int .i64 node_1), (23, .bool σ)]) (fun σ => [ro parents_0v 1 (parents_0.map (eInt .i64))]) (fun σ => σ = (decide (node_1 < 0) || decide ((parents_0.length : Int) ≤ node_1))) (fun L5 hL6 => ?_) ?_
  ·refine ops_split 18 (decide (node_1 < 0)) rfl (fun hg7 => ?_) (fun hg7 => ?_)
   ·skip
    refine ops_no 2 false 18 rfl rfl rfl rfl rfl ?_
    refine ops_no 2 false 18 rfl rfl rfl rfl rfl ?_
    refine ops_no 2 false 18 rfl rfl rfl rfl rfl ?_
    refine ops_no 2 false 18 rfl rfl rfl rfl rfl ?_
    refine oy rfl rfl (y_pick (b := true) rfl rfl) ?_
    refine ops_nil ?_
    exact goes_cut hL6 true [0] (qv3 rfl rfl rfl) (by decide) rfl (by rw [hg7]; simp)
   ·skip
    refine ops_y (wg 2 false 18 rfl rfl rfl rfl) rfl (y_move rfl) ?_
    refine ops_y (wg 2 false 18 rfl rfl rfl rfl) rfl (y_move rfl) ?_
    refine ops_y (wg 2 false 18 rfl rfl rfl rfl) rfl ((y_len 0 rfl Try.runUnderlying34 rfl rfl reads_ro).to (v_len (eInt .i64) _)) ?_
    refine ops_y (wg 2 false 18 rfl rfl rfl rfl) rfl (y_geq rfl rfl) ?_
    refine oy rfl rfl (y_pick (b := false) rfl rfl) ?_
    refine ops_nil ?_
    exact goes_cut hL6 (decide ((parents_0.length : Int) ≤ node_1)) [0] (qv3 rfl rfl rfl) (by decide) rfl (by rw [hg7]; simp)
  rintro _ rfl
  refine ops_nil ?_
  refine goes_code ?_
  refine run_cond (decide (node_1 < 0) || decide ((parents_0.length : Int) ≤ node_1)) rfl (fun hc8 => ?_) (fun hc8 => ?_)
  ·replace h := cond_t h hc8
   refine run_seq ?_
   refine run_region' ?_
   refine oy rfl rfl (y_assign rfl) ?_
   refine oy rfl rfl (y_assign rfl) ?_
   refine ops_nil ?_
   refine goes_code ?_
   refine run_ret ?_
   refine fin_turn (nilrow 1) ?_
   refine fin_turn (retell 1 (g := row (.slice none 0 0) 1 (([] : List Int).map (eInt .i64))) rfl rfl) ?_
   obtain rfl := some_eq h
   refine fin_slots [4, 5] [(.slice none 0 0), .int .i64 1] [1] [row (.slice none 0 0) 1 (([] : List Int).map (eInt .i64))] Try.results27 rfl (by decide) rfl ?_
   exact ⟨_, rfl, rfl⟩
  ·replace h := cond_f h hc8
   refine run_skip ?_
   refine goes_code ?_
   refine run_seq ?_
   refine run_region' ?_
   refine oy rfl rfl (y_move rfl) ?_
   refine oy rfl rfl (y_move rfl) ?_
   obtain ⟨r9, hr10, h⟩ := obind_some h
   refine ot rfl rfl (t_callx (vs := [parents_0v, .int .i64 node_1]) (cs := []) [(0, 0)] rfl Try.call54 rfl (graph_climb_ok n parents_0 node_1 parents_0v hr10) (showsX_view 0 rfl views_ro showsX_nil) rfl (.inl rfl)) ?_
   rintro v11 _ ⟨_, ⟨_, rfl, rfl⟩, rfl⟩
   refine oy rfl rfl (y_assign rfl) ?_
   refine oy rfl rfl (y_assign rfl) ?_
   refine ops_nil ?_
   refine goes_code ?_
   refine run_ret ?_
   obtain rfl := some_eq h
   refine fin_slots [4, 5] [v11, .int .i64 0] [1] [row v11 1 (r9.map (eInt .i64))] Try.results27 rfl (by decide) rfl ?_
   exact ⟨_, rfl, rfl⟩

def graph_Below_L2 (parents_0 : (List Int)) (node_1 : Int) (s_12 : Int) : ((List Int) × Int) → Option (Lp ((List Int) × Int) (Lp ((List Int)) (Lp ((List Int) × Int) (Lp ((List Int)) ((List Int) × Int))))) :=
 fun (out_25, w_26) =>
  cond (decide (w_26 ≠ (-1)))
   (bindJ (S := (List Int))
    (cond (decide (w_26 = node_1))
     (need (out_25.length + ([s_12] : List Int).length ≤ 4294967296) (
     some (.go (out_25 ++ ([s_12] : List Int)))))
     (some (.go out_25)))
   (fun out_33 =>
    idx parents_0 w_26 fun x43 =>
    some (.go (out_33, x43))))
   (some (.stop (.go out_25)))
def graph_Below_L1 (n : Nat) (parents_0 : (List Int)) (node_1 : Int) : ((List Int) × Int) → Option (Lp ((List Int) × Int) (Lp ((List Int)) ((List Int) × Int))) :=
 fun (out_11, s_12) =>
  cond (decide (s_12 < (parents_0.length : Int)))
   (bindJ (S := (List Int))
    (iter (graph_Below_L2 parents_0 node_1 s_12) n (out_11, s_12))
   (fun out_19 =>
    some (.go (out_19, (IntKind.i64.wrap (s_12 + 1))))))
   (some (.stop (.go out_11)))
def graph_Below (n : Nat) (parents_0 : (List Int)) (node_1 : Int) : Option ((List Int) × Int) :=
 obind (graph_Climb n parents_0 node_1) fun r1 =>
 cond (decide (r1.2 ≠ 0))
  (some (([] : List Int), r1.2))
  (bindJ (S := (List Int))
   (iter (graph_Below_L1 n parents_0 node_1) n (([] : List Int), 0))
  (fun out_5 =>
   some (out_5, 0)))
theorem graph_Below_ok (n : Nat) (parents_0 : (List Int)) (node_1 : Int) (parents_0v : Value) {r : (List Int) × Int} (h : graph_Below n parents_0 node_1 = some r) :
  Meets Try.prog 28 [parents_0v, .int .i64 node_1] [ro parents_0v 1 (parents_0.map (eInt .i64))] (fun v G => ∃ v0, v = .tuple #[v0, .int .i64 r.2] ∧ G = [row v0 1 (r.1.map (eInt .i64))]) := by
 refine fn_of_run Try.func28 rfl Try.ntmps28 rfl (fun w0 o0 => ?_)
 refine run_seq ?_
 refine run_region' ?_
 refine oy rfl rfl (y_assign rfl) ?_
 refine oy rfl rfl (y_assign rfl) ?_
 refine ops_nil ?_
 refine goes_code ?_
 refine run_seq ?_
 refine run_seq ?_
 refine run_region' ?_
 refine oy rfl rfl (y_move rfl) ?_
 refine oy rfl rfl (y_move rfl) ?_
 obtain ⟨r1, hr2, h⟩ := obind_some h
 refine ot rfl rfl (t_callx (vs := [parents_0v, .int .i64 node_1]) (cs := []) [(0, 0)] rfl Try.call27 rfl (graph_Climb_ok n parents_0 node_1 parents_0v hr2) (showsX_view 0 rfl views_ro showsX_nil) rfl (.inl rfl)) ?_
 rintro _ _ ⟨_, ⟨v3, rfl, rfl⟩, rfl⟩
 refine oy rfl rfl (y_move rfl) ?_
 refine oy rfl rfl (y_extract rfl rfl) ?_
 refine oy rfl rfl (y_extract rfl rfl) ?_
 refine oy rfl rfl (y_assign rfl) ?_
 refine oy rfl rfl (y_assign rfl) ?_
 refine ops_nil ?_
 refine goes_code ?_
 refine run_seq ?_
 refine run_weak [(0, parents_0v), (1, .int .i64 node_1), (7, .int .i64 r1.2)] [0] [ro parents_0v 1 (parents_0.map (eInt .i64))] (qv3 rfl rfl rfl) (by decide) rfl ?_
 refine run_region' ?_
 refine oy rfl rfl (y_move rfl) ?_
 refine oy rfl rfl (y_neq rfl rfl) ?_
 refine ops_nil ?_
 refine goes_code ?_
 refine run_cond (decide (r1.2 ≠ 0)) rfl (fun hc4 => ?_) (fun hc4 => ?_)
 ·replace h := cond_t h hc4
  refine run_seq ?_
  refine run_region' ?_
  refine oy rfl rfl (y_move rfl) ?_
  refine oy rfl rfl (y_assign rfl) ?_
  refine oy rfl rfl (y_assign rfl) ?_
  refine ops_nil ?_
  refine goes_code ?_
  refine run_ret ?_
  refine fin_turn (nilrow 1) ?_
  refine fin_turn (retell 1 (g := row (.slice none 0 0) 1 (([] : List Int).map (eInt .i64))) rfl rfl) ?_
  obtain rfl := some_eq h
  refine fin_slots [4, 5] [(.slice none 0 0), .int .i64 r1.2] [1] [row (.slice none 0 0) 1 (([] : List Int).map (eInt .i64))] Try.results28 rfl (by decide) rfl ?_
  exact ⟨_, rfl, rfl⟩
 ·replace h := cond_f h hc4
  refine run_skip ?_
  refine goes_code ?_
  refine run_seq ?_
  refine run_region' ?_
  refine oy rfl rfl (y_assign rfl) ?_
  refine ops_nil ?_
  refine goes_code ?_
  obtain ⟨o7, h, ho8⟩ := bindJ_some h
  refine run_cut (((List Int)) × (Value)) (fun σ => [(8, σ.2)]) (fun σ => [row σ.2 1 (σ.1.map (eInt .i64))]) (fun σ => o7 = .go σ.1) (fun L10 hL9 => ?_) ?_
  ·
   refine run_seq ?_
   refine run_region' ?_
   refine oy rfl rfl (y_move rfl) ?_
   refine oy rfl rfl ((y_len 0 rfl Try.runUnderlying34 rfl rfl reads_ro).to (v_len (eInt .i64) _)) ?_
   refine oy rfl rfl (y_move rfl) ?_
   refine ops_nil ?_
   refine goes_code ?_
   refine run_block ?_
   refine run_turn (nilrow 1) ?_
   refine run_turn (retell 1 (g := row (.slice none 0 0) 1 (([] : List Int).map (eInt .i64))) rfl rfl) ?_
   refine run_iter (step := graph_Below_L1 n parents_0 node_1) (n := n) (s0 := (([] : List Int), 0)) h (G := Value) (.slice none 0 0) (fun σ γ => [(0, parents_0v), (1, .int .i64 node_1), (8, γ), (21, .int .i64 (parents_0.length : Int)), (22, .int .i64 σ.2)]) (fun σ γ => [ro parents_0v 1 (parents_0.map (eInt .i64)), row γ 1 (σ.1.map (eInt .i64))]) [0, 1] (qv5 rfl rfl rfl rfl rfl) (by decide) rfl ?_
   rintro ⟨out_11, s_12⟩ v13 o14 h L17 hgo15 hstop16
   change Run _ _ _ (VF.of [(0, parents_0v), (1, .int .i64 node_1), (8, v13), (21, .int .i64 (parents_0.length : Int)), (22, .int .i64 s_12)]) [ro parents_0v 1 (parents_0.map (eInt .i64)), row v13 1 (out_11.map (eInt .i64))]
   refine run_seq ?_
   refine run_region' ?_
   refine oy rfl rfl (y_lss rfl rfl) ?_
   refine ops_nil ?_
   refine goes_code ?_
   refine run_seq ?_
   refine run_cond (decide (s_12 < (parents_0.length : Int))) rfl (fun hc18 => ?_) (fun hc18 => ?_)
   ·replace h := cond_t h hc18
    refine run_skip ?_
    refine goes_code ?_
    obtain ⟨o21, h, ho22⟩ := bindJ_some h
    refine run_cut (((List Int)) × (Value)) (fun σ => [(0, parents_0v), (1, .int .i64 node_1), (8, σ.2), (21, .int .i64 (parents_0.length : Int)), (22, .int .i64 s_12)]) (fun σ => [ro parents_0v 1 (parents_0.map (eInt .i64)), row σ.2 1 (σ.1.map (eInt .i64))]) (fun σ => o21 = .go σ.1) (fun L24 hL23 => ?_) ?_
    ·
     refine run_block ?_
     refine run_seq ?_
     refine run_region' ?_
     refine oy rfl rfl (y_move rfl) ?_
     refine oy rfl rfl (y_assign rfl) ?_
     refine ops_nil ?_
     refine goes_code ?_
     refine run_seq ?_
     refine run_region' ?_
     refine oy rfl rfl (y_move rfl) ?_
     refine oy rfl rfl (y_assign rfl) ?_
     refine ops_nil ?_
     refine goes_code ?_
     refine run_block ?_
     refine run_iter (step := graph_Below_L2 parents_0 node_1 s_12) (n := n) (s0 := (out_11, s_12)) h (G := Value) v13 (fun σ γ => [(0, parents_0v), (1, .int .i64 node_1), (8, γ), (9, .int .i64 s_12), (10, .int .i64 σ.2), (21, .int .i64 (parents_0.length : Int)), (22, .int .i64 s_12)]) (fun σ γ => [ro parents_0v 1 (parents_0.map (eInt .i64)), row γ 1 (σ.1.map (eInt .i64))]) [0, 1] (qv7 rfl rfl rfl rfl rfl rfl rfl) (by decide) rfl ?_
     rintro ⟨out_25, w_26⟩ v27 o28 h L31 hgo29 hstop30
     change Run _ _ _ (VF.of [(0, parents_0v), (1, .int .i64 node_1), (8, v27), (9, .int .i64 s_12), (10, .int .i64 w_26), (21, .int .i64 (parents_0.length : Int)), (22, .int .i64 s_12)]) [ro parents_0v 1 (parents_0.map (eInt .i64)), row v27 1 (out_25.map (eInt .i64))]
     refine run_seq ?_
     refine run_seq ?_
     refine run_region' ?_
     refine oy rfl rfl (y_move rfl) ?_
     refine oy rfl rfl (y_neq rfl rfl) ?_
     refine ops_nil ?_
     refine goes_code ?_
     refine run_cond (decide (w_26 ≠ (-1))) rfl (fun hc32 => ?_) (fun hc32 => ?_)
     ·replace h := cond_t h hc32
      refine run_skip ?_
      refine goes_code ?_
      obtain ⟨o35, h, ho36⟩ := bindJ_some h
      refine run_cut (((List Int)) × (Value)) (fun σ => [(0, parents_0v), (1, .int .i64 node_1), (8, σ.2), (9, .int .i64 s_12), (10, .int .i64 w_26), (21, .int .i64 (parents_0.length : Int)), (22, .int .i64 s_12)]) (fun σ => [ro parents_0v 1 (parents_0.map (eInt .i64)), row σ.2 1 (σ.1.map (eInt .i64))]) (fun σ => o35 = .go σ.1) (fun L38 hL37 => ?_) ?_
      ·
       refine run_block ?_
       refine run_seq ?_
       refine run_region' ?_
       refine oy rfl rfl (y_move rfl) ?_
       refine oy rfl rfl (y_move rfl) ?_
       refine oy rfl rfl (y_eql rfl rfl) ?_
       refine ops_nil ?_
       refine goes_code ?_
       refine run_cond (decide (w_26 = node_1)) rfl (fun hc39 => ?_) (fun hc39 => ?_)
       ·replace h := cond_t h hc39
        refine run_region' ?_
        refine oy rfl rfl (y_move rfl) ?_
        refine oy rfl rfl (y_move rfl) ?_
        refine ot rfl rfl (t_lit [.int .i64 s_12] Try.runUnderlying34 Try.sizeOf3 Try.zeroValue3 rfl (by decide) (by decide) rfl (by simp [Value.cells, boxP])) ?_
        rintro v40 _ ⟨rfl, _⟩
        refine ops_turn (retell 2 (g := row v40 1 (([s_12] : List Int).map (eInt .i64))) rfl rfl) ?_
        obtain ⟨hr42, h⟩ := need_some h
        refine ot rfl rfl (t_append (es := 1) 1 rfl Try.runUnderlying34 rfl Try.runUnderlying34 (.inr ⟨_, rfl⟩) Try.typeInfo3 rfl (by decide) Try.zeroValue3 rfl rfl rfl rfl (src_reads 2 rfl reads_row (map_ok (eInt_ok _) _)) (map_room hr42 (by decide)) (map_fit hr42)) ?_
        rintro v41 _ rfl
        refine ops_turn (retell 1 (g := row v41 1 ((out_25 ++ ([s_12] : List Int)).map (eInt .i64))) rfl (congrArg (row _ _) List.map_append.symm)) ?_
        refine oy rfl rfl (y_assign rfl) ?_
        refine ops_nil ?_
        refine goes_blk ?_
        obtain rfl := some_eq h
        exact goes_cut hL37 ((out_25 ++ ([s_12] : List Int)), v41) [0, 1] (qv7 rfl rfl rfl rfl rfl rfl rfl) (by decide) rfl rfl
       ·replace h := cond_f h hc39
        refine run_skip ?_
        refine goes_blk ?_
        obtain rfl := some_eq h
        exact goes_cut hL37 (out_25, v27) [0, 1] (qv7 rfl rfl rfl rfl rfl rfl rfl) (by decide) rfl rfl
      rintro ⟨out_33, v34⟩ hj
      obtain rfl : o35 = _ := hj
      replace h := after_go ho36
      clear ho36
      change Run _ _ _ (VF.of [(0, parents_0v), (1, .int .i64 node_1), (8, v34), (9, .int .i64 s_12), (10, .int .i64 w_26), (21, .int .i64 (parents_0.length : Int)), (22, .int .i64 s_12)]) [ro parents_0v 1 (parents_0.map (eInt .i64)), row v34 1 (out_33.map (eInt .i64))]
      refine run_region' ?_
      refine oy rfl rfl (y_move rfl) ?_
      refine oy rfl rfl (y_move rfl) ?_
      obtain ⟨x43, hzx43, hlx43, hxx43, h⟩ := idx_some h
      refine oy rfl rfl (y_indexAddrI (kd := .i64) (i := w_26) 0 Try.runUnderlying34 Try.sizeOf3 rfl rfl rfl reads_ro hzx43 (map_lt hlx43)) ?_
      refine oy rfl rfl (y_load_elem (i := w_26.toNat) 0 Try.isAgg3 rfl rfl reads_ro (map_get hxx43)) ?_
      refine oy rfl rfl (y_assign rfl) ?_
      refine ops_nil ?_
      obtain rfl := some_eq h
      exact goes_iter hgo29 (out_33, x43) v34 [0, 1] rfl (qv7 rfl rfl rfl rfl rfl rfl rfl) (by decide) rfl
     ·replace h := cond_f h hc32
      refine run_exit _ rfl ?_
      refine goes_blk ?_
      obtain rfl := some_eq h
      obtain rfl := hstop30 _ rfl
      exact goes_cut hL23 (out_25, v27) [0, 1] (qv5 rfl rfl rfl rfl rfl) (by decide) rfl rfl
    rintro ⟨out_19, v20⟩ hj
    obtain rfl : o21 = _ := hj
    replace h := after_go ho22
    clear ho22
    change Run _ _ _ (VF.of [(0, parents_0v), (1, .int .i64 node_1), (8, v20), (21, .int .i64 (parents_0.length : Int)), (22, .int .i64 s_12)]) [ro parents_0v 1 (parents_0.map (eInt .i64)), row v20 1 (out_19.map (eInt .i64))]
    refine run_region' ?_
    refine oy rfl rfl (y_add rfl rfl) ?_
    refine oy rfl rfl (y_move rfl) ?_
    refine ops_nil ?_
    obtain rfl := some_eq h
    exact goes_iter hgo15 (out_19, (IntKind.i64.wrap (s_12 + 1))) v20 [0, 1] rfl (qv5 rfl rfl rfl rfl rfl) (by decide) rfl
   ·replace h := cond_f h hc18
    refine run_exit _ rfl ?_
    obtain rfl := some_eq h
    obtain rfl := hstop16 _ rfl
    exact goes_cut hL9 (out_11, v13) [1] (qv1 rfl) (by decide) rfl rfl
  rintro ⟨out_5, v6⟩ hj
  obtain rfl : o7 = _ := hj
  replace h := after_go ho8
  clear ho8
  change Run _ _ _ (VF.of [(8, v6)]) [row v6 1 (out_5.map (eInt .i64))]
  refine run_seq ?_
  refine run_region' ?_
  refine oy rfl rfl (y_move rfl) ?_
  refine oy rfl rfl (y_assign rfl) ?_
  refine oy rfl rfl (y_assign rfl) ?_
  refine ops_nil ?_
  refine goes_code ?_
  refine run_ret ?_
  obtain rfl := some_eq h
  refine fin_slots [4, 5] [v6, .int .i64 0] [0] [row v6 1 (out_5.map (eInt .i64))] Try.results28 rfl (by decide) rfl ?_
  exact ⟨_, rfl, rfl⟩

def ref09_Same_L1 (a_0 : (List Int)) (b_1 : (List Int)) : (Int) → Option (Lp (Int) (Lp (Unit) (Bool))) :=
 fun i_6 =>
  cond (decide (i_6 < (a_0.length : Int)))
   (idx a_0 i_6 fun x12 =>
   idx b_1 i_6 fun x13 =>
   cond (decide (x12 ≠ x13))
    (some (.stop (.stop false)))
    (some (.go (IntKind.i64.wrap (i_6 + 1)))))
   (some (.stop (.go ())))
def ref09_Same (n : Nat) (a_0 : (List Int)) (b_1 : (List Int)) : Option (Bool) :=
 cond (decide ((a_0.length : Int) ≠ (b_1.length : Int)))
  (some false)
  (bindJ (S := Unit)
   (iter (ref09_Same_L1 a_0 b_1) n 0)
  (fun _ =>
   some true))
theorem ref09_Same_ok (n : Nat) (a_0 : (List Int)) (b_1 : (List Int)) (a_0v : Value) (b_1v : Value) {r : Bool} (h : ref09_Same n a_0 b_1 = some r) :
  Meets Try.prog 20 [a_0v, b_1v] [ro a_0v 1 (a_0.map (eInt .i64)), ro b_1v 1 (b_1.map (eInt .i64))] (fun v G => v = .bool r ∧ G = []) := by
 refine fn_of_run Try.func20 rfl Try.ntmps20 rfl (fun w0 o0 => ?_)
 refine run_seq ?_
 refine run_region' ?_
 refine oy rfl rfl (y_assign rfl) ?_
 refine ops_nil ?_
 refine goes_code ?_
 refine run_seq ?_
 refine run_seq ?_
 refine run_region' ?_
 refine oy rfl rfl (y_move rfl) ?_
 refine oy rfl rfl ((y_len 0 rfl Try.runUnderlying34 rfl rfl reads_ro).to (v_len (eInt .i64) _)) ?_
 refine oy rfl rfl (y_move rfl) ?_
 refine oy rfl rfl ((y_len 1 rfl Try.runUnderlying34 rfl rfl reads_ro).to (v_len (eInt .i64) _)) ?_
 refine oy rfl rfl (y_neq rfl rfl) ?_
 refine ops_nil ?_
 refine goes_code ?_
 refine run_cond (decide ((a_0.length : Int) ≠ (b_1.length : Int))) rfl (fun hc1 => ?_) (fun hc1 => ?_)
 ·replace h := cond_t h hc1
  refine run_seq ?_
  refine run_region' ?_
  refine oy rfl rfl (y_assign rfl) ?_
  refine ops_nil ?_
  refine goes_code ?_
  refine run_ret ?_
  obtain rfl := some_eq h
  refine fin_slots [4] [.bool false] [] [] Try.results20 rfl (by decide) rfl ?_
  exact ⟨rfl, rfl⟩
 ·replace h := cond_f h hc1
  refine run_skip ?_
  refine goes_code ?_
  obtain ⟨o2, h, ho3⟩ := bindJ_some h
  refine run_cut ((Unit) × (Unit)) (fun σ => []) (fun σ => []) (fun σ => o2 = .go σ.1) (fun L5 hL4 => ?_) ?_
  ·
   refine run_seq ?_
   refine run_region' ?_
   refine oy rfl rfl (y_assign rfl) ?_
   refine ops_nil ?_
   refine goes_code ?_
   refine run_block ?_
   refine run_iter (step := ref09_Same_L1 a_0 b_1) (n := n) (s0 := 0) h (G := Unit) () (fun σ γ => [(0, a_0v), (1, b_1v), (5, .int .i64 σ)]) (fun σ γ => [ro a_0v 1 (a_0.map (eInt .i64)), ro b_1v 1 (b_1.map (eInt .i64))]) [0, 1] (qv3 rfl rfl rfl) (by decide) rfl ?_
   rintro i_6 _ o7 h L10 hgo8 hstop9
   change Run _ _ _ (VF.of [(0, a_0v), (1, b_1v), (5, .int .i64 i_6)]) [ro a_0v 1 (a_0.map (eInt .i64)), ro b_1v 1 (b_1.map (eInt .i64))]
   refine run_seq ?_
   refine run_seq ?_
   refine run_region' ?_
   refine oy rfl rfl (y_move rfl) ?_
   refine oy rfl rfl (y_move rfl) ?_
   refine oy rfl rfl ((y_len 0 rfl Try.runUnderlying34 rfl rfl reads_ro).to (v_len (eInt .i64) _)) ?_
   refine oy rfl rfl (y_lss rfl rfl) ?_
   refine ops_nil ?_
   refine goes_code ?_
   refine run_cond (decide (i_6 < (a_0.length : Int))) rfl (fun hc11 => ?_) (fun hc11 => ?_)
   ·replace h := cond_t h hc11
    refine run_skip ?_
    refine goes_code ?_
    refine run_seq ?_
    refine run_block ?_
    refine run_seq ?_
    refine run_draw (by kernel_rfl) (by kernel_rfl) ?_
    refine sy rfl rfl (y_move rfl) ?_
    refine sy rfl rfl (y_move rfl) ?_
    obtain ⟨x12, hzx12, hlx12, hxx12, h⟩ := idx_some h
    refine sy rfl rfl (y_indexAddrI (kd := .i64) (i := i_6) 0 Try.runUnderlying34 Try.sizeOf3 rfl rfl rfl reads_ro hzx12 (map_lt hlx12)) ?_
    refine sy rfl rfl (y_load_elem (i := i_6.toNat) 0 Try.isAgg3 rfl rfl reads_ro (map_get hxx12)) ?_
    refine sy rfl rfl (y_move rfl) ?_
    refine sy rfl rfl (y_move rfl) ?_
    obtain ⟨x13, hzx13, hlx13, hxx13, h⟩ := idx_some h
    refine sy rfl rfl (y_indexAddrI (kd := .i64) (i := i_6) 1 Try.runUnderlying34 Try.sizeOf3 rfl rfl rfl reads_ro hzx13 (map_lt hlx13)) ?_
    refine sy rfl rfl (y_load_elem (i := i_6.toNat) 1 Try.isAgg3 rfl rfl reads_ro (map_get hxx13)) ?_
    refine sy rfl rfl (y_neq rfl rfl) ?_
    refine still_nil ?_
    refine goes_code ?_
    refine run_cond (decide (x12 ≠ x13)) rfl (fun hc14 => ?_) (fun hc14 => ?_)
    ·replace h := cond_t h hc14
     refine run_seq ?_
     refine run_weak [] [] [] vnil (by decide) rfl ?_
     refine run_region' ?_
     refine oy rfl rfl (y_assign rfl) ?_
     refine ops_nil ?_
     refine goes_code ?_
     refine run_ret ?_
     obtain rfl := some_eq h
     obtain rfl := hstop9 _ rfl
     skip
     obtain rfl := after_stop ho3
     refine fin_slots [4] [.bool false] [] [] Try.results20 rfl (by decide) rfl ?_
     exact ⟨rfl, rfl⟩
    ·replace h := cond_f h hc14
     refine run_skip ?_
     refine goes_blk ?_
     refine goes_code ?_
     refine run_weak [(0, a_0v), (1, b_1v), (5, .int .i64 i_6)] [0, 1] [ro a_0v 1 (a_0.map (eInt .i64)), ro b_1v 1 (b_1.map (eInt .i64))] (qv3 rfl rfl rfl) (by decide) rfl ?_
     refine run_region' ?_
     refine oy rfl rfl (y_move rfl) ?_
     refine oy rfl rfl (y_add rfl rfl) ?_
     refine oy rfl rfl (y_assign rfl) ?_
     refine ops_nil ?_
     obtain rfl := some_eq h
     exact goes_iter hgo8 (IntKind.i64.wrap (i_6 + 1)) () [0, 1] rfl (qv3 rfl rfl rfl) (by decide) rfl
   ·replace h := cond_f h hc11
    refine run_exit _ rfl ?_
    obtain rfl := some_eq h
    obtain rfl := hstop9 _ rfl
    exact goes_cut hL4 ((), ()) [] vnil (by decide) rfl rfl
  rintro ⟨_, _⟩ hj
  obtain rfl : o2 = _ := hj
  replace h := after_go ho3
  clear ho3
  change Run _ _ _ (VF.of []) []
  refine run_seq ?_
  refine run_region' ?_
  refine oy rfl rfl (y_assign rfl) ?_
  refine ops_nil ?_
  refine goes_code ?_
  refine run_ret ?_
  obtain rfl := some_eq h
  refine fin_slots [4] [.bool true] [] [] Try.results20 rfl (by decide) rfl ?_
  exact ⟨rfl, rfl⟩

def ref09_SameSets_L1 (n : Nat) (a_0 : (List (List Int))) (b_1 : (List (List Int))) : (Int) → Option (Lp (Int) (Lp (Unit) (Bool))) :=
 fun i_6 =>
  cond (decide (i_6 < (a_0.length : Int)))
   (idx a_0 i_6 fun x12 =>
   idx b_1 i_6 fun x14 =>
   obind (ref09_Same n x12 x14) fun r16 =>
   cond (!r16)
    (some (.stop (.stop false)))
    (some (.go (IntKind.i64.wrap (i_6 + 1)))))
   (some (.stop (.go ())))
def ref09_SameSets (n : Nat) (a_0 : (List (List Int))) (b_1 : (List (List Int))) : Option (Bool) :=
 cond (decide ((a_0.length : Int) ≠ (b_1.length : Int)))
  (some false)
  (bindJ (S := Unit)
   (iter (ref09_SameSets_L1 n a_0 b_1) n 0)
  (fun _ =>
   some true))
theorem ref09_SameSets_ok (n : Nat) (a_0 : (List (List Int))) (b_1 : (List (List Int))) (a_0v : Value) (b_1v : Value) {r : Bool} (h : ref09_SameSets n a_0 b_1 = some r) :
  Meets Try.prog 19 [a_0v, b_1v] [nro a_0v NC_L_int_34 a_0, nro b_1v NC_L_int_34 b_1] (fun v G => v = .bool r ∧ G = []) := by
 refine fn_of_run Try.func19 rfl Try.ntmps19 rfl (fun w0 o0 => ?_)
 refine run_seq ?_
 refine run_region' ?_
 refine oy rfl rfl (y_assign rfl) ?_
 refine ops_nil ?_
 refine goes_code ?_
 refine run_seq ?_
 refine run_seq ?_
 refine run_region' ?_
 refine oy rfl rfl (y_move rfl) ?_
 refine oy rfl rfl (y_lenN 0 rfl Try.runUnderlying31 rfl rfl readsN_ro) ?_
 refine oy rfl rfl (y_move rfl) ?_
 refine oy rfl rfl (y_lenN 1 rfl Try.runUnderlying31 rfl rfl readsN_ro) ?_
 refine oy rfl rfl (y_neq rfl rfl) ?_
 refine ops_nil ?_
 refine goes_code ?_
 refine run_cond (decide ((a_0.length : Int) ≠ (b_1.length : Int))) rfl (fun hc1 => ?_) (fun hc1 => ?_)
 ·replace h := cond_t h hc1
  refine run_seq ?_
  refine run_region' ?_
  refine oy rfl rfl (y_assign rfl) ?_
  refine ops_nil ?_
  refine goes_code ?_
  refine run_ret ?_
  obtain rfl := some_eq h
  refine fin_slots [4] [.bool false] [] [] Try.results19 rfl (by decide) rfl ?_
  exact ⟨rfl, rfl⟩
 ·replace h := cond_f h hc1
  refine run_skip ?_
  refine goes_code ?_
  obtain ⟨o2, h, ho3⟩ := bindJ_some h
  refine run_cut ((Unit) × (Unit)) (fun σ => []) (fun σ => []) (fun σ => o2 = .go σ.1) (fun L5 hL4 => ?_) ?_
  ·
   refine run_seq ?_
   refine run_region' ?_
   refine oy rfl rfl (y_assign rfl) ?_
   refine ops_nil ?_
   refine goes_code ?_
   refine run_block ?_
   refine run_iter (step := ref09_SameSets_L1 n a_0 b_1) (n := n) (s0 := 0) h (G := Unit) () (fun σ γ => [(0, a_0v), (1, b_1v), (5, .int .i64 σ)]) (fun σ γ => [nro a_0v NC_L_int_34 a_0, nro b_1v NC_L_int_34 b_1]) [0, 1] (qv3 rfl rfl rfl) (by decide) rfl ?_
   rintro i_6 _ o7 h L10 hgo8 hstop9
   change Run _ _ _ (VF.of [(0, a_0v), (1, b_1v), (5, .int .i64 i_6)]) [nro a_0v NC_L_int_34 a_0, nro b_1v NC_L_int_34 b_1]
   refine run_seq ?_
   refine run_seq ?_
   refine run_region' ?_
   refine oy rfl rfl (y_move rfl) ?_
   refine oy rfl rfl (y_move rfl) ?_
   refine oy rfl rfl (y_lenN 0 rfl Try.runUnderlying31 rfl rfl readsN_ro) ?_
   refine oy rfl rfl (y_lss rfl rfl) ?_
   refine ops_nil ?_
   refine goes_code ?_
   refine run_cond (decide (i_6 < (a_0.length : Int))) rfl (fun hc11 => ?_) (fun hc11 => ?_)
   ·replace h := cond_t h hc11
    refine run_skip ?_
    refine goes_code ?_
    refine run_seq ?_
    refine run_block ?_
    refine run_seq ?_
    refine run_drawany [nro a_0v NC_L_int_34 a_0, nro b_1v NC_L_int_34 b_1] (by kernel_rfl) ?_
    refine any_y 0 rfl (by kernel_rfl) (by kernel_rfl) (by kernel_rfl) (ss (ss (sn))) (wn rfl) rfl (y_move rfl) ?_
    refine any_y 1 rfl (by kernel_rfl) (by kernel_rfl) (by kernel_rfl) (ss (ss (sn))) (wn rfl) rfl (y_move rfl) ?_
    obtain ⟨x12, hzx12, hlx12, hxx12, h⟩ := idx_some h
    refine any_y 2 rfl (by kernel_rfl) (by kernel_rfl) (by kernel_rfl) (ss (ss (sn))) (wn rfl) rfl (y_indexAddrN (kd := .i64) (i := i_6) 0 Try.runUnderlying31 Try.sizeOf34 rfl rfl rfl readsN_ro hzx12 hlx12) ?_
    refine any_ex (exAt (C := NC_L_int_34) (i := i_6.toNat) 0 rfl hxx12) ?_
    rintro g13
    refine any_grow [nro a_0v NC_L_int_34 a_0, nro b_1v NC_L_int_34 b_1, atc a_0v (i_6.toNat * 1) [g13]] (ss (ss (sn))) ?_
    refine any_grow [nro a_0v NC_L_int_34 a_0, nro b_1v NC_L_int_34 b_1, atc a_0v (i_6.toNat * 1) [g13], ro g13 1 (x12.map (eInt .i64))] (ss (ss (ss (sn)))) ?_
    refine any_y 3 rfl (by kernel_rfl) (by kernel_rfl) (by kernel_rfl) (ss (ss (ss (ss (sn))))) (wn rfl) rfl (y_load_at (n := i_6.toNat * 1) (j := 0) 2 Try.isAgg34 rfl rfl rfl) ?_
    refine any_y 4 rfl (by kernel_rfl) (by kernel_rfl) (by kernel_rfl) (ss (ss (ss (ss (sn))))) (wn rfl) rfl (y_move rfl) ?_
    refine any_y 5 rfl (by kernel_rfl) (by kernel_rfl) (by kernel_rfl) (ss (ss (ss (ss (sn))))) (wn rfl) rfl (y_move rfl) ?_
    obtain ⟨x14, hzx14, hlx14, hxx14, h⟩ := idx_some h
    refine any_y 6 rfl (by kernel_rfl) (by kernel_rfl) (by kernel_rfl) (ss (ss (ss (ss (sn))))) (wn rfl) rfl (y_indexAddrN (kd := .i64) (i := i_6) 1 Try.runUnderlying31 Try.sizeOf34 rfl rfl rfl readsN_ro hzx14 hlx14) ?_
    refine any_ex (exAt (C := NC_L_int_34) (i := i_6.toNat) 1 rfl hxx14) ?_
    rintro g15
    refine any_grow [nro a_0v NC_L_int_34 a_0, nro b_1v NC_L_int_34 b_1, atc a_0v (i_6.toNat * 1) [g13], ro g13 1 (x12.map (eInt .i64)), atc b_1v (i_6.toNat * 1) [g15]] (ss (ss (ss (ss (sn))))) ?_
    refine any_grow [nro a_0v NC_L_int_34 a_0, nro b_1v NC_L_int_34 b_1, atc a_0v (i_6.toNat * 1) [g13], ro g13 1 (x12.map (eInt .i64)), atc b_1v (i_6.toNat * 1) [g15], ro g15 1 (x14.map (eInt .i64))] (ss (ss (ss (ss (ss (sn)))))) ?_
    refine any_y 7 rfl (by kernel_rfl) (by kernel_rfl) (by kernel_rfl) (ss (ss (ss (ss (ss (ss (sn))))))) (wn rfl) rfl (y_load_at (n := i_6.toNat * 1) (j := 0) 4 Try.isAgg34 rfl rfl rfl) ?_
    refine any_all [8] (by kernel_rfl) rfl (anyo_cons ?_ anyo_nil)
    obtain ⟨r16, hr17, h⟩ := obind_some h
    refine any_t rfl (wn rfl) rfl (t_callx (vs := [g13, g15]) (cs := []) [(3, 0), (5, 0)] rfl Try.call20 rfl (ref09_Same_ok n x12 x14 g13 g15 hr17) (showsX_view 3 rfl views_ro (showsX_view 5 rfl views_ro showsX_nil)) rfl (.inl rfl)) ?_
    rintro _ _ ⟨_, ⟨rfl, rfl⟩, rfl⟩
    refine ⟨(ss (ss (ss (ss (ss (ss (sn))))))), ?_⟩
    refine any_y 9 rfl (by kernel_rfl) (by kernel_rfl) (by kernel_rfl) (ss (ss (ss (ss (ss (ss (sn))))))) (wn rfl) rfl (y_not rfl) ?_
    refine any_nil (by kernel_rfl) ?_
    refine goes_code ?_
    refine run_cond (!r16) rfl (fun hc18 => ?_) (fun hc18 => ?_)
    ·replace h := cond_t h hc18
     refine run_seq ?_
     refine run_weak [] [] [] vnil (by decide) rfl ?_
     refine run_region' ?_
     refine oy rfl rfl (y_assign rfl) ?_
     refine ops_nil ?_
     refine goes_code ?_
     refine run_ret ?_
     obtain rfl := some_eq h
     obtain rfl := hstop9 _ rfl
     skip
     obtain rfl := after_stop ho3
     refine fin_slots [4] [.bool false] [] [] Try.results19 rfl (by decide) rfl ?_
     exact ⟨rfl, rfl⟩
    ·replace h := cond_f h hc18
     refine run_skip ?_
     refine goes_blk ?_
     refine goes_code ?_
     refine run_weak [(0, a_0v), (1, b_1v), (5, .int .i64 i_6)] [0, 1] [nro a_0v NC_L_int_34 a_0, nro b_1v NC_L_int_34 b_1] (qv3 rfl rfl rfl) (by decide) rfl ?_
     refine run_region' ?_
     refine oy rfl rfl (y_move rfl) ?_
     refine oy rfl rfl (y_add rfl rfl) ?_
     refine oy rfl rfl (y_assign rfl) ?_
     refine ops_nil ?_
     obtain rfl := some_eq h
     exact goes_iter hgo8 (IntKind.i64.wrap (i_6 + 1)) () [0, 1] rfl (qv3 rfl rfl rfl) (by decide) rfl
   ·replace h := cond_f h hc11
    refine run_exit _ rfl ?_
    obtain rfl := some_eq h
    obtain rfl := hstop9 _ rfl
    exact goes_cut hL4 ((), ()) [] vnil (by decide) rfl rfl
  rintro ⟨_, _⟩ hj
  obtain rfl : o2 = _ := hj
  replace h := after_go ho3
  clear ho3
  change Run _ _ _ (VF.of []) []
  refine run_seq ?_
  refine run_region' ?_
  refine oy rfl rfl (y_assign rfl) ?_
  refine ops_nil ?_
  refine goes_code ?_
  refine run_ret ?_
  obtain rfl := some_eq h
  refine fin_slots [4] [.bool true] [] [] Try.results19 rfl (by decide) rfl ?_
  exact ⟨rfl, rfl⟩

def graph_isCycle_L1 (n_0 : S_api_Net) (l_1 : (List Int)) (can_2 : (List Bool)) : (Int × Int × (List (Int × Bool))) → Option (Lp (Int × Int × (List (Int × Bool))) (Lp (Int) (Bool))) :=
 fun (sum_8, s_9, x_10) =>
  cond (decide (s_9 < (l_1.length : Int)))
   (idx l_1 s_9 fun x16 =>
   bindJ (S := Bool)
    (cond (decide (x16 < 0) || decide ((n_0.Arcs.length : Int) ≤ x16))
     (some (.go true))
     (idx n_0.Arcs x16 fun x26 =>
     some (.go ((mget x_10 x26.From).getD false))))
   (fun b20 =>
    bindJ (S := Bool)
     (cond b20
      (some (.go true))
      (idx n_0.Arcs x16 fun x33 =>
      idx can_2 x33.From fun x34 =>
      some (.go (!x34))))
    (fun b27 =>
     cond b27
      (some (.stop (.stop false)))
      (idx n_0.Arcs x16 fun x36 =>
      some (.go ((IntKind.i64.wrap (sum_8 + x36.Cost)), (IntKind.i64.wrap (s_9 + 1)), (mput x_10 x36.From true)))))))
   (some (.stop (.go sum_8)))
def graph_isCycle_L2 (n_0 : S_api_Net) (l_1 : (List Int)) : (Int) → Option (Lp (Int) (Lp (Unit) (Bool))) :=
 fun s_41 =>
  cond (decide (s_41 < (l_1.length : Int)))
   (idx l_1 s_41 fun x47 =>
   idx n_0.Arcs x47 fun x48 =>
   need ((l_1.length : Int) ≠ 0) (
   idx l_1 ((IntKind.i64.wrap (s_41 + 1)).tmod (l_1.length : Int)) fun x50 =>
   idx n_0.Arcs x50 fun x51 =>
   cond (decide (x48.To ≠ x51.From))
    (some (.stop (.stop false)))
    (some (.go (IntKind.i64.wrap (s_41 + 1))))))
   (some (.stop (.go ())))
def graph_isCycle (n : Nat) (n_0 : S_api_Net) (l_1 : (List Int)) (can_2 : (List Bool)) : Option (Bool) :=
 bindJ (S := Int)
  (iter (graph_isCycle_L1 n_0 l_1 can_2) n (0, 0, ([] : (List (Int × Bool)))))
 (fun sum_3 =>
  bindJ (S := Unit)
   (iter (graph_isCycle_L2 n_0 l_1) n 0)
  (fun _ =>
   some (decide (sum_3 < 0))))
theorem graph_isCycle_ok (n : Nat) (n_0 : S_api_Net) (l_1 : (List Int)) (can_2 : (List Bool)) (n_0_Arcsv : Value) (l_1v : Value) (can_2v : Value) {r : Bool} (h : graph_isCycle n n_0 l_1 can_2 = some r) :
  Meets Try.prog 51 [.agg #[.int .i64 n_0.Nodes, n_0_Arcsv], l_1v, can_2v] [ro n_0_Arcsv 4 (n_0.Arcs.map S_api_Arc.enc), ro l_1v 1 (l_1.map (eInt .i64)), ro can_2v 1 (can_2.map eBool)] (fun v G => v = .bool r ∧ G = []) := by
 refine fn_of_run Try.func51 rfl Try.ntmps51 rfl (fun w0 o0 => ?_)
 refine run_seq ?_
 refine run_region' ?_
 refine ot rfl rfl (t_box rfl) ?_
 rintro _ _ ⟨b1, rfl, rfl⟩
 refine oy rfl rfl (y_assign rfl) ?_
 refine ops_nil ?_
 refine goes_code ?_
 refine run_seq ?_
 refine run_region' ?_
 refine ot rfl rfl (t_makeMap) ?_
 rintro _ _ ⟨b2, rfl, rfl⟩
 refine ops_turn (retell 4 (g := mapis b2 (mcells (fun n : Int => Value.int .i64 n) (fun b : Bool => Value.bool b) ([] : (List (Int × Bool))))) rfl rfl) ?_
 refine oy rfl rfl (y_assign rfl) ?_
 refine ops_nil ?_
 refine goes_code ?_
 refine run_seq ?_
 refine run_region' ?_
 refine oy rfl rfl (y_assign rfl) ?_
 refine ops_nil ?_
 refine goes_code ?_
 obtain ⟨o4, h, ho5⟩ := bindJ_some h
 refine run_cut ((Int) × (Unit)) (fun σ => [(1, l_1v), (3, boxP b1 0), (8, .int .i64 σ.1)]) (fun σ => [ro l_1v 1 (l_1.map (eInt .i64)), box b1 [.int .i64 n_0.Nodes, n_0_Arcsv], ro n_0_Arcsv 4 (n_0.Arcs.map S_api_Arc.enc)]) (fun σ => o4 = .go σ.1) (fun L7 hL6 => ?_) ?_
 ·
  refine run_seq ?_
  refine run_region' ?_
  refine oy rfl rfl (y_move rfl) ?_
  refine oy rfl rfl ((y_len 1 rfl Try.runUnderlying34 rfl rfl reads_ro).to (v_len (eInt .i64) _)) ?_
  refine oy rfl rfl (y_move rfl) ?_
  refine ops_nil ?_
  refine goes_code ?_
  refine run_block ?_
  refine run_iter (step := graph_isCycle_L1 n_0 l_1 can_2) (n := n) (s0 := (0, 0, ([] : (List (Int × Bool))))) h (G := Unit) () (fun σ γ => [(1, l_1v), (2, can_2v), (3, boxP b1 0), (7, .map (some b2)), (8, .int .i64 σ.1), (14, l_1v), (15, .int .i64 (l_1.length : Int)), (16, .int .i64 σ.2.1)]) (fun σ γ => [ro l_1v 1 (l_1.map (eInt .i64)), ro can_2v 1 (can_2.map eBool), box b1 [.int .i64 n_0.Nodes, n_0_Arcsv], ro n_0_Arcsv 4 (n_0.Arcs.map S_api_Arc.enc), mapis b2 (mcells (fun n : Int => Value.int .i64 n) (fun b : Bool => Value.bool b) σ.2.2)]) [1, 2, 3, 0, 4] (qv8 rfl rfl rfl rfl rfl rfl rfl rfl) (by decide) rfl ?_
  rintro ⟨sum_8, s_9, x_10⟩ _ o11 h L14 hgo12 hstop13
  change Run _ _ _ (VF.of [(1, l_1v), (2, can_2v), (3, boxP b1 0), (7, .map (some b2)), (8, .int .i64 sum_8), (14, l_1v), (15, .int .i64 (l_1.length : Int)), (16, .int .i64 s_9)]) [ro l_1v 1 (l_1.map (eInt .i64)), ro can_2v 1 (can_2.map eBool), box b1 [.int .i64 n_0.Nodes, n_0_Arcsv], ro n_0_Arcsv 4 (n_0.Arcs.map S_api_Arc.enc), mapis b2 (mcells (fun n : Int => Value.int .i64 n) (fun b : Bool => Value.bool b) x_10)]
  refine run_seq ?_
  refine run_region' ?_
  refine oy rfl rfl (y_lss rfl rfl) ?_
  refine ops_nil ?_
  refine goes_code ?_
  refine run_seq ?_
  refine run_cond (decide (s_9 < (l_1.length : Int))) rfl (fun hc15 => ?_) (fun hc15 => ?_)
  ·replace h := cond_t h hc15
   refine run_skip ?_
   refine goes_code ?_
   refine run_seq ?_
   refine run_block ?_
   refine run_seq ?_
   refine run_region' ?_
   obtain ⟨x16, hzx16, hlx16, hxx16, h⟩ := idx_some h
   refine oy rfl rfl (y_indexAddrI (kd := .i64) (i := s_9) 0 Try.runUnderlying34 Try.sizeOf3 rfl rfl rfl reads_ro hzx16 (map_lt hlx16)) ?_
   refine oy rfl rfl (y_load_elem (i := s_9.toNat) 0 Try.isAgg3 rfl rfl reads_ro (map_get hxx16)) ?_
   refine oy rfl rfl (y_assign rfl) ?_
   refine ops_nil ?_
   refine goes_code ?_
   refine run_seq ?_
   refine run_seq ?_
   refine run_region' ?_
   refine oy rfl rfl (y_move rfl) ?_
   refine oy rfl rfl (y_lss rfl rfl) ?_
   refine oy rfl rfl (y_move rfl) ?_
   refine ops_cut 6 (Bool) (fun σ => [(1, l_1v), (2, can_2v), (3, boxP b1 0), (7, .map (some b2)), (8, .int .i64 sum_8), (14, l_1v), (15, .int .i64 (l_1.length : Int)), (16, .int .i64 s_9), (10, .int .i64 x16), (28, .bool σ)]) (fun σ => [ro l_1v 1 (l_1.map (eInt .i64)), ro can_2v 1 (can_2.map eBool), box b1 [.int .i64 n_0.Nodes, n_0_Arcsv], ro n_0_Arcsv 4 (n_0.Arcs.map S_api_Arc.enc), mapis b2 (mcells (fun n : Int => Value.int .i64 n) (fun b : Bool => Value.bool b) x_10)]) (fun σ => σ = (decide (x16 < 0) || decide ((n_0.Arcs.length : Int) ≤ x16))) (fun L17 hL18 => ?_) ?_
   ·refine ops_split 22 (decide (x16 < 0)) rfl (fun hg19 => ?_) (fun hg19 => ?_)
    ·skip
     refine ops_no 2 false 22 rfl rfl rfl rfl rfl ?_
     refine ops_no 2 false 22 rfl rfl rfl rfl rfl ?_
     refine ops_no 2 false 22 rfl rfl rfl rfl rfl ?_
     refine ops_no 2 false 22 rfl rfl rfl rfl rfl ?_
     refine ops_no 2 false 22 rfl rfl rfl rfl rfl ?_
     refine oy rfl rfl (y_pick (b := true) rfl rfl) ?_
     refine ops_nil ?_
     exact goes_cut hL18 true [0, 1, 2, 3, 4] (qv10 rfl rfl rfl rfl rfl rfl rfl rfl rfl rfl) (by decide) rfl (by rw [hg19]; simp)
    ·skip
     refine ops_y (wg 2 false 22 rfl rfl rfl rfl) rfl (y_move rfl) ?_
     refine ops_y (wg 2 false 22 rfl rfl rfl rfl) rfl (y_fieldAddr_box (sz := 0) Try.runUnderlying24 rfl Try.sizeOf22 rfl) ?_
     refine ops_y (wg 2 false 22 rfl rfl rfl rfl) rfl (y_load_box 2 Try.isAgg22 rfl rfl rfl) ?_
     refine ops_y (wg 2 false 22 rfl rfl rfl rfl) rfl ((y_len 3 rfl Try.runUnderlying22 rfl rfl reads_ro).to (v_len S_api_Arc.enc _)) ?_
     refine ops_y (wg 2 false 22 rfl rfl rfl rfl) rfl (y_geq rfl rfl) ?_
     refine oy rfl rfl (y_pick (b := false) rfl rfl) ?_
     refine ops_nil ?_
     exact goes_cut hL18 (decide ((n_0.Arcs.length : Int) ≤ x16)) [0, 1, 2, 3, 4] (qv10 rfl rfl rfl rfl rfl rfl rfl rfl rfl rfl) (by decide) rfl (by rw [hg19]; simp)
   rintro _ rfl
   refine oy rfl rfl (y_move rfl) ?_
   obtain ⟨o21, h, ho22⟩ := bindJ_some h
   refine ops_cut 9 (Bool) (fun σ => [(1, l_1v), (2, can_2v), (3, boxP b1 0), (7, .map (some b2)), (8, .int .i64 sum_8), (14, l_1v), (15, .int .i64 (l_1.length : Int)), (16, .int .i64 s_9), (10, .int .i64 x16), (38, .bool σ)]) (fun σ => [ro l_1v 1 (l_1.map (eInt .i64)), ro can_2v 1 (can_2.map eBool), box b1 [.int .i64 n_0.Nodes, n_0_Arcsv], ro n_0_Arcsv 4 (n_0.Arcs.map S_api_Arc.enc), mapis b2 (mcells (fun n : Int => Value.int .i64 n) (fun b : Bool => Value.bool b) x_10)]) (fun σ => o21 = .go σ) (fun L23 hL24 => ?_) ?_
   ·refine ops_split 29 (decide (x16 < 0) || decide ((n_0.Arcs.length : Int) ≤ x16)) rfl (fun hg25 => ?_) (fun hg25 => ?_)
    ·replace h := cond_t h hg25
     refine ops_no 9 false 29 rfl rfl rfl rfl rfl ?_
     refine ops_no 9 false 29 rfl rfl rfl rfl rfl ?_
     refine ops_no 9 false 29 rfl rfl rfl rfl rfl ?_
     refine ops_no 9 false 29 rfl rfl rfl rfl rfl ?_
     refine ops_no 9 false 29 rfl rfl rfl rfl rfl ?_
     refine ops_no 9 false 29 rfl rfl rfl rfl rfl ?_
     refine ops_no 9 false 29 rfl rfl rfl rfl rfl ?_
     refine ops_no 9 false 29 rfl rfl rfl rfl rfl ?_
     refine oy rfl rfl (y_pick (b := true) rfl rfl) ?_
     refine ops_nil ?_
     obtain rfl := some_eq h
     exact goes_cut hL24 true [0, 1, 2, 3, 4] (qv10 rfl rfl rfl rfl rfl rfl rfl rfl rfl rfl) (by decide) rfl rfl
    ·replace h := cond_f h hg25
     refine ops_y (wg 9 false 29 rfl rfl rfl rfl) rfl (y_move rfl) ?_
     refine ops_y (wg 9 false 29 rfl rfl rfl rfl) rfl (y_fieldAddr_box (sz := 0) Try.runUnderlying24 rfl Try.sizeOf22 rfl) ?_
     refine ops_y (wg 9 false 29 rfl rfl rfl rfl) rfl (y_load_box 2 Try.isAgg22 rfl rfl rfl) ?_
     refine ops_y (wg 9 false 29 rfl rfl rfl rfl) rfl (y_move rfl) ?_
     obtain ⟨x26, hzx26, hlx26, hxx26, h⟩ := idx_some h
     refine ops_y (wg 9 false 29 rfl rfl rfl rfl) rfl (y_indexAddrI (kd := .i64) (i := x16) 3 Try.runUnderlying22 Try.sizeOf67 rfl rfl rfl reads_ro hzx26 (map_lt hlx26)) ?_
     refine ops_y (wg 9 false 29 rfl rfl rfl rfl) rfl (y_fieldAddr_elem (sz := 0) Try.runUnderlying67 rfl Try.sizeOf3 rfl) ?_
     refine ops_y (wg 9 false 29 rfl rfl rfl rfl) rfl (y_load_field (i := x16.toNat) (j := 0) 3 Try.isAgg3 rfl rfl reads_ro (map_get hxx26) rfl) ?_
     refine ops_y (wg 9 false 29 rfl rfl rfl rfl) rfl (y_lookup (k := x26.From) (d0 := false) 4 (key_int .i64) Try.runUnderlying119 Try.runUnderlying3 Try.zeroValue4 rfl rfl rfl) ?_
     refine oy rfl rfl (y_pick (b := false) rfl rfl) ?_
     refine ops_nil ?_
     obtain rfl := some_eq h
     exact goes_cut hL24 ((mget x_10 x26.From).getD false) [0, 1, 2, 3, 4] (qv10 rfl rfl rfl rfl rfl rfl rfl rfl rfl rfl) (by decide) rfl rfl
   rintro b20 hj
   obtain rfl : o21 = _ := hj
   replace h := after_go ho22
   clear ho22
   refine oy rfl rfl (y_move rfl) ?_
   obtain ⟨o28, h, ho29⟩ := bindJ_some h
   refine ops_cut 11 (Bool) (fun σ => [(1, l_1v), (2, can_2v), (3, boxP b1 0), (7, .map (some b2)), (8, .int .i64 sum_8), (14, l_1v), (15, .int .i64 (l_1.length : Int)), (16, .int .i64 s_9), (10, .int .i64 x16), (50, .bool σ)]) (fun σ => [ro l_1v 1 (l_1.map (eInt .i64)), ro can_2v 1 (can_2.map eBool), box b1 [.int .i64 n_0.Nodes, n_0_Arcsv], ro n_0_Arcsv 4 (n_0.Arcs.map S_api_Arc.enc), mapis b2 (mcells (fun n : Int => Value.int .i64 n) (fun b : Bool => Value.bool b) x_10)]) (fun σ => o28 = .go σ) (fun L30 hL31 => ?_) ?_
   ·refine ops_split 39 b20 rfl (fun hg32 => ?_) (fun hg32 => ?_)
    ·replace h := cond_t h hg32
     refine ops_no 19 false 39 rfl rfl rfl rfl rfl ?_
     refine ops_no 19 false 39 rfl rfl rfl rfl rfl ?_
     refine ops_no 19 false 39 rfl rfl rfl rfl rfl ?_
     refine ops_no 19 false 39 rfl rfl rfl rfl rfl ?_
     refine ops_no 19 false 39 rfl rfl rfl rfl rfl ?_
     refine ops_no 19 false 39 rfl rfl rfl rfl rfl ?_
     refine ops_no 19 false 39 rfl rfl rfl rfl rfl ?_
     refine ops_no 19 false 39 rfl rfl rfl rfl rfl ?_
     refine ops_no 19 false 39 rfl rfl rfl rfl rfl ?_
     refine ops_no 19 false 39 rfl rfl rfl rfl rfl ?_
     refine oy rfl rfl (y_pick (b := true) rfl rfl) ?_
     refine ops_nil ?_
     obtain rfl := some_eq h
     exact goes_cut hL31 true [0, 1, 2, 3, 4] (qv10 rfl rfl rfl rfl rfl rfl rfl rfl rfl rfl) (by decide) rfl rfl
    ·replace h := cond_f h hg32
     refine ops_y (wg 19 false 39 rfl rfl rfl rfl) rfl (y_move rfl) ?_
     refine ops_y (wg 19 false 39 rfl rfl rfl rfl) rfl (y_fieldAddr_box (sz := 0) Try.runUnderlying24 rfl Try.sizeOf22 rfl) ?_
     refine ops_y (wg 19 false 39 rfl rfl rfl rfl) rfl (y_load_box 2 Try.isAgg22 rfl rfl rfl) ?_
     refine ops_y (wg 19 false 39 rfl rfl rfl rfl) rfl (y_move rfl) ?_
     obtain ⟨x33, hzx33, hlx33, hxx33, h⟩ := idx_some h
     refine ops_y (wg 19 false 39 rfl rfl rfl rfl) rfl (y_indexAddrI (kd := .i64) (i := x16) 3 Try.runUnderlying22 Try.sizeOf67 rfl rfl rfl reads_ro hzx33 (map_lt hlx33)) ?_
     refine ops_y (wg 19 false 39 rfl rfl rfl rfl) rfl (y_fieldAddr_elem (sz := 0) Try.runUnderlying67 rfl Try.sizeOf3 rfl) ?_
     refine ops_y (wg 19 false 39 rfl rfl rfl rfl) rfl (y_load_field (i := x16.toNat) (j := 0) 3 Try.isAgg3 rfl rfl reads_ro (map_get hxx33) rfl) ?_
     obtain ⟨x34, hzx34, hlx34, hxx34, h⟩ := idx_some h
     refine ops_y (wg 19 false 39 rfl rfl rfl rfl) rfl (y_indexAddrI (kd := .i64) (i := x33.From) 1 Try.runUnderlying27 Try.sizeOf4 rfl rfl rfl reads_ro hzx34 (map_lt hlx34)) ?_
     refine ops_y (wg 19 false 39 rfl rfl rfl rfl) rfl (y_load_elem (i := (x33.From).toNat) 1 Try.isAgg4 rfl rfl reads_ro (map_get hxx34)) ?_
     refine ops_y (wg 19 false 39 rfl rfl rfl rfl) rfl (y_not rfl) ?_
     refine oy rfl rfl (y_pick (b := false) rfl rfl) ?_
     refine ops_nil ?_
     obtain rfl := some_eq h
     exact goes_cut hL31 (!x34) [0, 1, 2, 3, 4] (qv10 rfl rfl rfl rfl rfl rfl rfl rfl rfl rfl) (by decide) rfl rfl
   rintro b27 hj
   obtain rfl : o28 = _ := hj
   replace h := after_go ho29
   clear ho29
   refine ops_nil ?_
   refine goes_code ?_
   refine run_cond b27 rfl (fun hc35 => ?_) (fun hc35 => ?_)
   ·replace h := cond_t h hc35
    refine run_seq ?_
    refine run_region' ?_
    refine oy rfl rfl (y_assign rfl) ?_
    refine ops_nil ?_
    refine goes_code ?_
    refine run_ret ?_
    obtain rfl := some_eq h
    obtain rfl := hstop13 _ rfl
    skip
    obtain rfl := after_stop ho5
    refine fin_slots [6] [.bool false] [] [] Try.results51 rfl (by decide) rfl ?_
    exact ⟨rfl, rfl⟩
   ·replace h := cond_f h hc35
    refine run_skip ?_
    refine goes_code ?_
    refine run_seq ?_
    refine run_region' ?_
    refine oy rfl rfl (y_move rfl) ?_
    refine oy rfl rfl (y_fieldAddr_box (sz := 0) Try.runUnderlying24 rfl Try.sizeOf22 rfl) ?_
    refine oy rfl rfl (y_load_box 2 Try.isAgg22 rfl rfl rfl) ?_
    refine oy rfl rfl (y_move rfl) ?_
    obtain ⟨x36, hzx36, hlx36, hxx36, h⟩ := idx_some h
    refine oy rfl rfl (y_indexAddrI (kd := .i64) (i := x16) 3 Try.runUnderlying22 Try.sizeOf67 rfl rfl rfl reads_ro hzx36 (map_lt hlx36)) ?_
    refine oy rfl rfl (y_fieldAddr_elem (sz := 0) Try.runUnderlying67 rfl Try.sizeOf3 rfl) ?_
    refine oy rfl rfl (y_load_field (i := x16.toNat) (j := 0) 3 Try.isAgg3 rfl rfl reads_ro (map_get hxx36) rfl) ?_
    refine ot rfl rfl (t_mapUpdate (k := x36.From) (v := true) 4 (key_int .i64) Try.runUnderlying119 Try.runUnderlying3 rfl rfl rfl rfl false) ?_
    rintro _ _ ⟨rfl, rfl⟩
    refine ops_nil ?_
    refine goes_code ?_
    refine run_weak [(1, l_1v), (2, can_2v), (3, boxP b1 0), (7, .map (some b2)), (8, .int .i64 sum_8), (14, l_1v), (15, .int .i64 (l_1.length : Int)), (16, .int .i64 s_9), (10, .int .i64 x16)] [0, 1, 2, 3, 4] [ro l_1v 1 (l_1.map (eInt .i64)), ro can_2v 1 (can_2.map eBool), box b1 [.int .i64 n_0.Nodes, n_0_Arcsv], ro n_0_Arcsv 4 (n_0.Arcs.map S_api_Arc.enc), mapis b2 (mcells (fun n : Int => Value.int .i64 n) (fun b : Bool => Value.bool b) (mput x_10 x36.From true))] (qv9 rfl rfl rfl rfl rfl rfl rfl rfl rfl) (by decide) rfl ?_
    refine run_region' ?_
    refine oy rfl rfl (y_move rfl) ?_
    refine oy rfl rfl (y_fieldAddr_box (sz := 0) Try.runUnderlying24 rfl Try.sizeOf22 rfl) ?_
    refine oy rfl rfl (y_load_box 2 Try.isAgg22 rfl rfl rfl) ?_
    refine oy rfl rfl (y_move rfl) ?_
    refine oy rfl rfl (y_indexAddrI (kd := .i64) (i := x16) 3 Try.runUnderlying22 Try.sizeOf67 rfl rfl rfl reads_ro hzx36 (map_lt hlx36)) ?_
    refine oy rfl rfl (y_fieldAddr_elem (sz := 0) Try.runUnderlying67 rfl Try.sizeOf3 rfl) ?_
    refine oy rfl rfl (y_load_field (i := x16.toNat) (j := 3) 3 Try.isAgg3 rfl rfl reads_ro (map_get hxx36) rfl) ?_
    refine oy rfl rfl (y_add rfl rfl) ?_
    refine oy rfl rfl (y_assign rfl) ?_
    refine ops_nil ?_
    refine goes_blk ?_
    refine goes_code ?_
    refine run_weak [(1, l_1v), (2, can_2v), (3, boxP b1 0), (7, .map (some b2)), (8, .int .i64 (IntKind.i64.wrap (sum_8 + x36.Cost))), (14, l_1v), (15, .int .i64 (l_1.length : Int)), (16, .int .i64 s_9)] [0, 1, 2, 3, 4] [ro l_1v 1 (l_1.map (eInt .i64)), ro can_2v 1 (can_2.map eBool), box b1 [.int .i64 n_0.Nodes, n_0_Arcsv], ro n_0_Arcsv 4 (n_0.Arcs.map S_api_Arc.enc), mapis b2 (mcells (fun n : Int => Value.int .i64 n) (fun b : Bool => Value.bool b) (mput x_10 x36.From true))] (qv8 rfl rfl rfl rfl rfl rfl rfl rfl) (by decide) rfl ?_
    refine run_region' ?_
    refine oy rfl rfl (y_add rfl rfl) ?_
    refine oy rfl rfl (y_move rfl) ?_
    refine ops_nil ?_
    obtain rfl := some_eq h
    exact goes_iter hgo12 ((IntKind.i64.wrap (sum_8 + x36.Cost)), (IntKind.i64.wrap (s_9 + 1)), (mput x_10 x36.From true)) () [0, 1, 2, 3, 4] rfl (qv8 rfl rfl rfl rfl rfl rfl rfl rfl) (by decide) rfl
  ·replace h := cond_f h hc15
   refine run_exit _ rfl ?_
   obtain rfl := some_eq h
   obtain rfl := hstop13 _ rfl
   exact goes_cut hL6 (sum_8, ()) [0, 2, 3] (qv3 rfl rfl rfl) (by decide) rfl rfl
 rintro ⟨sum_3, _⟩ hj
 obtain rfl : o4 = _ := hj
 replace h := after_go ho5
 clear ho5
 change Run _ _ _ (VF.of [(1, l_1v), (3, boxP b1 0), (8, .int .i64 sum_3)]) [ro l_1v 1 (l_1.map (eInt .i64)), box b1 [.int .i64 n_0.Nodes, n_0_Arcsv], ro n_0_Arcsv 4 (n_0.Arcs.map S_api_Arc.enc)]
 obtain ⟨o37, h, ho38⟩ := bindJ_some h
 refine run_cut ((Unit) × (Unit)) (fun σ => [(8, .int .i64 sum_3)]) (fun σ => []) (fun σ => o37 = .go σ.1) (fun L40 hL39 => ?_) ?_
 ·
  refine run_seq ?_
  refine run_region' ?_
  refine oy rfl rfl (y_move rfl) ?_
  refine oy rfl rfl ((y_len 0 rfl Try.runUnderlying34 rfl rfl reads_ro).to (v_len (eInt .i64) _)) ?_
  refine oy rfl rfl (y_move rfl) ?_
  refine ops_nil ?_
  refine goes_code ?_
  refine run_block ?_
  refine run_iter (step := graph_isCycle_L2 n_0 l_1) (n := n) (s0 := 0) h (G := Unit) () (fun σ γ => [(1, l_1v), (3, boxP b1 0), (8, .int .i64 sum_3), (67, l_1v), (68, .int .i64 (l_1.length : Int)), (69, .int .i64 σ)]) (fun σ γ => [ro l_1v 1 (l_1.map (eInt .i64)), box b1 [.int .i64 n_0.Nodes, n_0_Arcsv], ro n_0_Arcsv 4 (n_0.Arcs.map S_api_Arc.enc)]) [0, 1, 2] (qv6 rfl rfl rfl rfl rfl rfl) (by decide) rfl ?_
  rintro s_41 _ o42 h L45 hgo43 hstop44
  change Run _ _ _ (VF.of [(1, l_1v), (3, boxP b1 0), (8, .int .i64 sum_3), (67, l_1v), (68, .int .i64 (l_1.length : Int)), (69, .int .i64 s_41)]) [ro l_1v 1 (l_1.map (eInt .i64)), box b1 [.int .i64 n_0.Nodes, n_0_Arcsv], ro n_0_Arcsv 4 (n_0.Arcs.map S_api_Arc.enc)]
  refine run_seq ?_
  refine run_region' ?_
  refine oy rfl rfl (y_lss rfl rfl) ?_
  refine ops_nil ?_
  refine goes_code ?_
  refine run_seq ?_
  refine run_cond (decide (s_41 < (l_1.length : Int))) rfl (fun hc46 => ?_) (fun hc46 => ?_)
  ·replace h := cond_t h hc46
   refine run_skip ?_
   refine goes_code ?_
   refine run_seq ?_
   refine run_block ?_
   refine run_seq ?_
   refine run_region' ?_
   refine oy rfl rfl (y_move rfl) ?_
   obtain ⟨x47, hzx47, hlx47, hxx47, h⟩ := idx_some h
   refine oy rfl rfl (y_indexAddrI (kd := .i64) (i := s_41) 0 Try.runUnderlying34 Try.sizeOf3 rfl rfl rfl reads_ro hzx47 (map_lt hlx47)) ?_
   refine oy rfl rfl (y_load_elem (i := s_41.toNat) 0 Try.isAgg3 rfl rfl reads_ro (map_get hxx47)) ?_
   refine oy rfl rfl (y_assign rfl) ?_
   refine oy rfl rfl (y_assign rfl) ?_
   refine ops_nil ?_
   refine goes_code ?_
   refine run_seq ?_
   refine run_draw (by kernel_rfl) (by kernel_rfl) ?_
   refine sy rfl rfl (y_fieldAddr_box (sz := 0) Try.runUnderlying24 rfl Try.sizeOf22 rfl) ?_
   refine sy rfl rfl (y_load_box 1 Try.isAgg22 rfl rfl rfl) ?_
   refine sy rfl rfl (y_move rfl) ?_
   obtain ⟨x48, hzx48, hlx48, hxx48, h⟩ := idx_some h
   refine sy rfl rfl (y_indexAddrI (kd := .i64) (i := x47) 2 Try.runUnderlying22 Try.sizeOf67 rfl rfl rfl reads_ro hzx48 (map_lt hlx48)) ?_
   refine sy rfl rfl (y_fieldAddr_elem (sz := 0) Try.runUnderlying67 rfl Try.sizeOf3 rfl) ?_
   refine sy rfl rfl (y_load_field (i := x47.toNat) (j := 1) 2 Try.isAgg3 rfl rfl reads_ro (map_get hxx48) rfl) ?_
   refine sy rfl rfl (y_fieldAddr_box (sz := 0) Try.runUnderlying24 rfl Try.sizeOf22 rfl) ?_
   refine sy rfl rfl (y_load_box 1 Try.isAgg22 rfl rfl rfl) ?_
   refine sy rfl rfl (y_move rfl) ?_
   refine sy rfl rfl (y_move rfl) ?_
   refine sy rfl rfl (y_add rfl rfl) ?_
   refine sy rfl rfl (y_move rfl) ?_
   refine sy rfl rfl ((y_len 0 rfl Try.runUnderlying34 rfl rfl reads_ro).to (v_len (eInt .i64) _)) ?_
   obtain ⟨hd49, h⟩ := need_some h
   refine sy rfl rfl (y_rem rfl rfl hd49) ?_
   obtain ⟨x50, hzx50, hlx50, hxx50, h⟩ := idx_some h
   refine sy rfl rfl (y_indexAddrI (kd := .i64) (i := ((IntKind.i64.wrap (s_41 + 1)).tmod (l_1.length : Int))) 0 Try.runUnderlying34 Try.sizeOf3 rfl rfl rfl reads_ro hzx50 (map_lt hlx50)) ?_
   refine sy rfl rfl (y_load_elem (i := (((IntKind.i64.wrap (s_41 + 1)).tmod (l_1.length : Int))).toNat) 0 Try.isAgg3 rfl rfl reads_ro (map_get hxx50)) ?_
   obtain ⟨x51, hzx51, hlx51, hxx51, h⟩ := idx_some h
   refine sy rfl rfl (y_indexAddrI (kd := .i64) (i := x50) 2 Try.runUnderlying22 Try.sizeOf67 rfl rfl rfl reads_ro hzx51 (map_lt hlx51)) ?_
   refine sy rfl rfl (y_fieldAddr_elem (sz := 0) Try.runUnderlying67 rfl Try.sizeOf3 rfl) ?_
   refine sy rfl rfl (y_load_field (i := x50.toNat) (j := 0) 2 Try.isAgg3 rfl rfl reads_ro (map_get hxx51) rfl) ?_
   refine sy rfl rfl (y_neq rfl rfl) ?_
   refine still_nil ?_
   refine goes_code ?_
   refine run_cond (decide (x48.To ≠ x51.From)) rfl (fun hc52 => ?_) (fun hc52 => ?_)
   ·replace h := cond_t h hc52
    refine run_seq ?_
    refine run_weak [] [] [] vnil (by decide) rfl ?_
    refine run_region' ?_
    refine oy rfl rfl (y_assign rfl) ?_
    refine ops_nil ?_
    refine goes_code ?_
    refine run_ret ?_
    obtain rfl := some_eq h
    obtain rfl := hstop44 _ rfl
    skip
    obtain rfl := after_stop ho38
    refine fin_slots [6] [.bool false] [] [] Try.results51 rfl (by decide) rfl ?_
    exact ⟨rfl, rfl⟩
   ·replace h := cond_f h hc52
    refine run_skip ?_
    refine goes_blk ?_
    refine goes_code ?_
    refine run_weak [(1, l_1v), (3, boxP b1 0), (8, .int .i64 sum_3), (67, l_1v), (68, .int .i64 (l_1.length : Int)), (69, .int .i64 s_41)] [0, 1, 2] [ro l_1v 1 (l_1.map (eInt .i64)), box b1 [.int .i64 n_0.Nodes, n_0_Arcsv], ro n_0_Arcsv 4 (n_0.Arcs.map S_api_Arc.enc)] (qv6 rfl rfl rfl rfl rfl rfl) (by decide) rfl ?_
    refine run_region' ?_
    refine oy rfl rfl (y_add rfl rfl) ?_
    refine oy rfl rfl (y_move rfl) ?_
    refine ops_nil ?_
    obtain rfl := some_eq h
    exact goes_iter hgo43 (IntKind.i64.wrap (s_41 + 1)) () [0, 1, 2] rfl (qv6 rfl rfl rfl rfl rfl rfl) (by decide) rfl
  ·replace h := cond_f h hc46
   refine run_exit _ rfl ?_
   obtain rfl := some_eq h
   obtain rfl := hstop44 _ rfl
   exact goes_cut hL39 ((), ()) [] (qv1 rfl) (by decide) rfl rfl
 rintro ⟨_, _⟩ hj
 obtain rfl : o37 = _ := hj
 replace h := after_go ho38
 clear ho38
 change Run _ _ _ (VF.of [(8, .int .i64 sum_3)]) []
 refine run_seq ?_
 refine run_region' ?_
 refine oy rfl rfl (y_move rfl) ?_
 refine oy rfl rfl (y_lss rfl rfl) ?_
 refine oy rfl rfl (y_assign rfl) ?_
 refine ops_nil ?_
 refine goes_code ?_
 refine run_ret ?_
 obtain rfl := some_eq h
 refine fin_slots [6] [.bool (decide (sum_3 < 0))] [] [] Try.results51 rfl (by decide) rfl ?_
 exact ⟨rfl, rfl⟩

def graph_isTree_L1 (n_0 : S_api_Net) (from_1 : Int) (r_2 : S_api_Routes) (can_3 : (List Bool)) : (Int) → Option (Lp (Int) (Lp (Unit) (Bool))) :=
 fun s_7 =>
  cond (decide (s_7 < (r_2.Via.length : Int)))
   (bindJ (S := Unit)
    (idx r_2.Via s_7 fun x17 =>
    idx r_2.Dist s_7 fun x18 =>
    cond (((decide (1099511627776 < x18) || decide (x18 < (-1099511627776))) || decide (x17 < (-1))) || decide ((n_0.Arcs.length : Int) ≤ x17))
     (some (.stop (.stop (.stop false))))
     (cond (decide (s_7 = from_1))
      (cond (decide (x17 ≠ (-1)) || decide (x18 ≠ 0))
       (some (.stop (.stop (.stop false))))
       (some (.go ())))
      (idx can_3 s_7 fun x34 =>
      cond (!x34)
       (cond (decide (x17 ≠ (-1)) || decide (x18 ≠ 0))
        (some (.stop (.stop (.stop false))))
        (some (.go ())))
       (bindJ (S := Bool)
        (cond (decide (x17 = (-1)))
         (some (.go true))
         (idx n_0.Arcs x17 fun x46 =>
         some (.go (decide (x46.To ≠ s_7)))))
       (fun b40 =>
        bindJ (S := Bool)
         (cond b40
          (some (.go true))
          (idx n_0.Arcs x17 fun x53 =>
          idx r_2.Dist x53.From fun x54 =>
          some (.go (decide (x18 ≠ (IntKind.i64.wrap (x54 + x53.Cost)))))))
        (fun b47 =>
         cond b47
          (some (.stop (.stop (.stop false))))
          (some (.go ()))))))))
   (fun _ =>
    some (.go (IntKind.i64.wrap (s_7 + 1)))))
   (some (.stop (.go ())))
def graph_isTree_L3 (n_0 : S_api_Net) (from_1 : Int) (r_2 : S_api_Routes) (can_3 : (List Bool)) (s_60 : Int) : (Int × Int) → Option (Lp (Int × Int) (Lp (Unit) (Lp (Int) (Lp (Unit) (Bool))))) :=
 fun (w_70, steps_71) =>
  idx can_3 s_60 fun x76 =>
  cond (x76 && decide (w_70 ≠ from_1))
   (idx r_2.Via w_70 fun x81 =>
   idx n_0.Arcs x81 fun x82 =>
   bindJ (S := Bool)
    (cond (decide (n_0.Nodes < steps_71))
     (some (.go true))
     (idx can_3 x82.From fun x89 =>
     some (.go (!x89))))
   (fun b83 =>
    cond b83
     (some (.stop (.stop (.stop (.stop false)))))
     (some (.go (x82.From, (IntKind.i64.wrap (steps_71 + 1)))))))
   (some (.stop (.go ())))
def graph_isTree_L2 (n : Nat) (n_0 : S_api_Net) (from_1 : Int) (r_2 : S_api_Routes) (can_3 : (List Bool)) : (Int) → Option (Lp (Int) (Lp (Unit) (Bool))) :=
 fun s_60 =>
  cond (decide (s_60 < n_0.Nodes))
   (bindJ (S := Unit)
    (iter (graph_isTree_L3 n_0 from_1 r_2 can_3 s_60) n (s_60, 0))
   (fun _ =>
    some (.go (IntKind.i64.wrap (s_60 + 1)))))
   (some (.stop (.go ())))
def graph_isTree (n : Nat) (n_0 : S_api_Net) (from_1 : Int) (r_2 : S_api_Routes) (can_3 : (List Bool)) : Option (Bool) :=
 bindJ (S := Unit)
  (iter (graph_isTree_L1 n_0 from_1 r_2 can_3) n 0)
 (fun _ =>
  bindJ (S := Unit)
   (iter (graph_isTree_L2 n n_0 from_1 r_2 can_3) n 0)
  (fun _ =>
   some true))
theorem graph_isTree_ok (n : Nat) (n_0 : S_api_Net) (from_1 : Int) (r_2 : S_api_Routes) (can_3 : (List Bool)) (n_0_Arcsv : Value) (r_2_Distv : Value) (r_2_Viav : Value) (r_2_Cyclev : Value) (can_3v : Value) {r : Bool} (h : graph_isTree n n_0 from_1 r_2 can_3 = some r) :
  Meets Try.prog 52 [.agg #[.int .i64 n_0.Nodes, n_0_Arcsv], .int .i64 from_1, .agg #[r_2_Distv, r_2_Viav, r_2_Cyclev], can_3v] [ro n_0_Arcsv 4 (n_0.Arcs.map S_api_Arc.enc), ro r_2_Distv 1 (r_2.Dist.map (eInt .i64)), ro r_2_Viav 1 (r_2.Via.map (eInt .i64)), ro r_2_Cyclev 1 (r_2.Cycle.map (eInt .i64)), ro can_3v 1 (can_3.map eBool)] (fun v G => v = .bool r ∧ G = []) := by
 refine fn_of_run Try.func52 rfl Try.ntmps52 rfl (fun w0 o0 => ?_)
 refine run_seq ?_
 refine run_region' ?_
 refine ot rfl rfl (t_box rfl) ?_
 rintro _ _ ⟨b1, rfl, rfl⟩
 refine ot rfl rfl (t_box rfl) ?_
 rintro _ _ ⟨b2, rfl, rfl⟩
 refine oy rfl rfl (y_assign rfl) ?_
 refine ops_nil ?_
 refine goes_code ?_
 obtain ⟨o3, h, ho4⟩ := bindJ_some h
 refine run_cut ((Unit) × (Unit)) (fun σ => [(1, .int .i64 from_1), (3, can_3v), (4, boxP b1 0), (6, boxP b2 0)]) (fun σ => [ro can_3v 1 (can_3.map eBool), box b1 [.int .i64 n_0.Nodes, n_0_Arcsv], ro n_0_Arcsv 4 (n_0.Arcs.map S_api_Arc.enc), box b2 [r_2_Distv, r_2_Viav, r_2_Cyclev], ro r_2_Distv 1 (r_2.Dist.map (eInt .i64)), ro r_2_Viav 1 (r_2.Via.map (eInt .i64)), ro r_2_Cyclev 1 (r_2.Cycle.map (eInt .i64))]) (fun σ => o3 = .go σ.1) (fun L6 hL5 => ?_) ?_
 ·
  refine run_seq ?_
  refine run_region' ?_
  refine oy rfl rfl (y_fieldAddr_box (sz := 0) Try.runUnderlying51 rfl Try.sizeOf34 rfl) ?_
  refine oy rfl rfl (y_load_box 6 Try.isAgg34 rfl rfl rfl) ?_
  refine oy rfl rfl ((y_len 2 rfl Try.runUnderlying34 rfl rfl reads_ro).to (v_len (eInt .i64) _)) ?_
  refine oy rfl rfl (y_move rfl) ?_
  refine ops_nil ?_
  refine goes_code ?_
  refine run_block ?_
  refine run_iter (step := graph_isTree_L1 n_0 from_1 r_2 can_3) (n := n) (s0 := 0) h (G := Unit) () (fun σ γ => [(1, .int .i64 from_1), (3, can_3v), (4, boxP b1 0), (6, boxP b2 0), (16, r_2_Viav), (17, .int .i64 (r_2.Via.length : Int)), (18, .int .i64 σ)]) (fun σ γ => [ro can_3v 1 (can_3.map eBool), box b1 [.int .i64 n_0.Nodes, n_0_Arcsv], ro n_0_Arcsv 4 (n_0.Arcs.map S_api_Arc.enc), box b2 [r_2_Distv, r_2_Viav, r_2_Cyclev], ro r_2_Distv 1 (r_2.Dist.map (eInt .i64)), ro r_2_Viav 1 (r_2.Via.map (eInt .i64)), ro r_2_Cyclev 1 (r_2.Cycle.map (eInt .i64))]) [4, 5, 0, 6, 1, 2, 3] (qv7 rfl rfl rfl rfl rfl rfl rfl) (by decide) rfl ?_
  rintro s_7 _ o8 h L11 hgo9 hstop10
  change Run _ _ _ (VF.of [(1, .int .i64 from_1), (3, can_3v), (4, boxP b1 0), (6, boxP b2 0), (16, r_2_Viav), (17, .int .i64 (r_2.Via.length : Int)), (18, .int .i64 s_7)]) [ro can_3v 1 (can_3.map eBool), box b1 [.int .i64 n_0.Nodes, n_0_Arcsv], ro n_0_Arcsv 4 (n_0.Arcs.map S_api_Arc.enc), box b2 [r_2_Distv, r_2_Viav, r_2_Cyclev], ro r_2_Distv 1 (r_2.Dist.map (eInt .i64)), ro r_2_Viav 1 (r_2.Via.map (eInt .i64)), ro r_2_Cyclev 1 (r_2.Cycle.map (eInt .i64))]
  refine run_seq ?_
  refine run_region' ?_
  refine oy rfl rfl (y_lss rfl rfl) ?_
  refine ops_nil ?_
  refine goes_code ?_
  refine run_seq ?_
  refine run_cond (decide (s_7 < (r_2.Via.length : Int))) rfl (fun hc12 => ?_) (fun hc12 => ?_)
  ·replace h := cond_t h hc12
   refine run_skip ?_
   refine goes_code ?_
   obtain ⟨o13, h, ho14⟩ := bindJ_some h
   refine run_cut ((Unit) × (Unit)) (fun σ => [(1, .int .i64 from_1), (3, can_3v), (4, boxP b1 0), (6, boxP b2 0), (16, r_2_Viav), (17, .int .i64 (r_2.Via.length : Int)), (18, .int .i64 s_7)]) (fun σ => [ro can_3v 1 (can_3.map eBool), box b1 [.int .i64 n_0.Nodes, n_0_Arcsv], ro n_0_Arcsv 4 (n_0.Arcs.map S_api_Arc.enc), box b2 [r_2_Distv, r_2_Viav, r_2_Cyclev], ro r_2_Distv 1 (r_2.Dist.map (eInt .i64)), ro r_2_Viav 1 (r_2.Via.map (eInt .i64)), ro r_2_Cyclev 1 (r_2.Cycle.map (eInt .i64))]) (fun σ => o13 = .go σ.1) (fun L16 hL15 => ?_) ?_
   ·
    refine run_block ?_
    refine run_seq ?_
    refine run_region' ?_
    refine oy rfl rfl (y_move rfl) ?_
    obtain ⟨x17, hzx17, hlx17, hxx17, h⟩ := idx_some h
    refine oy rfl rfl (y_indexAddrI (kd := .i64) (i := s_7) 5 Try.runUnderlying34 Try.sizeOf3 rfl rfl rfl reads_ro hzx17 (map_lt hlx17)) ?_
    refine oy rfl rfl (y_load_elem (i := s_7.toNat) 5 Try.isAgg3 rfl rfl reads_ro (map_get hxx17)) ?_
    refine oy rfl rfl (y_assign rfl) ?_
    refine oy rfl rfl (y_assign rfl) ?_
    refine ops_nil ?_
    refine goes_code ?_
    refine run_seq ?_
    refine run_region' ?_
    refine oy rfl rfl (y_fieldAddr_box (sz := 0) Try.runUnderlying51 rfl Try.sizeOf34 rfl) ?_
    refine oy rfl rfl (y_load_box 3 Try.isAgg34 rfl rfl rfl) ?_
    refine oy rfl rfl (y_move rfl) ?_
    obtain ⟨x18, hzx18, hlx18, hxx18, h⟩ := idx_some h
    refine oy rfl rfl (y_indexAddrI (kd := .i64) (i := s_7) 4 Try.runUnderlying34 Try.sizeOf3 rfl rfl rfl reads_ro hzx18 (map_lt hlx18)) ?_
    refine oy rfl rfl (y_load_elem (i := s_7.toNat) 4 Try.isAgg3 rfl rfl reads_ro (map_get hxx18)) ?_
    refine oy rfl rfl (y_assign rfl) ?_
    refine ops_nil ?_
    refine goes_code ?_
    refine run_block ?_
    refine run_seq ?_
    refine run_weak [(1, .int .i64 from_1), (3, can_3v), (4, boxP b1 0), (6, boxP b2 0), (16, r_2_Viav), (17, .int .i64 (r_2.Via.length : Int)), (18, .int .i64 s_7), (9, .int .i64 s_7), (10, .int .i64 x17), (11, .int .i64 x18)] [0, 1, 2, 3, 4, 5, 6] [ro can_3v 1 (can_3.map eBool), box b1 [.int .i64 n_0.Nodes, n_0_Arcsv], ro n_0_Arcsv 4 (n_0.Arcs.map S_api_Arc.enc), box b2 [r_2_Distv, r_2_Viav, r_2_Cyclev], ro r_2_Distv 1 (r_2.Dist.map (eInt .i64)), ro r_2_Viav 1 (r_2.Via.map (eInt .i64)), ro r_2_Cyclev 1 (r_2.Cycle.map (eInt .i64))] (qv10 rfl rfl rfl rfl rfl rfl rfl rfl rfl rfl) (by decide) rfl ?_
    refine run_region' ?_
    refine oy rfl rfl (y_move rfl) ?_
    refine oy rfl rfl (y_gtr rfl rfl) ?_
    refine oy rfl rfl (y_move rfl) ?_
    refine ops_cut 3 (Bool) (fun σ => [(1, .int .i64 from_1), (3, can_3v), (4, boxP b1 0), (6, boxP b2 0), (16, r_2_Viav), (17, .int .i64 (r_2.Via.length : Int)), (18, .int .i64 s_7), (9, .int .i64 s_7), (10, .int .i64 x17), (11, .int .i64 x18), (34, .bool σ)]) (fun σ => [ro can_3v 1 (can_3.map eBool), box b1 [.int .i64 n_0.Nodes, n_0_Arcsv], ro n_0_Arcsv 4 (n_0.Arcs.map S_api_Arc.enc), box b2 [r_2_Distv, r_2_Viav, r_2_Cyclev], ro r_2_Distv 1 (r_2.Dist.map (eInt .i64)), ro r_2_Viav 1 (r_2.Via.map (eInt .i64)), ro r_2_Cyclev 1 (r_2.Cycle.map (eInt .i64))]) (fun σ => σ = (decide (1099511627776 < x18) || decide (x18 < (-1099511627776)))) (fun L19 hL20 => ?_) ?_
    ·refine ops_split 31 (decide (1099511627776 < x18)) rfl (fun hg21 => ?_) (fun hg21 => ?_)
     ·skip
      refine ops_no 2 false 31 rfl rfl rfl rfl rfl ?_
      refine ops_no 2 false 31 rfl rfl rfl rfl rfl ?_
      refine oy rfl rfl (y_pick (b := true) rfl rfl) ?_
      refine ops_nil ?_
      exact goes_cut hL20 true [0, 1, 2, 3, 4, 5, 6] (qv11 rfl rfl rfl rfl rfl rfl rfl rfl rfl rfl rfl) (by decide) rfl (by rw [hg21]; simp)
     ·skip
      refine ops_y (wg 2 false 31 rfl rfl rfl rfl) rfl (y_move rfl) ?_
      refine ops_y (wg 2 false 31 rfl rfl rfl rfl) rfl (y_lss rfl rfl) ?_
      refine oy rfl rfl (y_pick (b := false) rfl rfl) ?_
      refine ops_nil ?_
      exact goes_cut hL20 (decide (x18 < (-1099511627776))) [0, 1, 2, 3, 4, 5, 6] (qv11 rfl rfl rfl rfl rfl rfl rfl rfl rfl rfl rfl) (by decide) rfl (by rw [hg21]; simp)
    rintro _ rfl
    refine oy rfl rfl (y_move rfl) ?_
    refine ops_cut 3 (Bool) (fun σ => [(1, .int .i64 from_1), (3, can_3v), (4, boxP b1 0), (6, boxP b2 0), (16, r_2_Viav), (17, .int .i64 (r_2.Via.length : Int)), (18, .int .i64 s_7), (9, .int .i64 s_7), (10, .int .i64 x17), (11, .int .i64 x18), (38, .bool σ)]) (fun σ => [ro can_3v 1 (can_3.map eBool), box b1 [.int .i64 n_0.Nodes, n_0_Arcsv], ro n_0_Arcsv 4 (n_0.Arcs.map S_api_Arc.enc), box b2 [r_2_Distv, r_2_Viav, r_2_Cyclev], ro r_2_Distv 1 (r_2.Dist.map (eInt .i64)), ro r_2_Viav 1 (r_2.Via.map (eInt .i64)), ro r_2_Cyclev 1 (r_2.Cycle.map (eInt .i64))]) (fun σ => σ = ((decide (1099511627776 < x18) || decide (x18 < (-1099511627776))) || decide (x17 < (-1)))) (fun L22 hL23 => ?_) ?_
    ·refine ops_split 35 (decide (1099511627776 < x18) || decide (x18 < (-1099511627776))) rfl (fun hg24 => ?_) (fun hg24 => ?_)
     ·skip
      refine ops_no 6 false 35 rfl rfl rfl rfl rfl ?_
      refine ops_no 6 false 35 rfl rfl rfl rfl rfl ?_
      refine oy rfl rfl (y_pick (b := true) rfl rfl) ?_
      refine ops_nil ?_
      exact goes_cut hL23 true [0, 1, 2, 3, 4, 5, 6] (qv11 rfl rfl rfl rfl rfl rfl rfl rfl rfl rfl rfl) (by decide) rfl (by rw [hg24]; simp)
     ·skip
      refine ops_y (wg 6 false 35 rfl rfl rfl rfl) rfl (y_move rfl) ?_
      refine ops_y (wg 6 false 35 rfl rfl rfl rfl) rfl (y_lss rfl rfl) ?_
      refine oy rfl rfl (y_pick (b := false) rfl rfl) ?_
      refine ops_nil ?_
      exact goes_cut hL23 (decide (x17 < (-1))) [0, 1, 2, 3, 4, 5, 6] (qv11 rfl rfl rfl rfl rfl rfl rfl rfl rfl rfl rfl) (by decide) rfl (by rw [hg24]; simp)
    rintro _ rfl
    refine oy rfl rfl (y_move rfl) ?_
    refine ops_cut 6 (Bool) (fun σ => [(1, .int .i64 from_1), (3, can_3v), (4, boxP b1 0), (6, boxP b2 0), (16, r_2_Viav), (17, .int .i64 (r_2.Via.length : Int)), (18, .int .i64 s_7), (9, .int .i64 s_7), (10, .int .i64 x17), (11, .int .i64 x18), (45, .bool σ)]) (fun σ => [ro can_3v 1 (can_3.map eBool), box b1 [.int .i64 n_0.Nodes, n_0_Arcsv], ro n_0_Arcsv 4 (n_0.Arcs.map S_api_Arc.enc), box b2 [r_2_Distv, r_2_Viav, r_2_Cyclev], ro r_2_Distv 1 (r_2.Dist.map (eInt .i64)), ro r_2_Viav 1 (r_2.Via.map (eInt .i64)), ro r_2_Cyclev 1 (r_2.Cycle.map (eInt .i64))]) (fun σ => σ = (((decide (1099511627776 < x18) || decide (x18 < (-1099511627776))) || decide (x17 < (-1))) || decide ((n_0.Arcs.length : Int) ≤ x17))) (fun L25 hL26 => ?_) ?_
    ·refine ops_split 39 ((decide (1099511627776 < x18) || decide (x18 < (-1099511627776))) || decide (x17 < (-1))) rfl (fun hg27 => ?_) (fun hg27 => ?_)
     ·skip
      refine ops_no 10 false 39 rfl rfl rfl rfl rfl ?_
      refine ops_no 10 false 39 rfl rfl rfl rfl rfl ?_
      refine ops_no 10 false 39 rfl rfl rfl rfl rfl ?_
      refine ops_no 10 false 39 rfl rfl rfl rfl rfl ?_
      refine ops_no 10 false 39 rfl rfl rfl rfl rfl ?_
      refine oy rfl rfl (y_pick (b := true) rfl rfl) ?_
      refine ops_nil ?_
      exact goes_cut hL26 true [0, 1, 2, 3, 4, 5, 6] (qv11 rfl rfl rfl rfl rfl rfl rfl rfl rfl rfl rfl) (by decide) rfl (by rw [hg27]; simp)
     ·skip
      refine ops_y (wg 10 false 39 rfl rfl rfl rfl) rfl (y_move rfl) ?_
      refine ops_y (wg 10 false 39 rfl rfl rfl rfl) rfl (y_fieldAddr_box (sz := 0) Try.runUnderlying24 rfl Try.sizeOf22 rfl) ?_
      refine ops_y (wg 10 false 39 rfl rfl rfl rfl) rfl (y_load_box 1 Try.isAgg22 rfl rfl rfl) ?_
      refine ops_y (wg 10 false 39 rfl rfl rfl rfl) rfl ((y_len 2 rfl Try.runUnderlying22 rfl rfl reads_ro).to (v_len S_api_Arc.enc _)) ?_
      refine ops_y (wg 10 false 39 rfl rfl rfl rfl) rfl (y_geq rfl rfl) ?_
      refine oy rfl rfl (y_pick (b := false) rfl rfl) ?_
      refine ops_nil ?_
      exact goes_cut hL26 (decide ((n_0.Arcs.length : Int) ≤ x17)) [0, 1, 2, 3, 4, 5, 6] (qv11 rfl rfl rfl rfl rfl rfl rfl rfl rfl rfl rfl) (by decide) rfl (by rw [hg27]; simp)
    rintro _ rfl
    refine oy rfl rfl (y_assign rfl) ?_
    refine ops_nil ?_
    refine goes_code ?_
    refine run_cond (((decide (1099511627776 < x18) || decide (x18 < (-1099511627776))) || decide (x17 < (-1))) || decide ((n_0.Arcs.length : Int) ≤ x17)) rfl (fun hc28 => ?_) (fun hc28 => ?_)
    ·replace h := cond_t h hc28
     refine run_seq ?_
     refine run_region' ?_
     refine oy rfl rfl (y_assign rfl) ?_
     refine ops_nil ?_
     refine goes_code ?_
     refine run_ret ?_
     obtain rfl := some_eq h
     obtain rfl := after_stop ho14
     skip
     obtain rfl := hstop10 _ rfl
     skip
     obtain rfl := after_stop ho4
     refine fin_slots [8] [.bool false] [] [] Try.results52 rfl (by decide) rfl ?_
     exact ⟨rfl, rfl⟩
    ·replace h := cond_f h hc28
     refine run_seq ?_
     refine run_region' ?_
     refine oy rfl rfl (y_move rfl) ?_
     refine oy rfl rfl (y_move rfl) ?_
     refine oy rfl rfl (y_eql rfl rfl) ?_
     refine oy rfl rfl (y_assign rfl) ?_
     refine ops_nil ?_
     refine goes_code ?_
     refine run_cond (decide (s_7 = from_1)) rfl (fun hc29 => ?_) (fun hc29 => ?_)
     ·replace h := cond_t h hc29
      refine run_seq ?_
      refine run_region' ?_
      refine oy rfl rfl (y_move rfl) ?_
      refine oy rfl rfl (y_neq rfl rfl) ?_
      refine oy rfl rfl (y_move rfl) ?_
      refine ops_cut 3 (Bool) (fun σ => [(1, .int .i64 from_1), (3, can_3v), (4, boxP b1 0), (6, boxP b2 0), (16, r_2_Viav), (17, .int .i64 (r_2.Via.length : Int)), (18, .int .i64 s_7), (55, .bool σ)]) (fun σ => [ro can_3v 1 (can_3.map eBool), box b1 [.int .i64 n_0.Nodes, n_0_Arcsv], ro n_0_Arcsv 4 (n_0.Arcs.map S_api_Arc.enc), box b2 [r_2_Distv, r_2_Viav, r_2_Cyclev], ro r_2_Distv 1 (r_2.Dist.map (eInt .i64)), ro r_2_Viav 1 (r_2.Via.map (eInt .i64)), ro r_2_Cyclev 1 (r_2.Cycle.map (eInt .i64))]) (fun σ => σ = (decide (x17 ≠ (-1)) || decide (x18 ≠ 0))) (fun L30 hL31 => ?_) ?_
      ·refine ops_split 52 (decide (x17 ≠ (-1))) rfl (fun hg32 => ?_) (fun hg32 => ?_)
       ·skip
        refine ops_no 2 false 52 rfl rfl rfl rfl rfl ?_
        refine ops_no 2 false 52 rfl rfl rfl rfl rfl ?_
        refine oy rfl rfl (y_pick (b := true) rfl rfl) ?_
        refine ops_nil ?_
        exact goes_cut hL31 true [0, 1, 2, 3, 4, 5, 6] (qv8 rfl rfl rfl rfl rfl rfl rfl rfl) (by decide) rfl (by rw [hg32]; simp)
       ·skip
        refine ops_y (wg 2 false 52 rfl rfl rfl rfl) rfl (y_move rfl) ?_
        refine ops_y (wg 2 false 52 rfl rfl rfl rfl) rfl (y_neq rfl rfl) ?_
        refine oy rfl rfl (y_pick (b := false) rfl rfl) ?_
        refine ops_nil ?_
        exact goes_cut hL31 (decide (x18 ≠ 0)) [0, 1, 2, 3, 4, 5, 6] (qv8 rfl rfl rfl rfl rfl rfl rfl rfl) (by decide) rfl (by rw [hg32]; simp)
      rintro _ rfl
      refine ops_nil ?_
      refine goes_code ?_
      refine run_cond (decide (x17 ≠ (-1)) || decide (x18 ≠ 0)) rfl (fun hc33 => ?_) (fun hc33 => ?_)
      ·replace h := cond_t h hc33
       refine run_seq ?_
       refine run_region' ?_
       refine oy rfl rfl (y_assign rfl) ?_
       refine ops_nil ?_
       refine goes_code ?_
       refine run_ret ?_
       obtain rfl := some_eq h
       obtain rfl := after_stop ho14
       skip
       obtain rfl := hstop10 _ rfl
       skip
       obtain rfl := after_stop ho4
       refine fin_slots [8] [.bool false] [] [] Try.results52 rfl (by decide) rfl ?_
       exact ⟨rfl, rfl⟩
      ·replace h := cond_f h hc33
       refine run_skip ?_
       refine goes_blk ?_
       refine goes_blk ?_
       obtain rfl := some_eq h
       exact goes_cut hL15 ((), ()) [0, 1, 2, 3, 4, 5, 6] (qv7 rfl rfl rfl rfl rfl rfl rfl) (by decide) rfl rfl
     ·replace h := cond_f h hc29
      refine run_seq ?_
      refine run_region' ?_
      refine oy rfl rfl (y_move rfl) ?_
      refine oy rfl rfl (y_move rfl) ?_
      obtain ⟨x34, hzx34, hlx34, hxx34, h⟩ := idx_some h
      refine oy rfl rfl (y_indexAddrI (kd := .i64) (i := s_7) 0 Try.runUnderlying27 Try.sizeOf4 rfl rfl rfl reads_ro hzx34 (map_lt hlx34)) ?_
      refine oy rfl rfl (y_load_elem (i := s_7.toNat) 0 Try.isAgg4 rfl rfl reads_ro (map_get hxx34)) ?_
      refine oy rfl rfl (y_not rfl) ?_
      refine oy rfl rfl (y_assign rfl) ?_
      refine ops_nil ?_
      refine goes_code ?_
      refine run_cond (!x34) rfl (fun hc35 => ?_) (fun hc35 => ?_)
      ·replace h := cond_t h hc35
       refine run_seq ?_
       refine run_weak [(1, .int .i64 from_1), (3, can_3v), (4, boxP b1 0), (6, boxP b2 0), (16, r_2_Viav), (17, .int .i64 (r_2.Via.length : Int)), (18, .int .i64 s_7), (10, .int .i64 x17), (11, .int .i64 x18)] [0, 1, 2, 3, 4, 5, 6] [ro can_3v 1 (can_3.map eBool), box b1 [.int .i64 n_0.Nodes, n_0_Arcsv], ro n_0_Arcsv 4 (n_0.Arcs.map S_api_Arc.enc), box b2 [r_2_Distv, r_2_Viav, r_2_Cyclev], ro r_2_Distv 1 (r_2.Dist.map (eInt .i64)), ro r_2_Viav 1 (r_2.Via.map (eInt .i64)), ro r_2_Cyclev 1 (r_2.Cycle.map (eInt .i64))] (qv9 rfl rfl rfl rfl rfl rfl rfl rfl rfl) (by decide) rfl ?_
       refine run_region' ?_
       refine oy rfl rfl (y_move rfl) ?_
       refine oy rfl rfl (y_neq rfl rfl) ?_
       refine oy rfl rfl (y_move rfl) ?_
       refine ops_cut 3 (Bool) (fun σ => [(1, .int .i64 from_1), (3, can_3v), (4, boxP b1 0), (6, boxP b2 0), (16, r_2_Viav), (17, .int .i64 (r_2.Via.length : Int)), (18, .int .i64 s_7), (67, .bool σ)]) (fun σ => [ro can_3v 1 (can_3.map eBool), box b1 [.int .i64 n_0.Nodes, n_0_Arcsv], ro n_0_Arcsv 4 (n_0.Arcs.map S_api_Arc.enc), box b2 [r_2_Distv, r_2_Viav, r_2_Cyclev], ro r_2_Distv 1 (r_2.Dist.map (eInt .i64)), ro r_2_Viav 1 (r_2.Via.map (eInt .i64)), ro r_2_Cyclev 1 (r_2.Cycle.map (eInt .i64))]) (fun σ => σ = (decide (x17 ≠ (-1)) || decide (x18 ≠ 0))) (fun L36 hL37 => ?_) ?_
       ·refine ops_split 64 (decide (x17 ≠ (-1))) rfl (fun hg38 => ?_) (fun hg38 => ?_)
        ·skip
         refine ops_no 2 false 64 rfl rfl rfl rfl rfl ?_
         refine ops_no 2 false 64 rfl rfl rfl rfl rfl ?_
         refine oy rfl rfl (y_pick (b := true) rfl rfl) ?_
         refine ops_nil ?_
         exact goes_cut hL37 true [0, 1, 2, 3, 4, 5, 6] (qv8 rfl rfl rfl rfl rfl rfl rfl rfl) (by decide) rfl (by rw [hg38]; simp)
        ·skip
         refine ops_y (wg 2 false 64 rfl rfl rfl rfl) rfl (y_move rfl) ?_
         refine ops_y (wg 2 false 64 rfl rfl rfl rfl) rfl (y_neq rfl rfl) ?_
         refine oy rfl rfl (y_pick (b := false) rfl rfl) ?_
         refine ops_nil ?_
         exact goes_cut hL37 (decide (x18 ≠ 0)) [0, 1, 2, 3, 4, 5, 6] (qv8 rfl rfl rfl rfl rfl rfl rfl rfl) (by decide) rfl (by rw [hg38]; simp)
       rintro _ rfl
       refine ops_nil ?_
       refine goes_code ?_
       refine run_cond (decide (x17 ≠ (-1)) || decide (x18 ≠ 0)) rfl (fun hc39 => ?_) (fun hc39 => ?_)
       ·replace h := cond_t h hc39
        refine run_seq ?_
        refine run_region' ?_
        refine oy rfl rfl (y_assign rfl) ?_
        refine ops_nil ?_
        refine goes_code ?_
        refine run_ret ?_
        obtain rfl := some_eq h
        obtain rfl := after_stop ho14
        skip
        obtain rfl := hstop10 _ rfl
        skip
        obtain rfl := after_stop ho4
        refine fin_slots [8] [.bool false] [] [] Try.results52 rfl (by decide) rfl ?_
        exact ⟨rfl, rfl⟩
       ·replace h := cond_f h hc39
        refine run_skip ?_
        refine goes_blk ?_
        refine goes_blk ?_
        obtain rfl := some_eq h
        exact goes_cut hL15 ((), ()) [0, 1, 2, 3, 4, 5, 6] (qv7 rfl rfl rfl rfl rfl rfl rfl) (by decide) rfl rfl
      ·replace h := cond_f h hc35
       refine run_seq ?_
       refine run_weak [(1, .int .i64 from_1), (3, can_3v), (4, boxP b1 0), (6, boxP b2 0), (16, r_2_Viav), (17, .int .i64 (r_2.Via.length : Int)), (18, .int .i64 s_7), (9, .int .i64 s_7), (10, .int .i64 x17), (11, .int .i64 x18)] [0, 1, 2, 3, 4, 5, 6] [ro can_3v 1 (can_3.map eBool), box b1 [.int .i64 n_0.Nodes, n_0_Arcsv], ro n_0_Arcsv 4 (n_0.Arcs.map S_api_Arc.enc), box b2 [r_2_Distv, r_2_Viav, r_2_Cyclev], ro r_2_Distv 1 (r_2.Dist.map (eInt .i64)), ro r_2_Viav 1 (r_2.Via.map (eInt .i64)), ro r_2_Cyclev 1 (r_2.Cycle.map (eInt .i64))] (qv10 rfl rfl rfl rfl rfl rfl rfl rfl rfl rfl) (by decide) rfl ?_
       refine run_draw (by kernel_rfl) (by kernel_rfl) ?_
       refine sy rfl rfl (y_move rfl) ?_
       refine sy rfl rfl (y_eql rfl rfl) ?_
       refine sy rfl rfl (y_move rfl) ?_
       obtain ⟨o41, h, ho42⟩ := bindJ_some h
       refine still_cut 9 (Bool) (fun σ => [(1, .int .i64 from_1), (3, can_3v), (4, boxP b1 0), (6, boxP b2 0), (16, r_2_Viav), (17, .int .i64 (r_2.Via.length : Int)), (18, .int .i64 s_7), (10, .int .i64 x17), (11, .int .i64 x18), (80, .bool σ)]) (fun σ => [ro can_3v 1 (can_3.map eBool), box b1 [.int .i64 n_0.Nodes, n_0_Arcsv], ro n_0_Arcsv 4 (n_0.Arcs.map S_api_Arc.enc), box b2 [r_2_Distv, r_2_Viav, r_2_Cyclev], ro r_2_Distv 1 (r_2.Dist.map (eInt .i64)), ro r_2_Viav 1 (r_2.Via.map (eInt .i64)), ro r_2_Cyclev 1 (r_2.Cycle.map (eInt .i64))]) (fun σ => o41 = .go σ) (fun L43 hL44 => ?_) ?_
       ·refine still_split 71 (decide (x17 = (-1))) rfl (fun hg45 => ?_) (fun hg45 => ?_)
        ·replace h := cond_t h hg45
         refine still_no 2 false 71 rfl rfl rfl rfl rfl ?_
         refine still_no 2 false 71 rfl rfl rfl rfl rfl ?_
         refine still_no 2 false 71 rfl rfl rfl rfl rfl ?_
         refine still_no 2 false 71 rfl rfl rfl rfl rfl ?_
         refine still_no 2 false 71 rfl rfl rfl rfl rfl ?_
         refine still_no 2 false 71 rfl rfl rfl rfl rfl ?_
         refine still_no 2 false 71 rfl rfl rfl rfl rfl ?_
         refine still_no 2 false 71 rfl rfl rfl rfl rfl ?_
         refine sy rfl rfl (y_pick (b := true) rfl rfl) ?_
         refine still_nil ?_
         obtain rfl := some_eq h
         exact goes_cut hL44 true [0, 1, 2, 3, 4, 5, 6] (qv10 rfl rfl rfl rfl rfl rfl rfl rfl rfl rfl) (by decide) rfl rfl
        ·replace h := cond_f h hg45
         refine still_y (wg 2 false 71 rfl rfl rfl rfl) rfl (y_fieldAddr_box (sz := 0) Try.runUnderlying24 rfl Try.sizeOf22 rfl) ?_
         refine still_y (wg 2 false 71 rfl rfl rfl rfl) rfl (y_load_box 1 Try.isAgg22 rfl rfl rfl) ?_
         refine still_y (wg 2 false 71 rfl rfl rfl rfl) rfl (y_move rfl) ?_
         obtain ⟨x46, hzx46, hlx46, hxx46, h⟩ := idx_some h
         refine still_y (wg 2 false 71 rfl rfl rfl rfl) rfl (y_indexAddrI (kd := .i64) (i := x17) 2 Try.runUnderlying22 Try.sizeOf67 rfl rfl rfl reads_ro hzx46 (map_lt hlx46)) ?_
         refine still_y (wg 2 false 71 rfl rfl rfl rfl) rfl (y_fieldAddr_elem (sz := 0) Try.runUnderlying67 rfl Try.sizeOf3 rfl) ?_
         refine still_y (wg 2 false 71 rfl rfl rfl rfl) rfl (y_load_field (i := x17.toNat) (j := 1) 2 Try.isAgg3 rfl rfl reads_ro (map_get hxx46) rfl) ?_
         refine still_y (wg 2 false 71 rfl rfl rfl rfl) rfl (y_move rfl) ?_
         refine still_y (wg 2 false 71 rfl rfl rfl rfl) rfl (y_neq rfl rfl) ?_
         refine sy rfl rfl (y_pick (b := false) rfl rfl) ?_
         refine still_nil ?_
         obtain rfl := some_eq h
         exact goes_cut hL44 (decide (x46.To ≠ s_7)) [0, 1, 2, 3, 4, 5, 6] (qv10 rfl rfl rfl rfl rfl rfl rfl rfl rfl rfl) (by decide) rfl rfl
       rintro b40 hj
       obtain rfl : o41 = _ := hj
       replace h := after_go ho42
       clear ho42
       refine sy rfl rfl (y_move rfl) ?_
       obtain ⟨o48, h, ho49⟩ := bindJ_some h
       refine still_cut 20 (Bool) (fun σ => [(1, .int .i64 from_1), (3, can_3v), (4, boxP b1 0), (6, boxP b2 0), (16, r_2_Viav), (17, .int .i64 (r_2.Via.length : Int)), (18, .int .i64 s_7), (101, .bool σ)]) (fun σ => [ro can_3v 1 (can_3.map eBool), box b1 [.int .i64 n_0.Nodes, n_0_Arcsv], ro n_0_Arcsv 4 (n_0.Arcs.map S_api_Arc.enc), box b2 [r_2_Distv, r_2_Viav, r_2_Cyclev], ro r_2_Distv 1 (r_2.Dist.map (eInt .i64)), ro r_2_Viav 1 (r_2.Via.map (eInt .i64)), ro r_2_Cyclev 1 (r_2.Cycle.map (eInt .i64))]) (fun σ => o48 = .go σ) (fun L50 hL51 => ?_) ?_
       ·refine still_split 81 b40 rfl (fun hg52 => ?_) (fun hg52 => ?_)
        ·replace h := cond_t h hg52
         refine still_no 12 false 81 rfl rfl rfl rfl rfl ?_
         refine still_no 12 false 81 rfl rfl rfl rfl rfl ?_
         refine still_no 12 false 81 rfl rfl rfl rfl rfl ?_
         refine still_no 12 false 81 rfl rfl rfl rfl rfl ?_
         refine still_no 12 false 81 rfl rfl rfl rfl rfl ?_
         refine still_no 12 false 81 rfl rfl rfl rfl rfl ?_
         refine still_no 12 false 81 rfl rfl rfl rfl rfl ?_
         refine still_no 12 false 81 rfl rfl rfl rfl rfl ?_
         refine still_no 12 false 81 rfl rfl rfl rfl rfl ?_
         refine still_no 12 false 81 rfl rfl rfl rfl rfl ?_
         refine still_no 12 false 81 rfl rfl rfl rfl rfl ?_
         refine still_no 12 false 81 rfl rfl rfl rfl rfl ?_
         refine still_no 12 false 81 rfl rfl rfl rfl rfl ?_
         refine still_no 12 false 81 rfl rfl rfl rfl rfl ?_
         refine still_no 12 false 81 rfl rfl rfl rfl rfl ?_
         refine still_no 12 false 81 rfl rfl rfl rfl rfl ?_
         refine still_no 12 false 81 rfl rfl rfl rfl rfl ?_
         refine still_no 12 false 81 rfl rfl rfl rfl rfl ?_
         refine still_no 12 false 81 rfl rfl rfl rfl rfl ?_
         refine sy rfl rfl (y_pick (b := true) rfl rfl) ?_
         refine still_nil ?_
         obtain rfl := some_eq h
         exact goes_cut hL51 true [0, 1, 2, 3, 4, 5, 6] (qv8 rfl rfl rfl rfl rfl rfl rfl rfl) (by decide) rfl rfl
        ·replace h := cond_f h hg52
         refine still_y (wg 12 false 81 rfl rfl rfl rfl) rfl (y_move rfl) ?_
         refine still_y (wg 12 false 81 rfl rfl rfl rfl) rfl (y_fieldAddr_box (sz := 0) Try.runUnderlying51 rfl Try.sizeOf34 rfl) ?_
         refine still_y (wg 12 false 81 rfl rfl rfl rfl) rfl (y_load_box 3 Try.isAgg34 rfl rfl rfl) ?_
         refine still_y (wg 12 false 81 rfl rfl rfl rfl) rfl (y_fieldAddr_box (sz := 0) Try.runUnderlying24 rfl Try.sizeOf22 rfl) ?_
         refine still_y (wg 12 false 81 rfl rfl rfl rfl) rfl (y_load_box 1 Try.isAgg22 rfl rfl rfl) ?_
         refine still_y (wg 12 false 81 rfl rfl rfl rfl) rfl (y_move rfl) ?_
         obtain ⟨x53, hzx53, hlx53, hxx53, h⟩ := idx_some h
         refine still_y (wg 12 false 81 rfl rfl rfl rfl) rfl (y_indexAddrI (kd := .i64) (i := x17) 2 Try.runUnderlying22 Try.sizeOf67 rfl rfl rfl reads_ro hzx53 (map_lt hlx53)) ?_
         refine still_y (wg 12 false 81 rfl rfl rfl rfl) rfl (y_fieldAddr_elem (sz := 0) Try.runUnderlying67 rfl Try.sizeOf3 rfl) ?_
         refine still_y (wg 12 false 81 rfl rfl rfl rfl) rfl (y_load_field (i := x17.toNat) (j := 0) 2 Try.isAgg3 rfl rfl reads_ro (map_get hxx53) rfl) ?_
         obtain ⟨x54, hzx54, hlx54, hxx54, h⟩ := idx_some h
         refine still_y (wg 12 false 81 rfl rfl rfl rfl) rfl (y_indexAddrI (kd := .i64) (i := x53.From) 4 Try.runUnderlying34 Try.sizeOf3 rfl rfl rfl reads_ro hzx54 (map_lt hlx54)) ?_
         refine still_y (wg 12 false 81 rfl rfl rfl rfl) rfl (y_load_elem (i := (x53.From).toNat) 4 Try.isAgg3 rfl rfl reads_ro (map_get hxx54)) ?_
         refine still_y (wg 12 false 81 rfl rfl rfl rfl) rfl (y_fieldAddr_box (sz := 0) Try.runUnderlying24 rfl Try.sizeOf22 rfl) ?_
         refine still_y (wg 12 false 81 rfl rfl rfl rfl) rfl (y_load_box 1 Try.isAgg22 rfl rfl rfl) ?_
         refine still_y (wg 12 false 81 rfl rfl rfl rfl) rfl (y_move rfl) ?_
         refine still_y (wg 12 false 81 rfl rfl rfl rfl) rfl (y_indexAddrI (kd := .i64) (i := x17) 2 Try.runUnderlying22 Try.sizeOf67 rfl rfl rfl reads_ro hzx53 (map_lt hlx53)) ?_
         refine still_y (wg 12 false 81 rfl rfl rfl rfl) rfl (y_fieldAddr_elem (sz := 0) Try.runUnderlying67 rfl Try.sizeOf3 rfl) ?_
         refine still_y (wg 12 false 81 rfl rfl rfl rfl) rfl (y_load_field (i := x17.toNat) (j := 3) 2 Try.isAgg3 rfl rfl reads_ro (map_get hxx53) rfl) ?_
         refine still_y (wg 12 false 81 rfl rfl rfl rfl) rfl (y_add rfl rfl) ?_
         refine still_y (wg 12 false 81 rfl rfl rfl rfl) rfl (y_neq rfl rfl) ?_
         refine sy rfl rfl (y_pick (b := false) rfl rfl) ?_
         refine still_nil ?_
         obtain rfl := some_eq h
         exact goes_cut hL51 (decide (x18 ≠ (IntKind.i64.wrap (x54 + x53.Cost)))) [0, 1, 2, 3, 4, 5, 6] (qv8 rfl rfl rfl rfl rfl rfl rfl rfl) (by decide) rfl rfl
       rintro b47 hj
       obtain rfl : o48 = _ := hj
       replace h := after_go ho49
       clear ho49
       refine sy rfl rfl (y_assign rfl) ?_
       refine still_nil ?_
       refine goes_code ?_
       refine run_cond b47 rfl (fun hc55 => ?_) (fun hc55 => ?_)
       ·replace h := cond_t h hc55
        refine run_seq ?_
        refine run_region' ?_
        refine oy rfl rfl (y_assign rfl) ?_
        refine ops_nil ?_
        refine goes_code ?_
        refine run_ret ?_
        obtain rfl := some_eq h
        obtain rfl := after_stop ho14
        skip
        obtain rfl := hstop10 _ rfl
        skip
        obtain rfl := after_stop ho4
        refine fin_slots [8] [.bool false] [] [] Try.results52 rfl (by decide) rfl ?_
        exact ⟨rfl, rfl⟩
       ·replace h := cond_f h hc55
        refine run_skip ?_
        refine goes_blk ?_
        refine goes_blk ?_
        obtain rfl := some_eq h
        exact goes_cut hL15 ((), ()) [0, 1, 2, 3, 4, 5, 6] (qv7 rfl rfl rfl rfl rfl rfl rfl) (by decide) rfl rfl
   rintro ⟨_, _⟩ hj
   obtain rfl : o13 = _ := hj
   replace h := after_go ho14
   clear ho14
   change Run _ _ _ (VF.of [(1, .int .i64 from_1), (3, can_3v), (4, boxP b1 0), (6, boxP b2 0), (16, r_2_Viav), (17, .int .i64 (r_2.Via.length : Int)), (18, .int .i64 s_7)]) [ro can_3v 1 (can_3.map eBool), box b1 [.int .i64 n_0.Nodes, n_0_Arcsv], ro n_0_Arcsv 4 (n_0.Arcs.map S_api_Arc.enc), box b2 [r_2_Distv, r_2_Viav, r_2_Cyclev], ro r_2_Distv 1 (r_2.Dist.map (eInt .i64)), ro r_2_Viav 1 (r_2.Via.map (eInt .i64)), ro r_2_Cyclev 1 (r_2.Cycle.map (eInt .i64))]
   refine run_region' ?_
   refine oy rfl rfl (y_add rfl rfl) ?_
   refine oy rfl rfl (y_move rfl) ?_
   refine ops_nil ?_
   obtain rfl := some_eq h
   exact goes_iter hgo9 (IntKind.i64.wrap (s_7 + 1)) () [0, 1, 2, 3, 4, 5, 6] rfl (qv7 rfl rfl rfl rfl rfl rfl rfl) (by decide) rfl
  ·replace h := cond_f h hc12
   refine run_exit _ rfl ?_
   obtain rfl := some_eq h
   obtain rfl := hstop10 _ rfl
   exact goes_cut hL5 ((), ()) [0, 1, 2, 3, 4, 5, 6] (qv4 rfl rfl rfl rfl) (by decide) rfl rfl
 rintro ⟨_, _⟩ hj
 obtain rfl : o3 = _ := hj
 replace h := after_go ho4
 clear ho4
 change Run _ _ _ (VF.of [(1, .int .i64 from_1), (3, can_3v), (4, boxP b1 0), (6, boxP b2 0)]) [ro can_3v 1 (can_3.map eBool), box b1 [.int .i64 n_0.Nodes, n_0_Arcsv], ro n_0_Arcsv 4 (n_0.Arcs.map S_api_Arc.enc), box b2 [r_2_Distv, r_2_Viav, r_2_Cyclev], ro r_2_Distv 1 (r_2.Dist.map (eInt .i64)), ro r_2_Viav 1 (r_2.Via.map (eInt .i64)), ro r_2_Cyclev 1 (r_2.Cycle.map (eInt .i64))]
 obtain ⟨o56, h, ho57⟩ := bindJ_some h
 refine run_cut ((Unit) × (Unit)) (fun σ => []) (fun σ => []) (fun σ => o56 = .go σ.1) (fun L59 hL58 => ?_) ?_
 ·
  refine run_seq ?_
  refine run_region' ?_
  refine oy rfl rfl (y_fieldAddr_box (sz := 0) Try.runUnderlying24 rfl Try.sizeOf3 rfl) ?_
  refine oy rfl rfl (y_load_box 1 Try.isAgg3 rfl rfl rfl) ?_
  refine oy rfl rfl (y_move rfl) ?_
  refine ops_nil ?_
  refine goes_code ?_
  refine run_block ?_
  refine run_iter (step := graph_isTree_L2 n n_0 from_1 r_2 can_3) (n := n) (s0 := 0) h (G := Unit) () (fun σ γ => [(1, .int .i64 from_1), (3, can_3v), (4, boxP b1 0), (6, boxP b2 0), (104, .int .i64 n_0.Nodes), (105, .int .i64 σ)]) (fun σ γ => [ro can_3v 1 (can_3.map eBool), box b1 [.int .i64 n_0.Nodes, n_0_Arcsv], ro n_0_Arcsv 4 (n_0.Arcs.map S_api_Arc.enc), box b2 [r_2_Distv, r_2_Viav, r_2_Cyclev], ro r_2_Distv 1 (r_2.Dist.map (eInt .i64)), ro r_2_Viav 1 (r_2.Via.map (eInt .i64)), ro r_2_Cyclev 1 (r_2.Cycle.map (eInt .i64))]) [0, 1, 2, 3, 4, 5, 6] (qv6 rfl rfl rfl rfl rfl rfl) (by decide) rfl ?_
  rintro s_60 _ o61 h L64 hgo62 hstop63
  change Run _ _ _ (VF.of [(1, .int .i64 from_1), (3, can_3v), (4, boxP b1 0), (6, boxP b2 0), (104, .int .i64 n_0.Nodes), (105, .int .i64 s_60)]) [ro can_3v 1 (can_3.map eBool), box b1 [.int .i64 n_0.Nodes, n_0_Arcsv], ro n_0_Arcsv 4 (n_0.Arcs.map S_api_Arc.enc), box b2 [r_2_Distv, r_2_Viav, r_2_Cyclev], ro r_2_Distv 1 (r_2.Dist.map (eInt .i64)), ro r_2_Viav 1 (r_2.Via.map (eInt .i64)), ro r_2_Cyclev 1 (r_2.Cycle.map (eInt .i64))]
  refine run_seq ?_
  refine run_region' ?_
  refine oy rfl rfl (y_lss rfl rfl) ?_
  refine ops_nil ?_
  refine goes_code ?_
  refine run_seq ?_
  refine run_cond (decide (s_60 < n_0.Nodes)) rfl (fun hc65 => ?_) (fun hc65 => ?_)
  ·replace h := cond_t h hc65
   refine run_skip ?_
   refine goes_code ?_
   obtain ⟨o66, h, ho67⟩ := bindJ_some h
   refine run_cut ((Unit) × (Unit)) (fun σ => [(1, .int .i64 from_1), (3, can_3v), (4, boxP b1 0), (6, boxP b2 0), (104, .int .i64 n_0.Nodes), (105, .int .i64 s_60)]) (fun σ => [ro can_3v 1 (can_3.map eBool), box b1 [.int .i64 n_0.Nodes, n_0_Arcsv], ro n_0_Arcsv 4 (n_0.Arcs.map S_api_Arc.enc), box b2 [r_2_Distv, r_2_Viav, r_2_Cyclev], ro r_2_Distv 1 (r_2.Dist.map (eInt .i64)), ro r_2_Viav 1 (r_2.Via.map (eInt .i64)), ro r_2_Cyclev 1 (r_2.Cycle.map (eInt .i64))]) (fun σ => o66 = .go σ.1) (fun L69 hL68 => ?_) ?_
   ·
    refine run_block ?_
    refine run_seq ?_
    refine run_region' ?_
    refine oy rfl rfl (y_move rfl) ?_
    refine oy rfl rfl (y_assign rfl) ?_
    refine ops_nil ?_
    refine goes_code ?_
    refine run_seq ?_
    refine run_region' ?_
    refine oy rfl rfl (y_move rfl) ?_
    refine oy rfl rfl (y_assign rfl) ?_
    refine oy rfl rfl (y_assign rfl) ?_
    refine ops_nil ?_
    refine goes_code ?_
    refine run_block ?_
    refine run_iter (step := graph_isTree_L3 n_0 from_1 r_2 can_3 s_60) (n := n) (s0 := (s_60, 0)) h (G := Unit) () (fun σ γ => [(1, .int .i64 from_1), (3, can_3v), (4, boxP b1 0), (6, boxP b2 0), (12, .int .i64 s_60), (13, .int .i64 σ.1), (14, .int .i64 σ.2), (104, .int .i64 n_0.Nodes), (105, .int .i64 s_60)]) (fun σ γ => [ro can_3v 1 (can_3.map eBool), box b1 [.int .i64 n_0.Nodes, n_0_Arcsv], ro n_0_Arcsv 4 (n_0.Arcs.map S_api_Arc.enc), box b2 [r_2_Distv, r_2_Viav, r_2_Cyclev], ro r_2_Distv 1 (r_2.Dist.map (eInt .i64)), ro r_2_Viav 1 (r_2.Via.map (eInt .i64)), ro r_2_Cyclev 1 (r_2.Cycle.map (eInt .i64))]) [0, 1, 2, 3, 4, 5, 6] (qv9 rfl rfl rfl rfl rfl rfl rfl rfl rfl) (by decide) rfl ?_
    rintro ⟨w_70, steps_71⟩ _ o72 h L75 hgo73 hstop74
    change Run _ _ _ (VF.of [(1, .int .i64 from_1), (3, can_3v), (4, boxP b1 0), (6, boxP b2 0), (12, .int .i64 s_60), (13, .int .i64 w_70), (14, .int .i64 steps_71), (104, .int .i64 n_0.Nodes), (105, .int .i64 s_60)]) [ro can_3v 1 (can_3.map eBool), box b1 [.int .i64 n_0.Nodes, n_0_Arcsv], ro n_0_Arcsv 4 (n_0.Arcs.map S_api_Arc.enc), box b2 [r_2_Distv, r_2_Viav, r_2_Cyclev], ro r_2_Distv 1 (r_2.Dist.map (eInt .i64)), ro r_2_Viav 1 (r_2.Via.map (eInt .i64)), ro r_2_Cyclev 1 (r_2.Cycle.map (eInt .i64))]
    refine run_seq ?_
    refine run_seq ?_
    refine run_region' ?_
    refine oy rfl rfl (y_move rfl) ?_
    refine oy rfl rfl (y_move rfl) ?_
    obtain ⟨x76, hzx76, hlx76, hxx76, h⟩ := idx_some h
    refine oy rfl rfl (y_indexAddrI (kd := .i64) (i := s_60) 0 Try.runUnderlying27 Try.sizeOf4 rfl rfl rfl reads_ro hzx76 (map_lt hlx76)) ?_
    refine oy rfl rfl (y_load_elem (i := s_60.toNat) 0 Try.isAgg4 rfl rfl reads_ro (map_get hxx76)) ?_
    refine oy rfl rfl (y_move rfl) ?_
    refine ops_cut 4 (Bool) (fun σ => [(1, .int .i64 from_1), (3, can_3v), (4, boxP b1 0), (6, boxP b2 0), (12, .int .i64 s_60), (13, .int .i64 w_70), (14, .int .i64 steps_71), (104, .int .i64 n_0.Nodes), (105, .int .i64 s_60), (117, .bool σ)]) (fun σ => [ro can_3v 1 (can_3.map eBool), box b1 [.int .i64 n_0.Nodes, n_0_Arcsv], ro n_0_Arcsv 4 (n_0.Arcs.map S_api_Arc.enc), box b2 [r_2_Distv, r_2_Viav, r_2_Cyclev], ro r_2_Distv 1 (r_2.Dist.map (eInt .i64)), ro r_2_Viav 1 (r_2.Via.map (eInt .i64)), ro r_2_Cyclev 1 (r_2.Cycle.map (eInt .i64))]) (fun σ => σ = (x76 && decide (w_70 ≠ from_1))) (fun L77 hL78 => ?_) ?_
    ·refine ops_split 113 x76 rfl (fun hg79 => ?_) (fun hg79 => ?_)
     ·skip
      refine ops_y (wg 4 true 113 rfl rfl rfl rfl) rfl (y_move rfl) ?_
      refine ops_y (wg 4 true 113 rfl rfl rfl rfl) rfl (y_move rfl) ?_
      refine ops_y (wg 4 true 113 rfl rfl rfl rfl) rfl (y_neq rfl rfl) ?_
      refine oy rfl rfl (y_pick (b := true) rfl rfl) ?_
      refine ops_nil ?_
      exact goes_cut hL78 (decide (w_70 ≠ from_1)) [0, 1, 2, 3, 4, 5, 6] (qv10 rfl rfl rfl rfl rfl rfl rfl rfl rfl rfl) (by decide) rfl (by rw [hg79]; simp)
     ·skip
      refine ops_no 4 true 113 rfl rfl rfl rfl rfl ?_
      refine ops_no 4 true 113 rfl rfl rfl rfl rfl ?_
      refine ops_no 4 true 113 rfl rfl rfl rfl rfl ?_
      refine oy rfl rfl (y_pick (b := false) rfl rfl) ?_
      refine ops_nil ?_
      exact goes_cut hL78 false [0, 1, 2, 3, 4, 5, 6] (qv10 rfl rfl rfl rfl rfl rfl rfl rfl rfl rfl) (by decide) rfl (by rw [hg79]; simp)
    rintro _ rfl
    refine ops_nil ?_
    refine goes_code ?_
    refine run_cond (x76 && decide (w_70 ≠ from_1)) rfl (fun hc80 => ?_) (fun hc80 => ?_)
    ·replace h := cond_t h hc80
     refine run_skip ?_
     refine goes_code ?_
     refine run_block ?_
     refine run_seq ?_
     refine run_seq ?_
     refine run_draw (by kernel_rfl) (by kernel_rfl) ?_
     refine sy rfl rfl (y_fieldAddr_box (sz := 0) Try.runUnderlying24 rfl Try.sizeOf22 rfl) ?_
     refine sy rfl rfl (y_load_box 1 Try.isAgg22 rfl rfl rfl) ?_
     refine sy rfl rfl (y_fieldAddr_box (sz := 0) Try.runUnderlying51 rfl Try.sizeOf34 rfl) ?_
     refine sy rfl rfl (y_load_box 3 Try.isAgg34 rfl rfl rfl) ?_
     refine sy rfl rfl (y_move rfl) ?_
     obtain ⟨x81, hzx81, hlx81, hxx81, h⟩ := idx_some h
     refine sy rfl rfl (y_indexAddrI (kd := .i64) (i := w_70) 5 Try.runUnderlying34 Try.sizeOf3 rfl rfl rfl reads_ro hzx81 (map_lt hlx81)) ?_
     refine sy rfl rfl (y_load_elem (i := w_70.toNat) 5 Try.isAgg3 rfl rfl reads_ro (map_get hxx81)) ?_
     obtain ⟨x82, hzx82, hlx82, hxx82, h⟩ := idx_some h
     refine sy rfl rfl (y_indexAddrI (kd := .i64) (i := x81) 2 Try.runUnderlying22 Try.sizeOf67 rfl rfl rfl reads_ro hzx82 (map_lt hlx82)) ?_
     refine sy rfl rfl (y_fieldAddr_elem (sz := 0) Try.runUnderlying67 rfl Try.sizeOf3 rfl) ?_
     refine sy rfl rfl (y_load_field (i := x81.toNat) (j := 0) 2 Try.isAgg3 rfl rfl reads_ro (map_get hxx82) rfl) ?_
     refine sy rfl rfl (y_assign rfl) ?_
     refine still_nil ?_
     refine goes_code ?_
     refine run_seq ?_
     refine run_weak [(1, .int .i64 from_1), (3, can_3v), (4, boxP b1 0), (6, boxP b2 0), (12, .int .i64 s_60), (13, .int .i64 x82.From), (14, .int .i64 steps_71), (104, .int .i64 n_0.Nodes), (105, .int .i64 s_60)] [0, 1, 2, 3, 4, 5, 6] [ro can_3v 1 (can_3.map eBool), box b1 [.int .i64 n_0.Nodes, n_0_Arcsv], ro n_0_Arcsv 4 (n_0.Arcs.map S_api_Arc.enc), box b2 [r_2_Distv, r_2_Viav, r_2_Cyclev], ro r_2_Distv 1 (r_2.Dist.map (eInt .i64)), ro r_2_Viav 1 (r_2.Via.map (eInt .i64)), ro r_2_Cyclev 1 (r_2.Cycle.map (eInt .i64))] (qv9 rfl rfl rfl rfl rfl rfl rfl rfl rfl) (by decide) rfl ?_
     refine run_region' ?_
     refine oy rfl rfl (y_move rfl) ?_
     refine oy rfl rfl (y_fieldAddr_box (sz := 0) Try.runUnderlying24 rfl Try.sizeOf3 rfl) ?_
     refine oy rfl rfl (y_load_box 1 Try.isAgg3 rfl rfl rfl) ?_
     refine oy rfl rfl (y_gtr rfl rfl) ?_
     refine oy rfl rfl (y_move rfl) ?_
     obtain ⟨o84, h, ho85⟩ := bindJ_some h
     refine ops_cut 6 (Bool) (fun σ => [(1, .int .i64 from_1), (3, can_3v), (4, boxP b1 0), (6, boxP b2 0), (12, .int .i64 s_60), (13, .int .i64 x82.From), (14, .int .i64 steps_71), (104, .int .i64 n_0.Nodes), (105, .int .i64 s_60), (138, .bool σ)]) (fun σ => [ro can_3v 1 (can_3.map eBool), box b1 [.int .i64 n_0.Nodes, n_0_Arcsv], ro n_0_Arcsv 4 (n_0.Arcs.map S_api_Arc.enc), box b2 [r_2_Distv, r_2_Viav, r_2_Cyclev], ro r_2_Distv 1 (r_2.Dist.map (eInt .i64)), ro r_2_Viav 1 (r_2.Via.map (eInt .i64)), ro r_2_Cyclev 1 (r_2.Cycle.map (eInt .i64))]) (fun σ => o84 = .go σ) (fun L86 hL87 => ?_) ?_
     ·refine ops_split 132 (decide (n_0.Nodes < steps_71)) rfl (fun hg88 => ?_) (fun hg88 => ?_)
      ·replace h := cond_t h hg88
       refine ops_no 4 false 132 rfl rfl rfl rfl rfl ?_
       refine ops_no 4 false 132 rfl rfl rfl rfl rfl ?_
       refine ops_no 4 false 132 rfl rfl rfl rfl rfl ?_
       refine ops_no 4 false 132 rfl rfl rfl rfl rfl ?_
       refine ops_no 4 false 132 rfl rfl rfl rfl rfl ?_
       refine oy rfl rfl (y_pick (b := true) rfl rfl) ?_
       refine ops_nil ?_
       obtain rfl := some_eq h
       exact goes_cut hL87 true [0, 1, 2, 3, 4, 5, 6] (qv10 rfl rfl rfl rfl rfl rfl rfl rfl rfl rfl) (by decide) rfl rfl
      ·replace h := cond_f h hg88
       refine ops_y (wg 4 false 132 rfl rfl rfl rfl) rfl (y_move rfl) ?_
       refine ops_y (wg 4 false 132 rfl rfl rfl rfl) rfl (y_move rfl) ?_
       obtain ⟨x89, hzx89, hlx89, hxx89, h⟩ := idx_some h
       refine ops_y (wg 4 false 132 rfl rfl rfl rfl) rfl (y_indexAddrI (kd := .i64) (i := x82.From) 0 Try.runUnderlying27 Try.sizeOf4 rfl rfl rfl reads_ro hzx89 (map_lt hlx89)) ?_
       refine ops_y (wg 4 false 132 rfl rfl rfl rfl) rfl (y_load_elem (i := (x82.From).toNat) 0 Try.isAgg4 rfl rfl reads_ro (map_get hxx89)) ?_
       refine ops_y (wg 4 false 132 rfl rfl rfl rfl) rfl (y_not rfl) ?_
       refine oy rfl rfl (y_pick (b := false) rfl rfl) ?_
       refine ops_nil ?_
       obtain rfl := some_eq h
       exact goes_cut hL87 (!x89) [0, 1, 2, 3, 4, 5, 6] (qv10 rfl rfl rfl rfl rfl rfl rfl rfl rfl rfl) (by decide) rfl rfl
     rintro b83 hj
     obtain rfl : o84 = _ := hj
     replace h := after_go ho85
     clear ho85
     refine ops_nil ?_
     refine goes_code ?_
     refine run_cond b83 rfl (fun hc90 => ?_) (fun hc90 => ?_)
     ·replace h := cond_t h hc90
      refine run_seq ?_
      refine run_region' ?_
      refine oy rfl rfl (y_assign rfl) ?_
      refine ops_nil ?_
      refine goes_code ?_
      refine run_ret ?_
      obtain rfl := some_eq h
      obtain rfl := hstop74 _ rfl
      skip
      obtain rfl := after_stop ho67
      skip
      obtain rfl := hstop63 _ rfl
      skip
      obtain rfl := after_stop ho57
      refine fin_slots [8] [.bool false] [] [] Try.results52 rfl (by decide) rfl ?_
      exact ⟨rfl, rfl⟩
     ·replace h := cond_f h hc90
      refine run_skip ?_
      refine goes_code ?_
      refine run_region' ?_
      refine oy rfl rfl (y_move rfl) ?_
      refine oy rfl rfl (y_add rfl rfl) ?_
      refine oy rfl rfl (y_assign rfl) ?_
      refine ops_nil ?_
      refine goes_blk ?_
      obtain rfl := some_eq h
      exact goes_iter hgo73 (x82.From, (IntKind.i64.wrap (steps_71 + 1))) () [0, 1, 2, 3, 4, 5, 6] rfl (qv9 rfl rfl rfl rfl rfl rfl rfl rfl rfl) (by decide) rfl
    ·replace h := cond_f h hc80
     refine run_exit _ rfl ?_
     refine goes_blk ?_
     obtain rfl := some_eq h
     obtain rfl := hstop74 _ rfl
     exact goes_cut hL68 ((), ()) [0, 1, 2, 3, 4, 5, 6] (qv6 rfl rfl rfl rfl rfl rfl) (by decide) rfl rfl
   rintro ⟨_, _⟩ hj
   obtain rfl : o66 = _ := hj
   replace h := after_go ho67
   clear ho67
   change Run _ _ _ (VF.of [(1, .int .i64 from_1), (3, can_3v), (4, boxP b1 0), (6, boxP b2 0), (104, .int .i64 n_0.Nodes), (105, .int .i64 s_60)]) [ro can_3v 1 (can_3.map eBool), box b1 [.int .i64 n_0.Nodes, n_0_Arcsv], ro n_0_Arcsv 4 (n_0.Arcs.map S_api_Arc.enc), box b2 [r_2_Distv, r_2_Viav, r_2_Cyclev], ro r_2_Distv 1 (r_2.Dist.map (eInt .i64)), ro r_2_Viav 1 (r_2.Via.map (eInt .i64)), ro r_2_Cyclev 1 (r_2.Cycle.map (eInt .i64))]
   refine run_region' ?_
   refine oy rfl rfl (y_add rfl rfl) ?_
   refine oy rfl rfl (y_move rfl) ?_
   refine ops_nil ?_
   obtain rfl := some_eq h
   exact goes_iter hgo62 (IntKind.i64.wrap (s_60 + 1)) () [0, 1, 2, 3, 4, 5, 6] rfl (qv6 rfl rfl rfl rfl rfl rfl) (by decide) rfl
  ·replace h := cond_f h hc65
   refine run_exit _ rfl ?_
   obtain rfl := some_eq h
   obtain rfl := hstop63 _ rfl
   exact goes_cut hL58 ((), ()) [] vnil (by decide) rfl rfl
 rintro ⟨_, _⟩ hj
 obtain rfl : o56 = _ := hj
 replace h := after_go ho57
 clear ho57
 change Run _ _ _ (VF.of []) []
 refine run_seq ?_
 refine run_region' ?_
 refine oy rfl rfl (y_assign rfl) ?_
 refine ops_nil ?_
 refine goes_code ?_
 refine run_ret ?_
 obtain rfl := some_eq h
 refine fin_slots [8] [.bool true] [] [] Try.results52 rfl (by decide) rfl ?_
 exact ⟨rfl, rfl⟩

def graph_CheckPaths_L1 (n_0 : S_api_Net) (r_2 : S_api_Routes) (r14 : (List Bool)) : (Int) → Option (Lp (Int) (Lp (Unit) (Bool))) :=
 fun s_42 =>
  cond (decide (s_42 < (n_0.Arcs.length : Int)))
   (idx n_0.Arcs s_42 fun x48 =>
   idx r14 x48.From fun x50 =>
   bindJ (S := Bool)
    (cond x50
     (idx r_2.Dist x48.To fun x57 =>
     idx r_2.Dist x48.From fun x58 =>
     some (.go (decide ((IntKind.i64.wrap (x58 + x48.Cost)) < x57))))
     (some (.go false)))
   (fun b51 =>
    cond b51
     (some (.stop (.stop false)))
     (some (.go (IntKind.i64.wrap (s_42 + 1))))))
   (some (.stop (.go ())))
def graph_CheckPaths (n : Nat) (n_0 : S_api_Net) (from_1 : Int) (r_2 : S_api_Routes) : Option (Bool) :=
 obind (graph_Valid n n_0) fun r3 =>
 bindJ (S := Bool)
  (cond (!r3)
   (some (.go true))
   (obind (graph_isNode n_0 from_1) fun r11 =>
   some (.go (!r11))))
 (fun b5 =>
  cond b5
   (some false)
   (obind (graph_search n n_0 from_1 false) fun r14 =>
   cond (decide (0 < (r_2.Cycle.length : Int)))
    (bindJ (S := Bool)
     (cond (decide ((IntKind.i64.wrap ((r_2.Dist.length : Int) + (r_2.Via.length : Int))) = 0))
      (obind (graph_isCycle n n_0 r_2.Cycle r14) fun r24 =>
      some (.go r24))
      (some (.go false)))
    (fun b18 =>
     some b18))
    (bindJ (S := Bool)
     (cond (decide ((r_2.Dist.length : Int) ≠ n_0.Nodes) || decide ((r_2.Via.length : Int) ≠ n_0.Nodes))
      (some (.go true))
      (obind (graph_isTree n n_0 from_1 r_2 r14) fun r35 =>
      some (.go (!r35))))
    (fun b29 =>
     cond b29
      (some false)
      (bindJ (S := Unit)
       (iter (graph_CheckPaths_L1 n_0 r_2 r14) n 0)
      (fun _ =>
       some true))))))
theorem graph_CheckPaths_ok (n : Nat) (n_0 : S_api_Net) (from_1 : Int) (r_2 : S_api_Routes) (n_0_Arcsv : Value) (r_2_Distv : Value) (r_2_Viav : Value) (r_2_Cyclev : Value) {r : Bool} (h : graph_CheckPaths n n_0 from_1 r_2 = some r) :
  Meets Try.prog 24 [.agg #[.int .i64 n_0.Nodes, n_0_Arcsv], .int .i64 from_1, .agg #[r_2_Distv, r_2_Viav, r_2_Cyclev]] [ro n_0_Arcsv 4 (n_0.Arcs.map S_api_Arc.enc), ro r_2_Distv 1 (r_2.Dist.map (eInt .i64)), ro r_2_Viav 1 (r_2.Via.map (eInt .i64)), ro r_2_Cyclev 1 (r_2.Cycle.map (eInt .i64))] (fun v G => v = .bool r ∧ G = []) := by
 refine fn_of_run Try.func24 rfl Try.ntmps24 rfl (fun w0 o0 => ?_)
 refine run_seq ?_
 refine run_region' ?_
 refine ot rfl rfl (t_box rfl) ?_
 rintro _ _ ⟨b1, rfl, rfl⟩
 refine ot rfl rfl (t_box rfl) ?_
 rintro _ _ ⟨b2, rfl, rfl⟩
 refine oy rfl rfl (y_assign rfl) ?_
 refine ops_nil ?_
 refine goes_code ?_
 refine run_seq ?_
 refine run_seq ?_
 refine run_region' ?_
 refine oy rfl rfl (y_load_boxagg (c := [.int .i64 n_0.Nodes, n_0_Arcsv]) 4 Try.isAgg24 Try.sizeOf24 rfl rfl rfl) ?_
 obtain ⟨r3, hr4, h⟩ := obind_some h
 refine ot rfl rfl (t_callx (vs := [.agg #[.int .i64 n_0.Nodes, n_0_Arcsv]]) (cs := []) [(0, 0)] rfl Try.call17 rfl (graph_Valid_ok n n_0 n_0_Arcsv hr4) (showsX_view 0 rfl views_ro showsX_nil) rfl (.inl rfl)) ?_
 rintro _ _ ⟨_, ⟨rfl, rfl⟩, rfl⟩
 refine oy rfl rfl (y_not rfl) ?_
 refine oy rfl rfl (y_move rfl) ?_
 obtain ⟨o6, h, ho7⟩ := bindJ_some h
 refine ops_cut 5 (Bool) (fun σ => [(1, .int .i64 from_1), (3, boxP b1 0), (5, boxP b2 0), (18, .bool σ)]) (fun σ => [ro n_0_Arcsv 4 (n_0.Arcs.map S_api_Arc.enc), ro r_2_Distv 1 (r_2.Dist.map (eInt .i64)), ro r_2_Viav 1 (r_2.Via.map (eInt .i64)), ro r_2_Cyclev 1 (r_2.Cycle.map (eInt .i64)), box b1 [.int .i64 n_0.Nodes, n_0_Arcsv], box b2 [r_2_Distv, r_2_Viav, r_2_Cyclev]]) (fun σ => o6 = .go σ) (fun L8 hL9 => ?_) ?_
 ·refine ops_split 13 (!r3) rfl (fun hg10 => ?_) (fun hg10 => ?_)
  ·replace h := cond_t h hg10
   refine ops_no 3 false 13 rfl rfl rfl rfl rfl ?_
   refine ops_no 3 false 13 rfl rfl rfl rfl rfl ?_
   refine ops_no 3 false 13 rfl rfl rfl rfl rfl ?_
   refine ops_no 3 false 13 rfl rfl rfl rfl rfl ?_
   refine oy rfl rfl (y_pick (b := true) rfl rfl) ?_
   refine ops_nil ?_
   obtain rfl := some_eq h
   exact goes_cut hL9 true [0, 1, 2, 3, 4, 5] (qv4 rfl rfl rfl rfl) (by decide) rfl rfl
  ·replace h := cond_f h hg10
   refine ops_y (wg 3 false 13 rfl rfl rfl rfl) rfl (y_load_boxagg (c := [.int .i64 n_0.Nodes, n_0_Arcsv]) 4 Try.isAgg24 Try.sizeOf24 rfl rfl rfl) ?_
   refine ops_y (wg 3 false 13 rfl rfl rfl rfl) rfl (y_move rfl) ?_
   obtain ⟨r11, hr12, h⟩ := obind_some h
   refine ops_t (wg 3 false 13 rfl rfl rfl rfl) rfl (t_callx (vs := [.agg #[.int .i64 n_0.Nodes, n_0_Arcsv], .int .i64 from_1]) (cs := []) [(0, 0)] rfl Try.call34 rfl (graph_isNode_ok n_0 from_1 n_0_Arcsv hr12) (showsX_view 0 rfl views_ro showsX_nil) rfl (.inl rfl)) ?_
   rintro _ _ ⟨_, ⟨rfl, rfl⟩, rfl⟩
   refine ops_y (wg 3 false 13 rfl rfl rfl rfl) rfl (y_not rfl) ?_
   refine oy rfl rfl (y_pick (b := false) rfl rfl) ?_
   refine ops_nil ?_
   obtain rfl := some_eq h
   exact goes_cut hL9 (!r11) [0, 1, 2, 3, 4, 5] (qv4 rfl rfl rfl rfl) (by decide) rfl rfl
 rintro b5 hj
 obtain rfl : o6 = _ := hj
 replace h := after_go ho7
 clear ho7
 refine ops_nil ?_
 refine goes_code ?_
 refine run_cond b5 rfl (fun hc13 => ?_) (fun hc13 => ?_)
 ·replace h := cond_t h hc13
  refine run_seq ?_
  refine run_region' ?_
  refine oy rfl rfl (y_assign rfl) ?_
  refine ops_nil ?_
  refine goes_code ?_
  refine run_ret ?_
  obtain rfl := some_eq h
  refine fin_slots [6] [.bool false] [] [] Try.results24 rfl (by decide) rfl ?_
  exact ⟨rfl, rfl⟩
 ·replace h := cond_f h hc13
  refine run_skip ?_
  refine goes_code ?_
  refine run_seq ?_
  refine run_region' ?_
  refine oy rfl rfl (y_load_boxagg (c := [.int .i64 n_0.Nodes, n_0_Arcsv]) 4 Try.isAgg24 Try.sizeOf24 rfl rfl rfl) ?_
  refine oy rfl rfl (y_move rfl) ?_
  obtain ⟨r14, hr15, h⟩ := obind_some h
  refine ot rfl rfl (t_callx (vs := [.agg #[.int .i64 n_0.Nodes, n_0_Arcsv], .int .i64 from_1, .bool false]) (cs := []) [(0, 0)] rfl Try.call35 rfl (graph_search_ok n n_0 from_1 false n_0_Arcsv hr15) (showsX_view 0 rfl views_ro showsX_nil) rfl (.inl rfl)) ?_
  rintro v16 _ ⟨_, ⟨_, rfl, rfl⟩, rfl⟩
  refine oy rfl rfl (y_assign rfl) ?_
  refine ops_nil ?_
  refine goes_code ?_
  refine run_seq ?_
  refine run_seq ?_
  refine run_region' ?_
  refine oy rfl rfl (y_fieldAddr_box (sz := 0) Try.runUnderlying51 rfl Try.sizeOf34 rfl) ?_
  refine oy rfl rfl (y_load_box 5 Try.isAgg34 rfl rfl rfl) ?_
  refine oy rfl rfl ((y_len 3 rfl Try.runUnderlying34 rfl rfl reads_ro).to (v_len (eInt .i64) _)) ?_
  refine oy rfl rfl (y_gtr rfl rfl) ?_
  refine ops_nil ?_
  refine goes_code ?_
  refine run_cond (decide (0 < (r_2.Cycle.length : Int))) rfl (fun hc17 => ?_) (fun hc17 => ?_)
  ·replace h := cond_t h hc17
   refine run_seq ?_
   refine run_weak [(3, boxP b1 0), (5, boxP b2 0), (7, v16)] [0, 1, 2, 3, 4, 5, 6] [ro n_0_Arcsv 4 (n_0.Arcs.map S_api_Arc.enc), ro r_2_Distv 1 (r_2.Dist.map (eInt .i64)), ro r_2_Viav 1 (r_2.Via.map (eInt .i64)), ro r_2_Cyclev 1 (r_2.Cycle.map (eInt .i64)), box b1 [.int .i64 n_0.Nodes, n_0_Arcsv], box b2 [r_2_Distv, r_2_Viav, r_2_Cyclev], row v16 1 (r14.map eBool)] (qv3 rfl rfl rfl) (by decide) rfl ?_
   refine run_region' ?_
   refine oy rfl rfl (y_fieldAddr_box (sz := 0) Try.runUnderlying51 rfl Try.sizeOf34 rfl) ?_
   refine oy rfl rfl (y_load_box 5 Try.isAgg34 rfl rfl rfl) ?_
   refine oy rfl rfl ((y_len 1 rfl Try.runUnderlying34 rfl rfl reads_ro).to (v_len (eInt .i64) _)) ?_
   refine oy rfl rfl (y_fieldAddr_box (sz := 0) Try.runUnderlying51 rfl Try.sizeOf34 rfl) ?_
   refine oy rfl rfl (y_load_box 5 Try.isAgg34 rfl rfl rfl) ?_
   refine oy rfl rfl ((y_len 2 rfl Try.runUnderlying34 rfl rfl reads_ro).to (v_len (eInt .i64) _)) ?_
   refine oy rfl rfl (y_add rfl rfl) ?_
   refine oy rfl rfl (y_eql rfl rfl) ?_
   refine oy rfl rfl (y_move rfl) ?_
   obtain ⟨o19, h, ho20⟩ := bindJ_some h
   refine ops_cut 6 (Bool) (fun σ => [(40, .bool σ)]) (fun σ => []) (fun σ => o19 = .go σ) (fun L21 hL22 => ?_) ?_
   ·refine ops_split 34 (decide ((IntKind.i64.wrap ((r_2.Dist.length : Int) + (r_2.Via.length : Int))) = 0)) rfl (fun hg23 => ?_) (fun hg23 => ?_)
    ·replace h := cond_t h hg23
     refine ops_y (wg 8 true 34 rfl rfl rfl rfl) rfl (y_load_boxagg (c := [.int .i64 n_0.Nodes, n_0_Arcsv]) 4 Try.isAgg24 Try.sizeOf24 rfl rfl rfl) ?_
     refine ops_y (wg 8 true 34 rfl rfl rfl rfl) rfl (y_fieldAddr_box (sz := 0) Try.runUnderlying51 rfl Try.sizeOf34 rfl) ?_
     refine ops_y (wg 8 true 34 rfl rfl rfl rfl) rfl (y_load_box 5 Try.isAgg34 rfl rfl rfl) ?_
     refine ops_y (wg 8 true 34 rfl rfl rfl rfl) rfl (y_move rfl) ?_
     obtain ⟨r24, hr25, h⟩ := obind_some h
     refine ops_t (wg 8 true 34 rfl rfl rfl rfl) rfl (t_callx (vs := [.agg #[.int .i64 n_0.Nodes, n_0_Arcsv], r_2_Cyclev, v16]) (cs := []) [(0, 0), (3, 0), (6, 1)] rfl Try.call51 rfl (graph_isCycle_ok n n_0 r_2.Cycle r14 n_0_Arcsv r_2_Cyclev v16 hr25) (showsX_view 0 rfl views_ro (showsX_view 3 rfl views_ro (showsX_look 6 rfl views_row showsX_nil))) rfl (.inr (by rintro _ _ ⟨rfl, rfl⟩ g hg; first | (cases hg; done) | (simp only [List.mem_cons, List.not_mem_nil, or_false] at hg; first | (subst hg; first | exact strict_row | exact strict_box) | (rcases hg with rfl | rfl <;> first | exact strict_row | exact strict_box) | (rcases hg with rfl | rfl | rfl <;> first | exact strict_row | exact strict_box))))) ?_
     rintro _ _ ⟨_, ⟨rfl, rfl⟩, rfl⟩
     refine oy rfl rfl (y_pick (b := true) rfl rfl) ?_
     refine ops_nil ?_
     obtain rfl := some_eq h
     exact goes_cut hL22 r24 [] (qv1 rfl) (by decide) rfl rfl
    ·replace h := cond_f h hg23
     refine ops_no 8 true 34 rfl rfl rfl rfl rfl ?_
     refine ops_no 8 true 34 rfl rfl rfl rfl rfl ?_
     refine ops_no 8 true 34 rfl rfl rfl rfl rfl ?_
     refine ops_no 8 true 34 rfl rfl rfl rfl rfl ?_
     refine ops_no 8 true 34 rfl rfl rfl rfl rfl ?_
     refine oy rfl rfl (y_pick (b := false) rfl rfl) ?_
     refine ops_nil ?_
     obtain rfl := some_eq h
     exact goes_cut hL22 false [] (qv1 rfl) (by decide) rfl rfl
   rintro b18 hj
   obtain rfl : o19 = _ := hj
   replace h := after_go ho20
   clear ho20
   refine oy rfl rfl (y_assign rfl) ?_
   refine ops_nil ?_
   refine goes_code ?_
   refine run_ret ?_
   obtain rfl := some_eq h
   refine fin_slots [6] [.bool b18] [] [] Try.results24 rfl (by decide) rfl ?_
   exact ⟨rfl, rfl⟩
  ·replace h := cond_f h hc17
   refine run_skip ?_
   refine goes_code ?_
   refine run_seq ?_
   refine run_seq ?_
   refine run_weak [(1, .int .i64 from_1), (3, boxP b1 0), (5, boxP b2 0), (7, v16)] [0, 1, 2, 3, 4, 5, 6] [ro n_0_Arcsv 4 (n_0.Arcs.map S_api_Arc.enc), ro r_2_Distv 1 (r_2.Dist.map (eInt .i64)), ro r_2_Viav 1 (r_2.Via.map (eInt .i64)), ro r_2_Cyclev 1 (r_2.Cycle.map (eInt .i64)), box b1 [.int .i64 n_0.Nodes, n_0_Arcsv], box b2 [r_2_Distv, r_2_Viav, r_2_Cyclev], row v16 1 (r14.map eBool)] (qv4 rfl rfl rfl rfl) (by decide) rfl ?_
   refine run_region' ?_
   refine oy rfl rfl (y_fieldAddr_box (sz := 0) Try.runUnderlying51 rfl Try.sizeOf34 rfl) ?_
   refine oy rfl rfl (y_load_box 5 Try.isAgg34 rfl rfl rfl) ?_
   refine oy rfl rfl ((y_len 1 rfl Try.runUnderlying34 rfl rfl reads_ro).to (v_len (eInt .i64) _)) ?_
   refine oy rfl rfl (y_fieldAddr_box (sz := 0) Try.runUnderlying24 rfl Try.sizeOf3 rfl) ?_
   refine oy rfl rfl (y_load_box 4 Try.isAgg3 rfl rfl rfl) ?_
   refine oy rfl rfl (y_neq rfl rfl) ?_
   refine oy rfl rfl (y_move rfl) ?_
   refine ops_cut 7 (Bool) (fun σ => [(1, .int .i64 from_1), (3, boxP b1 0), (5, boxP b2 0), (7, v16), (54, .bool σ)]) (fun σ => [ro n_0_Arcsv 4 (n_0.Arcs.map S_api_Arc.enc), ro r_2_Distv 1 (r_2.Dist.map (eInt .i64)), ro r_2_Viav 1 (r_2.Via.map (eInt .i64)), ro r_2_Cyclev 1 (r_2.Cycle.map (eInt .i64)), box b1 [.int .i64 n_0.Nodes, n_0_Arcsv], box b2 [r_2_Distv, r_2_Viav, r_2_Cyclev], row v16 1 (r14.map eBool)]) (fun σ => σ = (decide ((r_2.Dist.length : Int) ≠ n_0.Nodes) || decide ((r_2.Via.length : Int) ≠ n_0.Nodes))) (fun L26 hL27 => ?_) ?_
   ·refine ops_split 47 (decide ((r_2.Dist.length : Int) ≠ n_0.Nodes)) rfl (fun hg28 => ?_) (fun hg28 => ?_)
    ·skip
     refine ops_no 6 false 47 rfl rfl rfl rfl rfl ?_
     refine ops_no 6 false 47 rfl rfl rfl rfl rfl ?_
     refine ops_no 6 false 47 rfl rfl rfl rfl rfl ?_
     refine ops_no 6 false 47 rfl rfl rfl rfl rfl ?_
     refine ops_no 6 false 47 rfl rfl rfl rfl rfl ?_
     refine ops_no 6 false 47 rfl rfl rfl rfl rfl ?_
     refine oy rfl rfl (y_pick (b := true) rfl rfl) ?_
     refine ops_nil ?_
     exact goes_cut hL27 true [0, 1, 2, 3, 4, 5, 6] (qv5 rfl rfl rfl rfl rfl) (by decide) rfl (by rw [hg28]; simp)
    ·skip
     refine ops_y (wg 6 false 47 rfl rfl rfl rfl) rfl (y_fieldAddr_box (sz := 0) Try.runUnderlying51 rfl Try.sizeOf34 rfl) ?_
     refine ops_y (wg 6 false 47 rfl rfl rfl rfl) rfl (y_load_box 5 Try.isAgg34 rfl rfl rfl) ?_
     refine ops_y (wg 6 false 47 rfl rfl rfl rfl) rfl ((y_len 2 rfl Try.runUnderlying34 rfl rfl reads_ro).to (v_len (eInt .i64) _)) ?_
     refine ops_y (wg 6 false 47 rfl rfl rfl rfl) rfl (y_fieldAddr_box (sz := 0) Try.runUnderlying24 rfl Try.sizeOf3 rfl) ?_
     refine ops_y (wg 6 false 47 rfl rfl rfl rfl) rfl (y_load_box 4 Try.isAgg3 rfl rfl rfl) ?_
     refine ops_y (wg 6 false 47 rfl rfl rfl rfl) rfl (y_neq rfl rfl) ?_
     refine oy rfl rfl (y_pick (b := false) rfl rfl) ?_
     refine ops_nil ?_
     exact goes_cut hL27 (decide ((r_2.Via.length : Int) ≠ n_0.Nodes)) [0, 1, 2, 3, 4, 5, 6] (qv5 rfl rfl rfl rfl rfl) (by decide) rfl (by rw [hg28]; simp)
   rintro _ rfl
   refine oy rfl rfl (y_move rfl) ?_
   obtain ⟨o30, h, ho31⟩ := bindJ_some h
   refine ops_cut 7 (Bool) (fun σ => [(3, boxP b1 0), (5, boxP b2 0), (7, v16), (62, .bool σ)]) (fun σ => [ro n_0_Arcsv 4 (n_0.Arcs.map S_api_Arc.enc), ro r_2_Distv 1 (r_2.Dist.map (eInt .i64)), ro r_2_Viav 1 (r_2.Via.map (eInt .i64)), ro r_2_Cyclev 1 (r_2.Cycle.map (eInt .i64)), box b1 [.int .i64 n_0.Nodes, n_0_Arcsv], box b2 [r_2_Distv, r_2_Viav, r_2_Cyclev], row v16 1 (r14.map eBool)]) (fun σ => o30 = .go σ) (fun L32 hL33 => ?_) ?_
   ·refine ops_split 55 (decide ((r_2.Dist.length : Int) ≠ n_0.Nodes) || decide ((r_2.Via.length : Int) ≠ n_0.Nodes)) rfl (fun hg34 => ?_) (fun hg34 => ?_)
    ·replace h := cond_t h hg34
     refine ops_no 14 false 55 rfl rfl rfl rfl rfl ?_
     refine ops_no 14 false 55 rfl rfl rfl rfl rfl ?_
     refine ops_no 14 false 55 rfl rfl rfl rfl rfl ?_
     refine ops_no 14 false 55 rfl rfl rfl rfl rfl ?_
     refine ops_no 14 false 55 rfl rfl rfl rfl rfl ?_
     refine ops_no 14 false 55 rfl rfl rfl rfl rfl ?_
     refine oy rfl rfl (y_pick (b := true) rfl rfl) ?_
     refine ops_nil ?_
     obtain rfl := some_eq h
     exact goes_cut hL33 true [0, 1, 2, 3, 4, 5, 6] (qv4 rfl rfl rfl rfl) (by decide) rfl rfl
    ·replace h := cond_f h hg34
     refine ops_y (wg 14 false 55 rfl rfl rfl rfl) rfl (y_load_boxagg (c := [.int .i64 n_0.Nodes, n_0_Arcsv]) 4 Try.isAgg24 Try.sizeOf24 rfl rfl rfl) ?_
     refine ops_y (wg 14 false 55 rfl rfl rfl rfl) rfl (y_move rfl) ?_
     refine ops_y (wg 14 false 55 rfl rfl rfl rfl) rfl (y_load_boxagg (c := [r_2_Distv, r_2_Viav, r_2_Cyclev]) 5 Try.isAgg51 Try.sizeOf51 rfl rfl rfl) ?_
     refine ops_y (wg 14 false 55 rfl rfl rfl rfl) rfl (y_move rfl) ?_
     obtain ⟨r35, hr36, h⟩ := obind_some h
     refine ops_t (wg 14 false 55 rfl rfl rfl rfl) rfl (t_callx (vs := [.agg #[.int .i64 n_0.Nodes, n_0_Arcsv], .int .i64 from_1, .agg #[r_2_Distv, r_2_Viav, r_2_Cyclev], v16]) (cs := []) [(0, 0), (1, 0), (2, 0), (3, 0), (6, 1)] rfl Try.call52 rfl (graph_isTree_ok n n_0 from_1 r_2 r14 n_0_Arcsv r_2_Distv r_2_Viav r_2_Cyclev v16 hr36) (showsX_view 0 rfl views_ro (showsX_view 1 rfl views_ro (showsX_view 2 rfl views_ro (showsX_view 3 rfl views_ro (showsX_look 6 rfl views_row showsX_nil))))) rfl (.inr (by rintro _ _ ⟨rfl, rfl⟩ g hg; first | (cases hg; done) | (simp only [List.mem_cons, List.not_mem_nil, or_false] at hg; first | (subst hg; first | exact strict_row | exact strict_box) | (rcases hg with rfl | rfl <;> first | exact strict_row | exact strict_box) | (rcases hg with rfl | rfl | rfl <;> first | exact strict_row | exact strict_box))))) ?_
     rintro _ _ ⟨_, ⟨rfl, rfl⟩, rfl⟩
     refine ops_y (wg 14 false 55 rfl rfl rfl rfl) rfl (y_not rfl) ?_
     refine oy rfl rfl (y_pick (b := false) rfl rfl) ?_
     refine ops_nil ?_
     obtain rfl := some_eq h
     exact goes_cut hL33 (!r35) [0, 1, 2, 3, 4, 5, 6] (qv4 rfl rfl rfl rfl) (by decide) rfl rfl
   rintro b29 hj
   obtain rfl : o30 = _ := hj
   replace h := after_go ho31
   clear ho31
   refine ops_nil ?_
   refine goes_code ?_
   refine run_cond b29 rfl (fun hc37 => ?_) (fun hc37 => ?_)
   ·replace h := cond_t h hc37
    refine run_seq ?_
    refine run_region' ?_
    refine oy rfl rfl (y_assign rfl) ?_
    refine ops_nil ?_
    refine goes_code ?_
    refine run_ret ?_
    obtain rfl := some_eq h
    refine fin_slots [6] [.bool false] [] [] Try.results24 rfl (by decide) rfl ?_
    exact ⟨rfl, rfl⟩
   ·replace h := cond_f h hc37
    refine run_skip ?_
    refine goes_code ?_
    obtain ⟨o38, h, ho39⟩ := bindJ_some h
    refine run_cut ((Unit) × (Unit)) (fun σ => []) (fun σ => []) (fun σ => o38 = .go σ.1) (fun L41 hL40 => ?_) ?_
    ·
     refine run_seq ?_
     refine run_region' ?_
     refine oy rfl rfl (y_fieldAddr_box (sz := 0) Try.runUnderlying24 rfl Try.sizeOf22 rfl) ?_
     refine oy rfl rfl (y_load_box 4 Try.isAgg22 rfl rfl rfl) ?_
     refine oy rfl rfl ((y_len 0 rfl Try.runUnderlying22 rfl rfl reads_ro).to (v_len S_api_Arc.enc _)) ?_
     refine oy rfl rfl (y_move rfl) ?_
     refine ops_nil ?_
     refine goes_code ?_
     refine run_block ?_
     refine run_iter (step := graph_CheckPaths_L1 n_0 r_2 r14) (n := n) (s0 := 0) h (G := Unit) () (fun σ γ => [(5, boxP b2 0), (7, v16), (64, n_0_Arcsv), (65, .int .i64 (n_0.Arcs.length : Int)), (66, .int .i64 σ)]) (fun σ γ => [box b2 [r_2_Distv, r_2_Viav, r_2_Cyclev], ro r_2_Distv 1 (r_2.Dist.map (eInt .i64)), ro r_2_Viav 1 (r_2.Via.map (eInt .i64)), ro r_2_Cyclev 1 (r_2.Cycle.map (eInt .i64)), row v16 1 (r14.map eBool), ro n_0_Arcsv 4 (n_0.Arcs.map S_api_Arc.enc)]) [5, 1, 2, 3, 6, 0] (qv5 rfl rfl rfl rfl rfl) (by decide) rfl ?_
     rintro s_42 _ o43 h L46 hgo44 hstop45
     change Run _ _ _ (VF.of [(5, boxP b2 0), (7, v16), (64, n_0_Arcsv), (65, .int .i64 (n_0.Arcs.length : Int)), (66, .int .i64 s_42)]) [box b2 [r_2_Distv, r_2_Viav, r_2_Cyclev], ro r_2_Distv 1 (r_2.Dist.map (eInt .i64)), ro r_2_Viav 1 (r_2.Via.map (eInt .i64)), ro r_2_Cyclev 1 (r_2.Cycle.map (eInt .i64)), row v16 1 (r14.map eBool), ro n_0_Arcsv 4 (n_0.Arcs.map S_api_Arc.enc)]
     refine run_seq ?_
     refine run_region' ?_
     refine oy rfl rfl (y_lss rfl rfl) ?_
     refine ops_nil ?_
     refine goes_code ?_
     refine run_seq ?_
     refine run_cond (decide (s_42 < (n_0.Arcs.length : Int))) rfl (fun hc47 => ?_) (fun hc47 => ?_)
     ·replace h := cond_t h hc47
      refine run_skip ?_
      refine goes_code ?_
      refine run_seq ?_
      refine run_block ?_
      refine run_seq ?_
      refine run_region' ?_
      obtain ⟨x48, hzx48, hlx48, hxx48, h⟩ := idx_some h
      refine oy rfl rfl (y_indexAddrI (kd := .i64) (i := s_42) 5 Try.runUnderlying22 Try.sizeOf67 rfl rfl rfl reads_ro hzx48 (map_lt hlx48)) ?_
      refine oy rfl rfl (y_load_agg (i := s_42.toNat) (c := [.int .i64 x48.From, .int .i64 x48.To, .int .i64 x48.Cap, .int .i64 x48.Cost]) 5 Try.isAgg67 Try.sizeOf67 rfl rfl reads_ro (map_get hxx48)) ?_
      refine ot rfl rfl (t_alloc Try.zeroValue67) ?_
      rintro _ _ ⟨b49, rfl, rfl⟩
      refine ot rfl rfl (t_store 6 Try.sizeOf67 rfl rfl rfl rfl (by simp [Value.cells, boxP]) (by simp [Value.cells, Value.oneCell', boxP])) ?_
      rintro _ _ ⟨rfl, rfl⟩
      refine ops_turn (retell 6 (g := box b49 [.int .i64 x48.From, .int .i64 x48.To, .int .i64 x48.Cap, .int .i64 x48.Cost]) rfl rfl) ?_
      refine ops_nil ?_
      refine goes_code ?_
      refine run_seq ?_
      refine run_draw (by kernel_rfl) (by kernel_rfl) ?_
      refine sy rfl rfl (y_move rfl) ?_
      refine sy rfl rfl (y_fieldAddr_box (sz := 0) Try.runUnderlying67 rfl Try.sizeOf3 rfl) ?_
      refine sy rfl rfl (y_load_box 6 Try.isAgg3 rfl rfl rfl) ?_
      obtain ⟨x50, hzx50, hlx50, hxx50, h⟩ := idx_some h
      refine sy rfl rfl (y_indexAddrI (kd := .i64) (i := x48.From) 4 Try.runUnderlying27 Try.sizeOf4 rfl rfl rfl reads_row hzx50 (map_lt hlx50)) ?_
      refine sy rfl rfl (y_load_elem (i := (x48.From).toNat) 4 Try.isAgg4 rfl rfl reads_row (map_get hxx50)) ?_
      refine sy rfl rfl (y_move rfl) ?_
      obtain ⟨o52, h, ho53⟩ := bindJ_some h
      refine still_cut 17 (Bool) (fun σ => [(5, boxP b2 0), (7, v16), (64, n_0_Arcsv), (65, .int .i64 (n_0.Arcs.length : Int)), (66, .int .i64 s_42), (92, .bool σ)]) (fun σ => [box b2 [r_2_Distv, r_2_Viav, r_2_Cyclev], ro r_2_Distv 1 (r_2.Dist.map (eInt .i64)), ro r_2_Viav 1 (r_2.Via.map (eInt .i64)), ro r_2_Cyclev 1 (r_2.Cycle.map (eInt .i64)), row v16 1 (r14.map eBool), ro n_0_Arcsv 4 (n_0.Arcs.map S_api_Arc.enc), box b49 [.int .i64 x48.From, .int .i64 x48.To, .int .i64 x48.Cap, .int .i64 x48.Cost]]) (fun σ => o52 = .go σ) (fun L54 hL55 => ?_) ?_
      ·refine still_split 75 x50 rfl (fun hg56 => ?_) (fun hg56 => ?_)
       ·replace h := cond_t h hg56
        refine still_y (wg 5 true 75 rfl rfl rfl rfl) rfl (y_fieldAddr_box (sz := 0) Try.runUnderlying51 rfl Try.sizeOf34 rfl) ?_
        refine still_y (wg 5 true 75 rfl rfl rfl rfl) rfl (y_load_box 0 Try.isAgg34 rfl rfl rfl) ?_
        refine still_y (wg 5 true 75 rfl rfl rfl rfl) rfl (y_fieldAddr_box (sz := 0) Try.runUnderlying67 rfl Try.sizeOf3 rfl) ?_
        refine still_y (wg 5 true 75 rfl rfl rfl rfl) rfl (y_load_box 6 Try.isAgg3 rfl rfl rfl) ?_
        obtain ⟨x57, hzx57, hlx57, hxx57, h⟩ := idx_some h
        refine still_y (wg 5 true 75 rfl rfl rfl rfl) rfl (y_indexAddrI (kd := .i64) (i := x48.To) 1 Try.runUnderlying34 Try.sizeOf3 rfl rfl rfl reads_ro hzx57 (map_lt hlx57)) ?_
        refine still_y (wg 5 true 75 rfl rfl rfl rfl) rfl (y_load_elem (i := (x48.To).toNat) 1 Try.isAgg3 rfl rfl reads_ro (map_get hxx57)) ?_
        refine still_y (wg 5 true 75 rfl rfl rfl rfl) rfl (y_fieldAddr_box (sz := 0) Try.runUnderlying51 rfl Try.sizeOf34 rfl) ?_
        refine still_y (wg 5 true 75 rfl rfl rfl rfl) rfl (y_load_box 0 Try.isAgg34 rfl rfl rfl) ?_
        refine still_y (wg 5 true 75 rfl rfl rfl rfl) rfl (y_fieldAddr_box (sz := 0) Try.runUnderlying67 rfl Try.sizeOf3 rfl) ?_
        refine still_y (wg 5 true 75 rfl rfl rfl rfl) rfl (y_load_box 6 Try.isAgg3 rfl rfl rfl) ?_
        obtain ⟨x58, hzx58, hlx58, hxx58, h⟩ := idx_some h
        refine still_y (wg 5 true 75 rfl rfl rfl rfl) rfl (y_indexAddrI (kd := .i64) (i := x48.From) 1 Try.runUnderlying34 Try.sizeOf3 rfl rfl rfl reads_ro hzx58 (map_lt hlx58)) ?_
        refine still_y (wg 5 true 75 rfl rfl rfl rfl) rfl (y_load_elem (i := (x48.From).toNat) 1 Try.isAgg3 rfl rfl reads_ro (map_get hxx58)) ?_
        refine still_y (wg 5 true 75 rfl rfl rfl rfl) rfl (y_fieldAddr_box (sz := 0) Try.runUnderlying67 rfl Try.sizeOf3 rfl) ?_
        refine still_y (wg 5 true 75 rfl rfl rfl rfl) rfl (y_load_box 6 Try.isAgg3 rfl rfl rfl) ?_
        refine still_y (wg 5 true 75 rfl rfl rfl rfl) rfl (y_add rfl rfl) ?_
        refine still_y (wg 5 true 75 rfl rfl rfl rfl) rfl (y_gtr rfl rfl) ?_
        refine sy rfl rfl (y_pick (b := true) rfl rfl) ?_
        refine still_nil ?_
        obtain rfl := some_eq h
        exact goes_cut hL55 (decide ((IntKind.i64.wrap (x58 + x48.Cost)) < x57)) [0, 1, 2, 3, 4, 5, 6] (qv6 rfl rfl rfl rfl rfl rfl) (by decide) rfl rfl
       ·replace h := cond_f h hg56
        refine still_no 5 true 75 rfl rfl rfl rfl rfl ?_
        refine still_no 5 true 75 rfl rfl rfl rfl rfl ?_
        refine still_no 5 true 75 rfl rfl rfl rfl rfl ?_
        refine still_no 5 true 75 rfl rfl rfl rfl rfl ?_
        refine still_no 5 true 75 rfl rfl rfl rfl rfl ?_
        refine still_no 5 true 75 rfl rfl rfl rfl rfl ?_
        refine still_no 5 true 75 rfl rfl rfl rfl rfl ?_
        refine still_no 5 true 75 rfl rfl rfl rfl rfl ?_
        refine still_no 5 true 75 rfl rfl rfl rfl rfl ?_
        refine still_no 5 true 75 rfl rfl rfl rfl rfl ?_
        refine still_no 5 true 75 rfl rfl rfl rfl rfl ?_
        refine still_no 5 true 75 rfl rfl rfl rfl rfl ?_
        refine still_no 5 true 75 rfl rfl rfl rfl rfl ?_
        refine still_no 5 true 75 rfl rfl rfl rfl rfl ?_
        refine still_no 5 true 75 rfl rfl rfl rfl rfl ?_
        refine still_no 5 true 75 rfl rfl rfl rfl rfl ?_
        refine sy rfl rfl (y_pick (b := false) rfl rfl) ?_
        refine still_nil ?_
        obtain rfl := some_eq h
        exact goes_cut hL55 false [0, 1, 2, 3, 4, 5, 6] (qv6 rfl rfl rfl rfl rfl rfl) (by decide) rfl rfl
      rintro b51 hj
      obtain rfl : o52 = _ := hj
      replace h := after_go ho53
      clear ho53
      refine still_nil ?_
      refine goes_code ?_
      refine run_cond b51 rfl (fun hc59 => ?_) (fun hc59 => ?_)
      ·replace h := cond_t h hc59
       refine run_seq ?_
       refine run_region' ?_
       refine oy rfl rfl (y_assign rfl) ?_
       refine ops_nil ?_
       refine goes_code ?_
       refine run_ret ?_
       obtain rfl := some_eq h
       obtain rfl := hstop45 _ rfl
       skip
       obtain rfl := after_stop ho39
       refine fin_slots [6] [.bool false] [] [] Try.results24 rfl (by decide) rfl ?_
       exact ⟨rfl, rfl⟩
      ·replace h := cond_f h hc59
       refine run_skip ?_
       refine goes_blk ?_
       refine goes_code ?_
       refine run_region' ?_
       refine oy rfl rfl (y_add rfl rfl) ?_
       refine oy rfl rfl (y_move rfl) ?_
       refine ops_nil ?_
       obtain rfl := some_eq h
       exact goes_iter hgo44 (IntKind.i64.wrap (s_42 + 1)) () [0, 1, 2, 3, 4, 5] rfl (qv5 rfl rfl rfl rfl rfl) (by decide) rfl
     ·replace h := cond_f h hc47
      refine run_exit _ rfl ?_
      obtain rfl := some_eq h
      obtain rfl := hstop45 _ rfl
      exact goes_cut hL40 ((), ()) [] vnil (by decide) rfl rfl
    rintro ⟨_, _⟩ hj
    obtain rfl : o38 = _ := hj
    replace h := after_go ho39
    clear ho39
    change Run _ _ _ (VF.of []) []
    refine run_seq ?_
    refine run_region' ?_
    refine oy rfl rfl (y_assign rfl) ?_
    refine ops_nil ?_
    refine goes_code ?_
    refine run_ret ?_
    obtain rfl := some_eq h
    refine fin_slots [6] [.bool true] [] [] Try.results24 rfl (by decide) rfl ?_
    exact ⟨rfl, rfl⟩

end Go.Proofs.Ytgelifcckhemiaa
