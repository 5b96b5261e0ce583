/-
  Functions of the program, lifted: part 3.
-/
import Derived.Test.YtgjdaamkfpbgpaaFb
namespace Go.Proofs.Ytgjdaamkfpbgpaa
open Go.Abs
set_option linter.unusedVariables false
set_option linter.unusedSimpArgs false
set_option maxRecDepth 20000
set_option maxHeartbeats 4000000

def weirgate_compile_types_leaf_66 (t_0 : S_compile_types) (x_1 : S_api_Instr) : Option (Int) :=
 bindJ (S := Bool)
  (cond (((decide (x_1.Op = 1) && decide (x_1.S = [])) && decide (0 ≤ x_1.A)) && decide (x_1.A < 1000000000000000000))
   (some (.go (((decide (x_1.Op = 1) && decide (x_1.S = [])) && decide (0 ≤ x_1.A)) && decide (x_1.A < 1000000000000000000))))
   (some (.go (decide (x_1.Op = 7) && (decide (x_1.A = 0) && decide (x_1.S = []))))))
 (fun s_6 =>
  cond s_6
   (some 1)
   (cond (((decide (x_1.Op = 2) || decide (x_1.Op = 6)) && decide (x_1.A = 0)) && decide ((x_1.S.length : Int) ≤ 200))
    (some 2)
    (cond ((decide (x_1.Op = 4) || decide (x_1.Op = 5)) && (decide (x_1.A = 0) && decide (x_1.S = [])))
     (some 3)
     (cond (((decide (x_1.Op = 3) && decide (x_1.S = [])) && decide (0 ≤ x_1.A)) && decide (x_1.A < (t_0.slots_.length : Int)))
      (idx t_0.slots_ x_1.A fun x52 =>
      some x52)
      (some 0)))))
theorem weirgate_compile_types_leaf_66_ok (t_0 : S_compile_types) (x_1 : S_api_Instr) (t_0_stack_v : Value) (t_0_slots_v : Value) (t_0_loops_v : Value) {r : Int} (h : weirgate_compile_types_leaf_66 t_0 x_1 = some r) :
  Meets Try.prog 66 [.agg #[t_0_stack_v, t_0_slots_v, t_0_loops_v], .agg #[.int .i64 x_1.Op, .int .i64 x_1.A, .string (bs x_1.S)]] [ro t_0_stack_v 1 (t_0.stack_.map (eInt .i64)), ro t_0_slots_v 1 (t_0.slots_.map (eInt .i64)), ro t_0_loops_v 1 (t_0.loops_.map (eInt .i64))] (fun v G => v = .int .i64 r ∧ G = []) := by
 refine fn_of_run Try.func66 rfl Try.ntmps66 rfl (fun w0 o0 => ?_)
 refine run_seq ?_
 refine run_region' ?_
 refine ot rfl rfl (t_box rfl) ?_
 rintro _ _ ⟨b1, rfl, rfl⟩
 refine ot rfl rfl (t_box rfl) ?_
 rintro _ _ ⟨b2, rfl, rfl⟩
 refine oy rfl rfl (y_assign rfl) ?_
 refine ops_nil ?_
 refine goes_code ?_
 refine run_seq ?_
 refine run_region' ?_
 refine oy rfl rfl (y_fieldAddr_box (sz := 0) Try.runUnderlying55 rfl Try.sizeOf3 rfl) ?_
 refine oy rfl rfl (y_load_box 4 Try.isAgg3 rfl rfl rfl) ?_
 refine oy rfl rfl (y_eql rfl rfl) ?_
 refine oy rfl rfl (y_move rfl) ?_
 refine ops_cut 4 (Bool) (fun σ => [(2, boxP b1 0), (3, boxP b2 0), (13, .bool σ)]) (fun σ => [ro t_0_stack_v 1 (t_0.stack_.map (eInt .i64)), ro t_0_slots_v 1 (t_0.slots_.map (eInt .i64)), ro t_0_loops_v 1 (t_0.loops_.map (eInt .i64)), box b1 [t_0_stack_v, t_0_slots_v, t_0_loops_v], box b2 [.int .i64 x_1.Op, .int .i64 x_1.A, .string (bs x_1.S)]]) (fun σ => σ = (decide (x_1.A = 0) && decide (x_1.S = []))) (fun L3 hL4 => ?_) ?_
 ·refine ops_split 9 (decide (x_1.A = 0)) rfl (fun hg5 => ?_) (fun hg5 => ?_)
  ·skip
   refine ops_y (wg 3 true 9 rfl rfl rfl rfl) rfl (y_fieldAddr_box (sz := 0) Try.runUnderlying55 rfl Try.sizeOf9 rfl) ?_
   refine ops_y (wg 3 true 9 rfl rfl rfl rfl) rfl (y_load_box 4 Try.isAgg9 rfl rfl rfl) ?_
   refine ops_y (wg 3 true 9 rfl rfl rfl rfl) rfl (y_seql rfl rfl) ?_
   refine oy rfl rfl (y_pick (b := true) rfl rfl) ?_
   refine ops_nil ?_
   exact goes_cut hL4 (decide (x_1.S = [])) [0, 1, 2, 3, 4] (qv3 rfl rfl rfl) (by decide) rfl (by rw [hg5]; simp)
  ·skip
   refine ops_no 3 true 9 rfl rfl rfl rfl rfl ?_
   refine ops_no 3 true 9 rfl rfl rfl rfl rfl ?_
   refine ops_no 3 true 9 rfl rfl rfl rfl rfl ?_
   refine oy rfl rfl (y_pick (b := false) rfl rfl) ?_
   refine ops_nil ?_
   exact goes_cut hL4 false [0, 1, 2, 3, 4] (qv3 rfl rfl rfl) (by decide) rfl (by rw [hg5]; simp)
 rintro _ rfl
 refine oy rfl rfl (y_assign rfl) ?_
 refine ops_nil ?_
 refine goes_code ?_
 refine run_seq ?_
 refine run_block ?_
 obtain ⟨o7, h, ho8⟩ := bindJ_some h
 refine run_cut ((Bool) × (Unit)) (fun σ => [(14, .bool σ.1), (2, boxP b1 0), (3, boxP b2 0), (5, .bool (decide (x_1.A = 0) && decide (x_1.S = [])))]) (fun σ => [box b1 [t_0_stack_v, t_0_slots_v, t_0_loops_v], ro t_0_stack_v 1 (t_0.stack_.map (eInt .i64)), ro t_0_slots_v 1 (t_0.slots_.map (eInt .i64)), ro t_0_loops_v 1 (t_0.loops_.map (eInt .i64)), box b2 [.int .i64 x_1.Op, .int .i64 x_1.A, .string (bs x_1.S)]]) (fun σ => o7 = .go σ.1) (fun L10 hL9 => ?_) ?_
 ·
  refine run_seq ?_
  refine run_region' ?_
  refine oy rfl rfl (y_fieldAddr_box (sz := 0) Try.runUnderlying55 rfl Try.sizeOf3 rfl) ?_
  refine oy rfl rfl (y_load_box 4 Try.isAgg3 rfl rfl rfl) ?_
  refine oy rfl rfl (y_eql rfl rfl) ?_
  refine oy rfl rfl (y_move rfl) ?_
  refine ops_cut 4 (Bool) (fun σ => [(2, boxP b1 0), (3, boxP b2 0), (5, .bool (decide (x_1.A = 0) && decide (x_1.S = []))), (22, .bool σ)]) (fun σ => [ro t_0_stack_v 1 (t_0.stack_.map (eInt .i64)), ro t_0_slots_v 1 (t_0.slots_.map (eInt .i64)), ro t_0_loops_v 1 (t_0.loops_.map (eInt .i64)), box b1 [t_0_stack_v, t_0_slots_v, t_0_loops_v], box b2 [.int .i64 x_1.Op, .int .i64 x_1.A, .string (bs x_1.S)]]) (fun σ => σ = (decide (x_1.Op = 1) && decide (x_1.S = []))) (fun L11 hL12 => ?_) ?_
  ·refine ops_split 18 (decide (x_1.Op = 1)) rfl (fun hg13 => ?_) (fun hg13 => ?_)
   ·skip
    refine ops_y (wg 3 true 18 rfl rfl rfl rfl) rfl (y_fieldAddr_box (sz := 0) Try.runUnderlying55 rfl Try.sizeOf9 rfl) ?_
    refine ops_y (wg 3 true 18 rfl rfl rfl rfl) rfl (y_load_box 4 Try.isAgg9 rfl rfl rfl) ?_
    refine ops_y (wg 3 true 18 rfl rfl rfl rfl) rfl (y_seql rfl rfl) ?_
    refine oy rfl rfl (y_pick (b := true) rfl rfl) ?_
    refine ops_nil ?_
    exact goes_cut hL12 (decide (x_1.S = [])) [0, 1, 2, 3, 4] (qv4 rfl rfl rfl rfl) (by decide) rfl (by rw [hg13]; simp)
   ·skip
    refine ops_no 3 true 18 rfl rfl rfl rfl rfl ?_
    refine ops_no 3 true 18 rfl rfl rfl rfl rfl ?_
    refine ops_no 3 true 18 rfl rfl rfl rfl rfl ?_
    refine oy rfl rfl (y_pick (b := false) rfl rfl) ?_
    refine ops_nil ?_
    exact goes_cut hL12 false [0, 1, 2, 3, 4] (qv4 rfl rfl rfl rfl) (by decide) rfl (by rw [hg13]; simp)
  rintro _ rfl
  refine oy rfl rfl (y_move rfl) ?_
  refine ops_cut 4 (Bool) (fun σ => [(2, boxP b1 0), (3, boxP b2 0), (5, .bool (decide (x_1.A = 0) && decide (x_1.S = []))), (27, .bool σ)]) (fun σ => [ro t_0_stack_v 1 (t_0.stack_.map (eInt .i64)), ro t_0_slots_v 1 (t_0.slots_.map (eInt .i64)), ro t_0_loops_v 1 (t_0.loops_.map (eInt .i64)), box b1 [t_0_stack_v, t_0_slots_v, t_0_loops_v], box b2 [.int .i64 x_1.Op, .int .i64 x_1.A, .string (bs x_1.S)]]) (fun σ => σ = ((decide (x_1.Op = 1) && decide (x_1.S = [])) && decide (0 ≤ x_1.A))) (fun L14 hL15 => ?_) ?_
  ·refine ops_split 23 (decide (x_1.Op = 1) && decide (x_1.S = [])) rfl (fun hg16 => ?_) (fun hg16 => ?_)
   ·skip
    refine ops_y (wg 8 true 23 rfl rfl rfl rfl) rfl (y_fieldAddr_box (sz := 0) Try.runUnderlying55 rfl Try.sizeOf3 rfl) ?_
    refine ops_y (wg 8 true 23 rfl rfl rfl rfl) rfl (y_load_box 4 Try.isAgg3 rfl rfl rfl) ?_
    refine ops_y (wg 8 true 23 rfl rfl rfl rfl) rfl (y_geq rfl rfl) ?_
    refine oy rfl rfl (y_pick (b := true) rfl rfl) ?_
    refine ops_nil ?_
    exact goes_cut hL15 (decide (0 ≤ x_1.A)) [0, 1, 2, 3, 4] (qv4 rfl rfl rfl rfl) (by decide) rfl (by rw [hg16]; simp)
   ·skip
    refine ops_no 8 true 23 rfl rfl rfl rfl rfl ?_
    refine ops_no 8 true 23 rfl rfl rfl rfl rfl ?_
    refine ops_no 8 true 23 rfl rfl rfl rfl rfl ?_
    refine oy rfl rfl (y_pick (b := false) rfl rfl) ?_
    refine ops_nil ?_
    exact goes_cut hL15 false [0, 1, 2, 3, 4] (qv4 rfl rfl rfl rfl) (by decide) rfl (by rw [hg16]; simp)
  rintro _ rfl
  refine oy rfl rfl (y_move rfl) ?_
  refine ops_cut 4 (Bool) (fun σ => [(2, boxP b1 0), (3, boxP b2 0), (5, .bool (decide (x_1.A = 0) && decide (x_1.S = []))), (32, .bool σ)]) (fun σ => [ro t_0_stack_v 1 (t_0.stack_.map (eInt .i64)), ro t_0_slots_v 1 (t_0.slots_.map (eInt .i64)), ro t_0_loops_v 1 (t_0.loops_.map (eInt .i64)), box b1 [t_0_stack_v, t_0_slots_v, t_0_loops_v], box b2 [.int .i64 x_1.Op, .int .i64 x_1.A, .string (bs x_1.S)]]) (fun σ => σ = (((decide (x_1.Op = 1) && decide (x_1.S = [])) && decide (0 ≤ x_1.A)) && decide (x_1.A < 1000000000000000000))) (fun L17 hL18 => ?_) ?_
  ·refine ops_split 28 ((decide (x_1.Op = 1) && decide (x_1.S = [])) && decide (0 ≤ x_1.A)) rfl (fun hg19 => ?_) (fun hg19 => ?_)
   ·skip
    refine ops_y (wg 13 true 28 rfl rfl rfl rfl) rfl (y_fieldAddr_box (sz := 0) Try.runUnderlying55 rfl Try.sizeOf3 rfl) ?_
    refine ops_y (wg 13 true 28 rfl rfl rfl rfl) rfl (y_load_box 4 Try.isAgg3 rfl rfl rfl) ?_
    refine ops_y (wg 13 true 28 rfl rfl rfl rfl) rfl (y_lss rfl rfl) ?_
    refine oy rfl rfl (y_pick (b := true) rfl rfl) ?_
    refine ops_nil ?_
    exact goes_cut hL18 (decide (x_1.A < 1000000000000000000)) [0, 1, 2, 3, 4] (qv4 rfl rfl rfl rfl) (by decide) rfl (by rw [hg19]; simp)
   ·skip
    refine ops_no 13 true 28 rfl rfl rfl rfl rfl ?_
    refine ops_no 13 true 28 rfl rfl rfl rfl rfl ?_
    refine ops_no 13 true 28 rfl rfl rfl rfl rfl ?_
    refine oy rfl rfl (y_pick (b := false) rfl rfl) ?_
    refine ops_nil ?_
    exact goes_cut hL18 false [0, 1, 2, 3, 4] (qv4 rfl rfl rfl rfl) (by decide) rfl (by rw [hg19]; simp)
  rintro _ rfl
  refine oy rfl rfl (y_assign rfl) ?_
  refine ops_nil ?_
  refine goes_code ?_
  refine run_cond (((decide (x_1.Op = 1) && decide (x_1.S = [])) && decide (0 ≤ x_1.A)) && decide (x_1.A < 1000000000000000000)) rfl (fun hc20 => ?_) (fun hc20 => ?_)
  ·replace h := cond_t h hc20
   refine run_skip ?_
   obtain rfl := some_eq h
   exact goes_cut hL9 ((((decide (x_1.Op = 1) && decide (x_1.S = [])) && decide (0 ≤ x_1.A)) && decide (x_1.A < 1000000000000000000)), ()) [3, 0, 1, 2, 4] (qv4 rfl rfl rfl rfl) (by decide) rfl rfl
  ·replace h := cond_f h hc20
   refine run_region' ?_
   refine oy rfl rfl (y_fieldAddr_box (sz := 0) Try.runUnderlying55 rfl Try.sizeOf3 rfl) ?_
   refine oy rfl rfl (y_load_box 4 Try.isAgg3 rfl rfl rfl) ?_
   refine oy rfl rfl (y_eql rfl rfl) ?_
   refine oy rfl rfl (y_move rfl) ?_
   refine ops_cut 2 (Bool) (fun σ => [(2, boxP b1 0), (3, boxP b2 0), (5, .bool (decide (x_1.A = 0) && decide (x_1.S = []))), (38, .bool σ)]) (fun σ => [ro t_0_stack_v 1 (t_0.stack_.map (eInt .i64)), ro t_0_slots_v 1 (t_0.slots_.map (eInt .i64)), ro t_0_loops_v 1 (t_0.loops_.map (eInt .i64)), box b1 [t_0_stack_v, t_0_slots_v, t_0_loops_v], box b2 [.int .i64 x_1.Op, .int .i64 x_1.A, .string (bs x_1.S)]]) (fun σ => σ = (decide (x_1.Op = 7) && (decide (x_1.A = 0) && decide (x_1.S = [])))) (fun L21 hL22 => ?_) ?_
   ·refine ops_split 36 (decide (x_1.Op = 7)) rfl (fun hg23 => ?_) (fun hg23 => ?_)
    ·skip
     refine ops_y (wg 3 true 36 rfl rfl rfl rfl) rfl (y_move rfl) ?_
     refine oy rfl rfl (y_pick (b := true) rfl rfl) ?_
     refine ops_nil ?_
     exact goes_cut hL22 (decide (x_1.A = 0) && decide (x_1.S = [])) [0, 1, 2, 3, 4] (qv4 rfl rfl rfl rfl) (by decide) rfl (by rw [hg23]; simp)
    ·skip
     refine ops_no 3 true 36 rfl rfl rfl rfl rfl ?_
     refine oy rfl rfl (y_pick (b := false) rfl rfl) ?_
     refine ops_nil ?_
     exact goes_cut hL22 false [0, 1, 2, 3, 4] (qv4 rfl rfl rfl rfl) (by decide) rfl (by rw [hg23]; simp)
   rintro _ rfl
   refine oy rfl rfl (y_assign rfl) ?_
   refine ops_nil ?_
   obtain rfl := some_eq h
   exact goes_cut hL9 ((decide (x_1.Op = 7) && (decide (x_1.A = 0) && decide (x_1.S = []))), ()) [3, 0, 1, 2, 4] (qv4 rfl rfl rfl rfl) (by decide) rfl rfl
 rintro ⟨s_6, _⟩ hj
 obtain rfl : o7 = _ := hj
 replace h := after_go ho8
 clear ho8
 change Run _ _ _ (VF.of [(14, .bool s_6), (2, boxP b1 0), (3, boxP b2 0), (5, .bool (decide (x_1.A = 0) && decide (x_1.S = [])))]) [box b1 [t_0_stack_v, t_0_slots_v, t_0_loops_v], ro t_0_stack_v 1 (t_0.stack_.map (eInt .i64)), ro t_0_slots_v 1 (t_0.slots_.map (eInt .i64)), ro t_0_loops_v 1 (t_0.loops_.map (eInt .i64)), box b2 [.int .i64 x_1.Op, .int .i64 x_1.A, .string (bs x_1.S)]]
 refine run_cond s_6 rfl (fun hc24 => ?_) (fun hc24 => ?_)
 ·replace h := cond_t h hc24
  refine run_seq ?_
  refine run_region' ?_
  refine oy rfl rfl (y_assign rfl) ?_
  refine ops_nil ?_
  refine goes_code ?_
  refine run_ret ?_
  obtain rfl := some_eq h
  refine fin_slots [4] [.int .i64 1] [] [] Try.results66 rfl (by decide) rfl ?_
  exact ⟨rfl, rfl⟩
 ·replace h := cond_f h hc24
  refine run_seq ?_
  refine run_region' ?_
  refine oy rfl rfl (y_fieldAddr_box (sz := 0) Try.runUnderlying55 rfl Try.sizeOf3 rfl) ?_
  refine oy rfl rfl (y_load_box 4 Try.isAgg3 rfl rfl rfl) ?_
  refine oy rfl rfl (y_eql rfl rfl) ?_
  refine oy rfl rfl (y_move rfl) ?_
  refine ops_cut 4 (Bool) (fun σ => [(2, boxP b1 0), (3, boxP b2 0), (5, .bool (decide (x_1.A = 0) && decide (x_1.S = []))), (47, .bool σ)]) (fun σ => [box b1 [t_0_stack_v, t_0_slots_v, t_0_loops_v], ro t_0_stack_v 1 (t_0.stack_.map (eInt .i64)), ro t_0_slots_v 1 (t_0.slots_.map (eInt .i64)), ro t_0_loops_v 1 (t_0.loops_.map (eInt .i64)), box b2 [.int .i64 x_1.Op, .int .i64 x_1.A, .string (bs x_1.S)]]) (fun σ => σ = (decide (x_1.Op = 2) || decide (x_1.Op = 6))) (fun L25 hL26 => ?_) ?_
  ·refine ops_split 43 (decide (x_1.Op = 2)) rfl (fun hg27 => ?_) (fun hg27 => ?_)
   ·skip
    refine ops_no 3 false 43 rfl rfl rfl rfl rfl ?_
    refine ops_no 3 false 43 rfl rfl rfl rfl rfl ?_
    refine ops_no 3 false 43 rfl rfl rfl rfl rfl ?_
    refine oy rfl rfl (y_pick (b := true) rfl rfl) ?_
    refine ops_nil ?_
    exact goes_cut hL26 true [0, 1, 2, 3, 4] (qv4 rfl rfl rfl rfl) (by decide) rfl (by rw [hg27]; simp)
   ·skip
    refine ops_y (wg 3 false 43 rfl rfl rfl rfl) rfl (y_fieldAddr_box (sz := 0) Try.runUnderlying55 rfl Try.sizeOf3 rfl) ?_
    refine ops_y (wg 3 false 43 rfl rfl rfl rfl) rfl (y_load_box 4 Try.isAgg3 rfl rfl rfl) ?_
    refine ops_y (wg 3 false 43 rfl rfl rfl rfl) rfl (y_eql rfl rfl) ?_
    refine oy rfl rfl (y_pick (b := false) rfl rfl) ?_
    refine ops_nil ?_
    exact goes_cut hL26 (decide (x_1.Op = 6)) [0, 1, 2, 3, 4] (qv4 rfl rfl rfl rfl) (by decide) rfl (by rw [hg27]; simp)
  rintro _ rfl
  refine oy rfl rfl (y_move rfl) ?_
  refine ops_cut 4 (Bool) (fun σ => [(2, boxP b1 0), (3, boxP b2 0), (5, .bool (decide (x_1.A = 0) && decide (x_1.S = []))), (52, .bool σ)]) (fun σ => [box b1 [t_0_stack_v, t_0_slots_v, t_0_loops_v], ro t_0_stack_v 1 (t_0.stack_.map (eInt .i64)), ro t_0_slots_v 1 (t_0.slots_.map (eInt .i64)), ro t_0_loops_v 1 (t_0.loops_.map (eInt .i64)), box b2 [.int .i64 x_1.Op, .int .i64 x_1.A, .string (bs x_1.S)]]) (fun σ => σ = ((decide (x_1.Op = 2) || decide (x_1.Op = 6)) && decide (x_1.A = 0))) (fun L28 hL29 => ?_) ?_
  ·refine ops_split 48 (decide (x_1.Op = 2) || decide (x_1.Op = 6)) rfl (fun hg30 => ?_) (fun hg30 => ?_)
   ·skip
    refine ops_y (wg 8 true 48 rfl rfl rfl rfl) rfl (y_fieldAddr_box (sz := 0) Try.runUnderlying55 rfl Try.sizeOf3 rfl) ?_
    refine ops_y (wg 8 true 48 rfl rfl rfl rfl) rfl (y_load_box 4 Try.isAgg3 rfl rfl rfl) ?_
    refine ops_y (wg 8 true 48 rfl rfl rfl rfl) rfl (y_eql rfl rfl) ?_
    refine oy rfl rfl (y_pick (b := true) rfl rfl) ?_
    refine ops_nil ?_
    exact goes_cut hL29 (decide (x_1.A = 0)) [0, 1, 2, 3, 4] (qv4 rfl rfl rfl rfl) (by decide) rfl (by rw [hg30]; simp)
   ·skip
    refine ops_no 8 true 48 rfl rfl rfl rfl rfl ?_
    refine ops_no 8 true 48 rfl rfl rfl rfl rfl ?_
    refine ops_no 8 true 48 rfl rfl rfl rfl rfl ?_
    refine oy rfl rfl (y_pick (b := false) rfl rfl) ?_
    refine ops_nil ?_
    exact goes_cut hL29 false [0, 1, 2, 3, 4] (qv4 rfl rfl rfl rfl) (by decide) rfl (by rw [hg30]; simp)
  rintro _ rfl
  refine oy rfl rfl (y_move rfl) ?_
  refine ops_cut 5 (Bool) (fun σ => [(2, boxP b1 0), (3, boxP b2 0), (5, .bool (decide (x_1.A = 0) && decide (x_1.S = []))), (58, .bool σ)]) (fun σ => [box b1 [t_0_stack_v, t_0_slots_v, t_0_loops_v], ro t_0_stack_v 1 (t_0.stack_.map (eInt .i64)), ro t_0_slots_v 1 (t_0.slots_.map (eInt .i64)), ro t_0_loops_v 1 (t_0.loops_.map (eInt .i64)), box b2 [.int .i64 x_1.Op, .int .i64 x_1.A, .string (bs x_1.S)]]) (fun σ => σ = (((decide (x_1.Op = 2) || decide (x_1.Op = 6)) && decide (x_1.A = 0)) && decide ((x_1.S.length : Int) ≤ 200))) (fun L31 hL32 => ?_) ?_
  ·refine ops_split 53 ((decide (x_1.Op = 2) || decide (x_1.Op = 6)) && decide (x_1.A = 0)) rfl (fun hg33 => ?_) (fun hg33 => ?_)
   ·skip
    refine ops_y (wg 13 true 53 rfl rfl rfl rfl) rfl (y_fieldAddr_box (sz := 0) Try.runUnderlying55 rfl Try.sizeOf9 rfl) ?_
    refine ops_y (wg 13 true 53 rfl rfl rfl rfl) rfl (y_load_box 4 Try.isAgg9 rfl rfl rfl) ?_
    refine ops_y (wg 13 true 53 rfl rfl rfl rfl) rfl (y_len_str rfl Try.runUnderlying9 rfl) ?_
    refine ops_y (wg 13 true 53 rfl rfl rfl rfl) rfl (y_leq rfl rfl) ?_
    refine oy rfl rfl (y_pick (b := true) rfl rfl) ?_
    refine ops_nil ?_
    exact goes_cut hL32 (decide ((x_1.S.length : Int) ≤ 200)) [0, 1, 2, 3, 4] (qv4 rfl rfl rfl rfl) (by decide) rfl (by rw [hg33]; simp)
   ·skip
    refine ops_no 13 true 53 rfl rfl rfl rfl rfl ?_
    refine ops_no 13 true 53 rfl rfl rfl rfl rfl ?_
    refine ops_no 13 true 53 rfl rfl rfl rfl rfl ?_
    refine ops_no 13 true 53 rfl rfl rfl rfl rfl ?_
    refine oy rfl rfl (y_pick (b := false) rfl rfl) ?_
    refine ops_nil ?_
    exact goes_cut hL32 false [0, 1, 2, 3, 4] (qv4 rfl rfl rfl rfl) (by decide) rfl (by rw [hg33]; simp)
  rintro _ rfl
  refine oy rfl rfl (y_assign rfl) ?_
  refine ops_nil ?_
  refine goes_code ?_
  refine run_cond (((decide (x_1.Op = 2) || decide (x_1.Op = 6)) && decide (x_1.A = 0)) && decide ((x_1.S.length : Int) ≤ 200)) rfl (fun hc34 => ?_) (fun hc34 => ?_)
  ·replace h := cond_t h hc34
   refine run_seq ?_
   refine run_region' ?_
   refine oy rfl rfl (y_assign rfl) ?_
   refine ops_nil ?_
   refine goes_code ?_
   refine run_ret ?_
   obtain rfl := some_eq h
   refine fin_slots [4] [.int .i64 2] [] [] Try.results66 rfl (by decide) rfl ?_
   exact ⟨rfl, rfl⟩
  ·replace h := cond_f h hc34
   refine run_seq ?_
   refine run_region' ?_
   refine oy rfl rfl (y_fieldAddr_box (sz := 0) Try.runUnderlying55 rfl Try.sizeOf3 rfl) ?_
   refine oy rfl rfl (y_load_box 4 Try.isAgg3 rfl rfl rfl) ?_
   refine oy rfl rfl (y_eql rfl rfl) ?_
   refine oy rfl rfl (y_move rfl) ?_
   refine ops_cut 4 (Bool) (fun σ => [(2, boxP b1 0), (3, boxP b2 0), (5, .bool (decide (x_1.A = 0) && decide (x_1.S = []))), (67, .bool σ)]) (fun σ => [box b1 [t_0_stack_v, t_0_slots_v, t_0_loops_v], ro t_0_stack_v 1 (t_0.stack_.map (eInt .i64)), ro t_0_slots_v 1 (t_0.slots_.map (eInt .i64)), ro t_0_loops_v 1 (t_0.loops_.map (eInt .i64)), box b2 [.int .i64 x_1.Op, .int .i64 x_1.A, .string (bs x_1.S)]]) (fun σ => σ = (decide (x_1.Op = 4) || decide (x_1.Op = 5))) (fun L35 hL36 => ?_) ?_
   ·refine ops_split 63 (decide (x_1.Op = 4)) rfl (fun hg37 => ?_) (fun hg37 => ?_)
    ·skip
     refine ops_no 3 false 63 rfl rfl rfl rfl rfl ?_
     refine ops_no 3 false 63 rfl rfl rfl rfl rfl ?_
     refine ops_no 3 false 63 rfl rfl rfl rfl rfl ?_
     refine oy rfl rfl (y_pick (b := true) rfl rfl) ?_
     refine ops_nil ?_
     exact goes_cut hL36 true [0, 1, 2, 3, 4] (qv4 rfl rfl rfl rfl) (by decide) rfl (by rw [hg37]; simp)
    ·skip
     refine ops_y (wg 3 false 63 rfl rfl rfl rfl) rfl (y_fieldAddr_box (sz := 0) Try.runUnderlying55 rfl Try.sizeOf3 rfl) ?_
     refine ops_y (wg 3 false 63 rfl rfl rfl rfl) rfl (y_load_box 4 Try.isAgg3 rfl rfl rfl) ?_
     refine ops_y (wg 3 false 63 rfl rfl rfl rfl) rfl (y_eql rfl rfl) ?_
     refine oy rfl rfl (y_pick (b := false) rfl rfl) ?_
     refine ops_nil ?_
     exact goes_cut hL36 (decide (x_1.Op = 5)) [0, 1, 2, 3, 4] (qv4 rfl rfl rfl rfl) (by decide) rfl (by rw [hg37]; simp)
   rintro _ rfl
   refine oy rfl rfl (y_move rfl) ?_
   refine ops_cut 2 (Bool) (fun σ => [(2, boxP b1 0), (3, boxP b2 0), (70, .bool σ)]) (fun σ => [box b1 [t_0_stack_v, t_0_slots_v, t_0_loops_v], ro t_0_stack_v 1 (t_0.stack_.map (eInt .i64)), ro t_0_slots_v 1 (t_0.slots_.map (eInt .i64)), ro t_0_loops_v 1 (t_0.loops_.map (eInt .i64)), box b2 [.int .i64 x_1.Op, .int .i64 x_1.A, .string (bs x_1.S)]]) (fun σ => σ = ((decide (x_1.Op = 4) || decide (x_1.Op = 5)) && (decide (x_1.A = 0) && decide (x_1.S = [])))) (fun L38 hL39 => ?_) ?_
   ·refine ops_split 68 (decide (x_1.Op = 4) || decide (x_1.Op = 5)) rfl (fun hg40 => ?_) (fun hg40 => ?_)
    ·skip
     refine ops_y (wg 8 true 68 rfl rfl rfl rfl) rfl (y_move rfl) ?_
     refine oy rfl rfl (y_pick (b := true) rfl rfl) ?_
     refine ops_nil ?_
     exact goes_cut hL39 (decide (x_1.A = 0) && decide (x_1.S = [])) [0, 1, 2, 3, 4] (qv3 rfl rfl rfl) (by decide) rfl (by rw [hg40]; simp)
    ·skip
     refine ops_no 8 true 68 rfl rfl rfl rfl rfl ?_
     refine oy rfl rfl (y_pick (b := false) rfl rfl) ?_
     refine ops_nil ?_
     exact goes_cut hL39 false [0, 1, 2, 3, 4] (qv3 rfl rfl rfl) (by decide) rfl (by rw [hg40]; simp)
   rintro _ rfl
   refine oy rfl rfl (y_assign rfl) ?_
   refine ops_nil ?_
   refine goes_code ?_
   refine run_cond ((decide (x_1.Op = 4) || decide (x_1.Op = 5)) && (decide (x_1.A = 0) && decide (x_1.S = []))) rfl (fun hc41 => ?_) (fun hc41 => ?_)
   ·replace h := cond_t h hc41
    refine run_seq ?_
    refine run_region' ?_
    refine oy rfl rfl (y_assign rfl) ?_
    refine ops_nil ?_
    refine goes_code ?_
    refine run_ret ?_
    obtain rfl := some_eq h
    refine fin_slots [4] [.int .i64 3] [] [] Try.results66 rfl (by decide) rfl ?_
    exact ⟨rfl, rfl⟩
   ·replace h := cond_f h hc41
    refine run_seq ?_
    refine run_region' ?_
    refine oy rfl rfl (y_fieldAddr_box (sz := 0) Try.runUnderlying55 rfl Try.sizeOf3 rfl) ?_
    refine oy rfl rfl (y_load_box 4 Try.isAgg3 rfl rfl rfl) ?_
    refine oy rfl rfl (y_eql rfl rfl) ?_
    refine oy rfl rfl (y_move rfl) ?_
    refine ops_cut 4 (Bool) (fun σ => [(2, boxP b1 0), (3, boxP b2 0), (79, .bool σ)]) (fun σ => [box b1 [t_0_stack_v, t_0_slots_v, t_0_loops_v], ro t_0_stack_v 1 (t_0.stack_.map (eInt .i64)), ro t_0_slots_v 1 (t_0.slots_.map (eInt .i64)), ro t_0_loops_v 1 (t_0.loops_.map (eInt .i64)), box b2 [.int .i64 x_1.Op, .int .i64 x_1.A, .string (bs x_1.S)]]) (fun σ => σ = (decide (x_1.Op = 3) && decide (x_1.S = []))) (fun L42 hL43 => ?_) ?_
    ·refine ops_split 75 (decide (x_1.Op = 3)) rfl (fun hg44 => ?_) (fun hg44 => ?_)
     ·skip
      refine ops_y (wg 3 true 75 rfl rfl rfl rfl) rfl (y_fieldAddr_box (sz := 0) Try.runUnderlying55 rfl Try.sizeOf9 rfl) ?_
      refine ops_y (wg 3 true 75 rfl rfl rfl rfl) rfl (y_load_box 4 Try.isAgg9 rfl rfl rfl) ?_
      refine ops_y (wg 3 true 75 rfl rfl rfl rfl) rfl (y_seql rfl rfl) ?_
      refine oy rfl rfl (y_pick (b := true) rfl rfl) ?_
      refine ops_nil ?_
      exact goes_cut hL43 (decide (x_1.S = [])) [0, 1, 2, 3, 4] (qv3 rfl rfl rfl) (by decide) rfl (by rw [hg44]; simp)
     ·skip
      refine ops_no 3 true 75 rfl rfl rfl rfl rfl ?_
      refine ops_no 3 true 75 rfl rfl rfl rfl rfl ?_
      refine ops_no 3 true 75 rfl rfl rfl rfl rfl ?_
      refine oy rfl rfl (y_pick (b := false) rfl rfl) ?_
      refine ops_nil ?_
      exact goes_cut hL43 false [0, 1, 2, 3, 4] (qv3 rfl rfl rfl) (by decide) rfl (by rw [hg44]; simp)
    rintro _ rfl
    refine oy rfl rfl (y_move rfl) ?_
    refine ops_cut 4 (Bool) (fun σ => [(2, boxP b1 0), (3, boxP b2 0), (84, .bool σ)]) (fun σ => [box b1 [t_0_stack_v, t_0_slots_v, t_0_loops_v], ro t_0_stack_v 1 (t_0.stack_.map (eInt .i64)), ro t_0_slots_v 1 (t_0.slots_.map (eInt .i64)), ro t_0_loops_v 1 (t_0.loops_.map (eInt .i64)), box b2 [.int .i64 x_1.Op, .int .i64 x_1.A, .string (bs x_1.S)]]) (fun σ => σ = ((decide (x_1.Op = 3) && decide (x_1.S = [])) && decide (0 ≤ x_1.A))) (fun L45 hL46 => ?_) ?_
    ·refine ops_split 80 (decide (x_1.Op = 3) && decide (x_1.S = [])) rfl (fun hg47 => ?_) (fun hg47 => ?_)
     ·skip
      refine ops_y (wg 8 true 80 rfl rfl rfl rfl) rfl (y_fieldAddr_box (sz := 0) Try.runUnderlying55 rfl Try.sizeOf3 rfl) ?_
      refine ops_y (wg 8 true 80 rfl rfl rfl rfl) rfl (y_load_box 4 Try.isAgg3 rfl rfl rfl) ?_
      refine ops_y (wg 8 true 80 rfl rfl rfl rfl) rfl (y_geq rfl rfl) ?_
      refine oy rfl rfl (y_pick (b := true) rfl rfl) ?_
      refine ops_nil ?_
      exact goes_cut hL46 (decide (0 ≤ x_1.A)) [0, 1, 2, 3, 4] (qv3 rfl rfl rfl) (by decide) rfl (by rw [hg47]; simp)
     ·skip
      refine ops_no 8 true 80 rfl rfl rfl rfl rfl ?_
      refine ops_no 8 true 80 rfl rfl rfl rfl rfl ?_
      refine ops_no 8 true 80 rfl rfl rfl rfl rfl ?_
      refine oy rfl rfl (y_pick (b := false) rfl rfl) ?_
      refine ops_nil ?_
      exact goes_cut hL46 false [0, 1, 2, 3, 4] (qv3 rfl rfl rfl) (by decide) rfl (by rw [hg47]; simp)
    rintro _ rfl
    refine oy rfl rfl (y_move rfl) ?_
    refine ops_cut 7 (Bool) (fun σ => [(2, boxP b1 0), (3, boxP b2 0), (92, .bool σ)]) (fun σ => [box b1 [t_0_stack_v, t_0_slots_v, t_0_loops_v], ro t_0_stack_v 1 (t_0.stack_.map (eInt .i64)), ro t_0_slots_v 1 (t_0.slots_.map (eInt .i64)), ro t_0_loops_v 1 (t_0.loops_.map (eInt .i64)), box b2 [.int .i64 x_1.Op, .int .i64 x_1.A, .string (bs x_1.S)]]) (fun σ => σ = (((decide (x_1.Op = 3) && decide (x_1.S = [])) && decide (0 ≤ x_1.A)) && decide (x_1.A < (t_0.slots_.length : Int)))) (fun L48 hL49 => ?_) ?_
    ·refine ops_split 85 ((decide (x_1.Op = 3) && decide (x_1.S = [])) && decide (0 ≤ x_1.A)) rfl (fun hg50 => ?_) (fun hg50 => ?_)
     ·skip
      refine ops_y (wg 13 true 85 rfl rfl rfl rfl) rfl (y_fieldAddr_box (sz := 0) Try.runUnderlying55 rfl Try.sizeOf3 rfl) ?_
      refine ops_y (wg 13 true 85 rfl rfl rfl rfl) rfl (y_load_box 4 Try.isAgg3 rfl rfl rfl) ?_
      refine ops_y (wg 13 true 85 rfl rfl rfl rfl) rfl (y_fieldAddr_box (sz := 0) Try.runUnderlying71 rfl Try.sizeOf22 rfl) ?_
      refine ops_y (wg 13 true 85 rfl rfl rfl rfl) rfl (y_load_box 0 Try.isAgg22 rfl rfl rfl) ?_
      refine ops_y (wg 13 true 85 rfl rfl rfl rfl) rfl ((y_len 2 rfl Try.runUnderlying22 rfl rfl reads_ro).to (v_len (eInt .i64) _)) ?_
      refine ops_y (wg 13 true 85 rfl rfl rfl rfl) rfl (y_lss rfl rfl) ?_
      refine oy rfl rfl (y_pick (b := true) rfl rfl) ?_
      refine ops_nil ?_
      exact goes_cut hL49 (decide (x_1.A < (t_0.slots_.length : Int))) [0, 1, 2, 3, 4] (qv3 rfl rfl rfl) (by decide) rfl (by rw [hg50]; simp)
     ·skip
      refine ops_no 13 true 85 rfl rfl rfl rfl rfl ?_
      refine ops_no 13 true 85 rfl rfl rfl rfl rfl ?_
      refine ops_no 13 true 85 rfl rfl rfl rfl rfl ?_
      refine ops_no 13 true 85 rfl rfl rfl rfl rfl ?_
      refine ops_no 13 true 85 rfl rfl rfl rfl rfl ?_
      refine ops_no 13 true 85 rfl rfl rfl rfl rfl ?_
      refine oy rfl rfl (y_pick (b := false) rfl rfl) ?_
      refine ops_nil ?_
      exact goes_cut hL49 false [0, 1, 2, 3, 4] (qv3 rfl rfl rfl) (by decide) rfl (by rw [hg50]; simp)
    rintro _ rfl
    refine oy rfl rfl (y_assign rfl) ?_
    refine ops_nil ?_
    refine goes_code ?_
    refine run_cond (((decide (x_1.Op = 3) && decide (x_1.S = [])) && decide (0 ≤ x_1.A)) && decide (x_1.A < (t_0.slots_.length : Int))) rfl (fun hc51 => ?_) (fun hc51 => ?_)
    ·replace h := cond_t h hc51
     refine run_seq ?_
     refine run_region' ?_
     refine oy rfl rfl (y_fieldAddr_box (sz := 0) Try.runUnderlying71 rfl Try.sizeOf22 rfl) ?_
     refine oy rfl rfl (y_load_box 0 Try.isAgg22 rfl rfl rfl) ?_
     refine oy rfl rfl (y_fieldAddr_box (sz := 0) Try.runUnderlying55 rfl Try.sizeOf3 rfl) ?_
     refine oy rfl rfl (y_load_box 4 Try.isAgg3 rfl rfl rfl) ?_
     obtain ⟨x52, hzx52, hlx52, hxx52, h⟩ := idx_some h
     refine oy rfl rfl (y_indexAddrI (kd := .i64) (i := x_1.A) 2 Try.runUnderlying22 Try.sizeOf3 rfl rfl rfl reads_ro hzx52 (map_lt hlx52)) ?_
     refine oy rfl rfl (y_load_elem (i := (x_1.A).toNat) 2 Try.isAgg3 rfl rfl reads_ro (map_get hxx52)) ?_
     refine oy rfl rfl (y_assign rfl) ?_
     refine ops_nil ?_
     refine goes_code ?_
     refine run_ret ?_
     obtain rfl := some_eq h
     refine fin_slots [4] [.int .i64 x52] [] [] Try.results66 rfl (by decide) rfl ?_
     exact ⟨rfl, rfl⟩
    ·replace h := cond_f h hc51
     refine run_skip ?_
     refine goes_blk ?_
     refine goes_code ?_
     refine run_seq ?_
     refine run_region' ?_
     refine oy rfl rfl (y_assign rfl) ?_
     refine ops_nil ?_
     refine goes_code ?_
     refine run_ret ?_
     obtain rfl := some_eq h
     refine fin_slots [4] [.int .i64 0] [] [] Try.results66 rfl (by decide) rfl ?_
     exact ⟨rfl, rfl⟩

def slices_Clone_int_int_57 (s_0 : (List Int)) : Option ((List Int)) :=
 need (([] : List Int).length + s_0.length ≤ 4294967296) (
 some (([] : List Int) ++ s_0))
theorem slices_Clone_int_int_57_ok (s_0 : (List Int)) (s_0v : Value) {r : (List Int)} (h : slices_Clone_int_int_57 s_0 = some r) :
  Meets Try.prog 57 [s_0v] [ro s_0v 1 (s_0.map (eInt .i64))] (fun v G => ∃ v0, v = v0 ∧ G = [row v0 1 (r.map (eInt .i64))]) := by
 refine fn_of_run Try.func57 rfl Try.ntmps57 rfl (fun w0 o0 => ?_)
 refine run_seq ?_
 refine run_region' ?_
 refine oy rfl rfl (y_assign rfl) ?_
 refine ops_nil ?_
 refine goes_code ?_
 refine run_seq ?_
 refine run_seq ?_
 refine run_region' ?_
 refine oy rfl rfl (y_move rfl) ?_
 refine ot rfl rfl (t_isnil 0 Try.runUnderlying22 rfl rfl rfl reads_ro) ?_
 rintro _ _ ⟨b1, rfl, rfl, hb2⟩
 refine ops_nil ?_
 refine goes_code ?_
 refine run_cond b1 rfl (fun hc3 => ?_) (fun hc3 => ?_)
 ·obtain rfl : s_0 = [] := List.map_eq_nil_iff.1 (hb2 hc3)
  obtain ⟨_, h⟩ := need_some h
  refine run_seq ?_
  refine run_region' ?_
  refine oy rfl rfl (y_assign rfl) ?_
  refine ops_nil ?_
  refine goes_code ?_
  refine run_ret ?_
  refine fin_turn (nilrow 1) ?_
  refine fin_turn (retell 1 (g := row (.slice none 0 0) 1 (([] : List Int).map (eInt .i64))) rfl rfl) ?_
  obtain rfl := some_eq h
  refine fin_slots [2] [(.slice none 0 0)] [1] [row (.slice none 0 0) 1 (([] : List Int).map (eInt .i64))] Try.results57 rfl (by decide) rfl ?_
  exact ⟨_, rfl, rfl⟩
 ·skip
  refine run_skip ?_
  refine goes_code ?_
  refine run_seq ?_
  refine run_region' ?_
  refine ot rfl rfl (t_lit [] Try.runUnderlying22 Try.sizeOf3 Try.zeroValue3 rfl (by decide) (by decide) rfl (by simp [Value.cells, boxP])) ?_
  rintro v4 _ ⟨rfl, _⟩
  refine ops_turn (retell 1 (g := row v4 1 (([] : List Int).map (eInt .i64))) rfl rfl) ?_
  refine oy rfl rfl (y_move rfl) ?_
  obtain ⟨hr6, h⟩ := need_some h
  refine ot rfl rfl (t_append (es := 1) 1 rfl Try.runUnderlying22 rfl Try.runUnderlying22 (.inr ⟨_, rfl⟩) Try.typeInfo3 rfl (by decide) Try.zeroValue3 rfl rfl rfl rfl (src_reads 0 rfl reads_ro (map_ok (eInt_ok _) _)) (map_room hr6 (by decide)) (map_fit hr6)) ?_
  rintro v5 _ rfl
  refine ops_turn (retell 1 (g := row v5 1 ((([] : List Int) ++ s_0).map (eInt .i64))) rfl (congrArg (row _ _) List.map_append.symm)) ?_
  refine oy rfl rfl (y_assign rfl) ?_
  refine ops_nil ?_
  refine goes_code ?_
  refine run_ret ?_
  obtain rfl := some_eq h
  refine fin_slots [2] [v5] [1] [row v5 1 ((([] : List Int) ++ s_0).map (eInt .i64))] Try.results57 rfl (by decide) rfl ?_
  exact ⟨_, rfl, rfl⟩

def weirgate_compile_types_push_65 (t_0 : S_compile_types) (kind_1 : Int) : Option (S_compile_types × Bool) :=
 obind (slices_Clone_int_int_57 t_0.stack_) fun r3 =>
 need (r3.length + ([kind_1] : List Int).length ≤ 4294967296) (
 some ((S_compile_types.mk (r3 ++ ([kind_1] : List Int)) t_0.slots_ t_0.loops_), decide (kind_1 ≠ 0)))
theorem weirgate_compile_types_push_65_ok (t_0 : S_compile_types) (kind_1 : Int) (t_0_stack_v : Value) (t_0_slots_v : Value) (t_0_loops_v : Value) {r : S_compile_types × Bool} (h : weirgate_compile_types_push_65 t_0 kind_1 = some r) :
  Meets Try.prog 65 [.agg #[t_0_stack_v, t_0_slots_v, t_0_loops_v], .int .i64 kind_1] [ro t_0_stack_v 1 (t_0.stack_.map (eInt .i64)), ro t_0_slots_v 1 (t_0.slots_.map (eInt .i64)), ro t_0_loops_v 1 (t_0.loops_.map (eInt .i64))] (fun v G => ∃ v0 v1 v2, v = .tuple #[.agg #[v0, v1, v2], .bool r.2] ∧ G = [row v0 1 (r.1.stack_.map (eInt .i64)), ro v1 1 (r.1.slots_.map (eInt .i64)), ro v2 1 (r.1.loops_.map (eInt .i64))]) := by
 refine fn_of_run Try.func65 rfl Try.ntmps65 rfl (fun w0 o0 => ?_)
 refine run_seq ?_
 refine run_region' ?_
 refine ot rfl rfl (t_box rfl) ?_
 rintro _ _ ⟨b1, rfl, rfl⟩
 refine ot rfl rfl (t_alloc Try.zeroValue71) ?_
 rintro _ _ ⟨b2, rfl, rfl⟩
 refine oy rfl rfl (y_assign rfl) ?_
 refine ops_nil ?_
 refine goes_code ?_
 refine run_seq ?_
 refine run_region' ?_
 refine oy rfl rfl (y_fieldAddr_box (sz := 0) Try.runUnderlying71 rfl Try.sizeOf22 rfl) ?_
 refine oy rfl rfl (y_load_box 3 Try.isAgg22 rfl rfl rfl) ?_
 obtain ⟨r3, hr4, h⟩ := obind_some h
 refine ot rfl rfl (t_callx (vs := [t_0_stack_v]) (cs := []) [(0, 0)] rfl Try.call57 rfl (slices_Clone_int_int_57_ok  t_0.stack_ t_0_stack_v hr4) (showsX_view 0 rfl views_ro showsX_nil) rfl (.inl rfl)) ?_
 rintro v5 _ ⟨_, ⟨_, rfl, rfl⟩, rfl⟩
 refine oy rfl rfl (y_move rfl) ?_
 refine ot rfl rfl (t_lit [.int .i64 kind_1] Try.runUnderlying22 Try.sizeOf3 Try.zeroValue3 rfl (by decide) (by decide) rfl (by simp [Value.cells, boxP])) ?_
 rintro v6 _ ⟨rfl, _⟩
 refine ops_turn (retell 6 (g := row v6 1 (([kind_1] : List Int).map (eInt .i64))) rfl rfl) ?_
 obtain ⟨hr8, h⟩ := need_some h
 refine ot rfl rfl (t_append (es := 1) 5 rfl Try.runUnderlying22 rfl Try.runUnderlying22 (.inr ⟨_, rfl⟩) Try.typeInfo3 rfl (by decide) Try.zeroValue3 rfl rfl rfl rfl (src_reads 6 rfl reads_row (map_ok (eInt_ok _) _)) (map_room hr8 (by decide)) (map_fit hr8)) ?_
 rintro v7 _ rfl
 refine ops_turn (retell 5 (g := row v7 1 ((r3 ++ ([kind_1] : List Int)).map (eInt .i64))) rfl (congrArg (row _ _) List.map_append.symm)) ?_
 refine oy rfl rfl (y_fieldAddr_box (sz := 0) Try.runUnderlying71 rfl Try.sizeOf22 rfl) ?_
 refine ops_slc 5 rfl reads_row (fun hs9 hs9o => ?_)
 refine ot rfl rfl (t_store 3 Try.sizeOf22 rfl rfl rfl (by rw [hs9]; rfl) (by simp [Value.cells, boxP]) (by rw [hs9]; exact allL_cons hs9o (allL_nil))) ?_
 rintro _ _ ⟨rfl, rfl⟩
 refine ops_turn (retell 3 (g := box b1 [v7, t_0_slots_v, t_0_loops_v]) rfl (by rw [hs9]; rfl)) ?_
 refine ops_nil ?_
 refine goes_code ?_
 refine run_seq ?_
 refine run_weak [(1, .int .i64 kind_1), (2, boxP b1 0), (4, boxP b2 0)] [1, 2, 3, 4, 5] [ro t_0_slots_v 1 (t_0.slots_.map (eInt .i64)), ro t_0_loops_v 1 (t_0.loops_.map (eInt .i64)), box b1 [v7, t_0_slots_v, t_0_loops_v], box b2 [.slice none 0 0, .slice none 0 0, .slice none 0 0], row v7 1 ((r3 ++ ([kind_1] : List Int)).map (eInt .i64))] (qv3 rfl rfl rfl) (by decide) rfl ?_
 refine run_region' ?_
 refine oy rfl rfl (y_load_boxagg (c := [v7, t_0_slots_v, t_0_loops_v]) 2 Try.isAgg71 Try.sizeOf71 rfl rfl rfl) ?_
 refine oy rfl rfl (y_move rfl) ?_
 refine oy rfl rfl (y_neq rfl rfl) ?_
 refine ops_slc 4 rfl reads_row (fun hs10 hs10o => ?_)
 refine ops_slc 0 rfl reads_ro (fun hs11 hs11o => ?_)
 refine ops_slc 1 rfl reads_ro (fun hs12 hs12o => ?_)
 refine ot rfl rfl (t_store 3 Try.sizeOf71 rfl rfl rfl rfl (by simp [Value.cells, boxP]) (allL_cons hs10o (allL_cons hs11o (allL_cons hs12o (allL_nil))))) ?_
 rintro _ _ ⟨rfl, rfl⟩
 refine ops_turn (retell 3 (g := box b2 [v7, t_0_slots_v, t_0_loops_v]) rfl rfl) ?_
 refine oy rfl rfl (y_assign rfl) ?_
 refine ops_nil ?_
 refine goes_code ?_
 refine run_ret ?_
 obtain rfl := some_eq h
 refine fin_res [.cell 4 71, .tmp 5] [.agg #[v7, t_0_slots_v, t_0_loops_v], .bool (decide (kind_1 ≠ 0))] [4, 0, 1] [row v7 1 ((r3 ++ ([kind_1] : List Int)).map (eInt .i64)), ro t_0_slots_v 1 (t_0.slots_.map (eInt .i64)), ro t_0_loops_v 1 (t_0.loops_.map (eInt .i64))] Try.results65 rfl (rescons (res_box 3 Try.isAgg71 Try.sizeOf71 rfl rfl rfl) (rescons (res_tmp rfl) resnil)) (by decide) rfl ?_
 exact ⟨_, _, _, rfl, rfl⟩

def weirgate_compile_types_operator_1_68 (k_0 : Int) (a_1 : Int) : Option (Bool) :=
 some (decide (k_0 ≠ a_1))
theorem weirgate_compile_types_operator_1_68_ok (k_0 : Int) (a_1 : Int) (a_1b : Nat) {r : Bool} (h : weirgate_compile_types_operator_1_68 k_0 a_1 = some r) :
  Meets Try.prog 68 [.int .i64 k_0, boxP a_1b 0] [box a_1b [.int .i64 a_1]] (fun v G => v = .bool r ∧ G = [box a_1b [.int .i64 a_1]]) := by
 refine fn_of_run Try.func68 rfl Try.ntmps68 rfl (fun w0 o0 => ?_)
 refine run_seq ?_
 refine run_region' ?_
 refine oy rfl rfl (y_assign rfl) ?_
 refine ops_nil ?_
 refine goes_code ?_
 refine run_seq ?_
 refine run_region' ?_
 refine oy rfl rfl (y_move rfl) ?_
 refine oy rfl rfl (y_load_box 0 Try.isAgg3 rfl rfl rfl) ?_
 refine oy rfl rfl (y_neq rfl rfl) ?_
 refine oy rfl rfl (y_assign rfl) ?_
 refine ops_nil ?_
 refine goes_code ?_
 refine run_ret ?_
 obtain rfl := some_eq h
 refine fin_slots [3] [.bool (decide (k_0 ≠ a_1))] [0] [box a_1b [.int .i64 a_1]] Try.results68 rfl (by decide) rfl ?_
 exact ⟨rfl, rfl⟩

def slices_IndexFunc_int_int_73_L1 (s_0 : (List Int)) (f_1_0 : Int) : (Int) → Option (Lp (Int) (Lp (Unit) (Int))) :=
 fun s_5 =>
  cond (decide (s_5 < (s_0.length : Int)))
   (idx s_0 s_5 fun x11 =>
   obind (weirgate_compile_types_operator_1_68 x11 f_1_0) fun r12 =>
   cond r12
    (some (.stop (.stop s_5)))
    (some (.go (IntKind.i64.wrap (s_5 + 1)))))
   (some (.stop (.go ())))
def slices_IndexFunc_int_int_73 (n : Nat) (s_0 : (List Int)) (f_1_0 : Int) : Option (Int) :=
 bindJ (S := Unit)
  (iter (slices_IndexFunc_int_int_73_L1 s_0 f_1_0) n 0)
 (fun _ =>
  some (-1))
theorem slices_IndexFunc_int_int_73_ok (n : Nat) (s_0 : (List Int)) (f_1_0 : Int) (s_0v : Value) (f_1_0b : Nat) {r : Int} (h : slices_IndexFunc_int_int_73 n s_0 f_1_0 = some r) :
  Meets Try.prog 73 [s_0v, .func (.func 68) #[] #[boxP f_1_0b 0]] [ro s_0v 1 (s_0.map (eInt .i64)), box f_1_0b [.int .i64 f_1_0]] (fun v G => v = .int .i64 r ∧ G = [box f_1_0b [.int .i64 f_1_0]]) := by
 refine fn_of_run Try.func73 rfl Try.ntmps73 rfl (fun w0 o0 => ?_)
 refine run_seq ?_
 refine run_region' ?_
 refine oy rfl rfl (y_assign rfl) ?_
 refine ops_nil ?_
 refine goes_code ?_
 obtain ⟨o1, h, ho2⟩ := bindJ_some h
 refine run_cut ((Unit) × (Unit)) (fun σ => []) (fun σ => [box f_1_0b [.int .i64 f_1_0]]) (fun σ => o1 = .go σ.1) (fun L4 hL3 => ?_) ?_
 ·
  refine run_seq ?_
  refine run_region' ?_
  refine oy rfl rfl (y_move rfl) ?_
  refine oy rfl rfl ((y_len 0 rfl Try.runUnderlying22 rfl rfl reads_ro).to (v_len (eInt .i64) _)) ?_
  refine oy rfl rfl (y_move rfl) ?_
  refine ops_nil ?_
  refine goes_code ?_
  refine run_block ?_
  refine run_iter (step := slices_IndexFunc_int_int_73_L1 s_0 f_1_0) (n := n) (s0 := 0) h (G := Unit) () (fun σ γ => [(8, .int .i64 σ), (0, s_0v), (1, .func (.func 68) #[] #[boxP f_1_0b 0]), (7, .int .i64 (s_0.length : Int))]) (fun σ γ => [ro s_0v 1 (s_0.map (eInt .i64)), box f_1_0b [.int .i64 f_1_0]]) [0, 1] (qv4 rfl rfl rfl rfl) (by decide) rfl ?_
  rintro s_5 _ o6 h L9 hgo7 hstop8
  change Run _ _ _ (VF.of [(8, .int .i64 s_5), (0, s_0v), (1, .func (.func 68) #[] #[boxP f_1_0b 0]), (7, .int .i64 (s_0.length : Int))]) [ro s_0v 1 (s_0.map (eInt .i64)), box f_1_0b [.int .i64 f_1_0]]
  refine run_seq ?_
  refine run_region' ?_
  refine oy rfl rfl (y_lss rfl rfl) ?_
  refine ops_nil ?_
  refine goes_code ?_
  refine run_seq ?_
  refine run_cond (decide (s_5 < (s_0.length : Int))) rfl (fun hc10 => ?_) (fun hc10 => ?_)
  ·replace h := cond_t h hc10
   refine run_skip ?_
   refine goes_code ?_
   refine run_seq ?_
   refine run_block ?_
   refine run_seq ?_
   refine run_region' ?_
   refine oy rfl rfl (y_move rfl) ?_
   refine oy rfl rfl (y_assign rfl) ?_
   refine ops_nil ?_
   refine goes_code ?_
   refine run_seq ?_
   refine run_region' ?_
   refine oy rfl rfl (y_move rfl) ?_
   refine oy rfl rfl (y_move rfl) ?_
   refine oy rfl rfl (y_move rfl) ?_
   obtain ⟨x11, hzx11, hlx11, hxx11, h⟩ := idx_some h
   refine oy rfl rfl (y_indexAddrI (kd := .i64) (i := s_5) 0 Try.runUnderlying22 Try.sizeOf3 rfl rfl rfl reads_ro hzx11 (map_lt hlx11)) ?_
   refine oy rfl rfl (y_load_elem (i := s_5.toNat) 0 Try.isAgg3 rfl rfl reads_ro (map_get hxx11)) ?_
   obtain ⟨r12, hr13, h⟩ := obind_some h
   refine ot rfl rfl (t_callx (vs := [.int .i64 x11]) (cs := [boxP f_1_0b 0]) [(1, 2)] rfl Try.call68 rfl (weirgate_compile_types_operator_1_68_ok  x11 f_1_0 f_1_0b hr13) (showsX_lend 1 rfl showsX_nil) rfl (.inl rfl)) ?_
   rintro _ _ ⟨_, ⟨rfl, rfl⟩, rfl⟩
   refine ops_nil ?_
   refine goes_code ?_
   refine run_cond r12 rfl (fun hc14 => ?_) (fun hc14 => ?_)
   ·replace h := cond_t h hc14
    refine run_seq ?_
    refine run_weak [(5, .int .i64 s_5)] [2] [box f_1_0b [.int .i64 f_1_0]] (qv1 rfl) (by decide) rfl ?_
    refine run_region' ?_
    refine oy rfl rfl (y_move rfl) ?_
    refine oy rfl rfl (y_assign rfl) ?_
    refine ops_nil ?_
    refine goes_code ?_
    refine run_ret ?_
    obtain rfl := some_eq h
    obtain rfl := hstop8 _ rfl
    skip
    obtain rfl := after_stop ho2
    refine fin_slots [4] [.int .i64 s_5] [0] [box f_1_0b [.int .i64 f_1_0]] Try.results73 rfl (by decide) rfl ?_
    exact ⟨rfl, rfl⟩
   ·replace h := cond_f h hc14
    refine run_skip ?_
    refine goes_blk ?_
    refine goes_code ?_
    refine run_weak [(8, .int .i64 s_5), (0, s_0v), (1, .func (.func 68) #[] #[boxP f_1_0b 0]), (7, .int .i64 (s_0.length : Int))] [0, 2] [ro s_0v 1 (s_0.map (eInt .i64)), box f_1_0b [.int .i64 f_1_0]] (qv4 rfl rfl rfl rfl) (by decide) rfl ?_
    refine run_region' ?_
    refine oy rfl rfl (y_add rfl rfl) ?_
    refine oy rfl rfl (y_move rfl) ?_
    refine ops_nil ?_
    obtain rfl := some_eq h
    exact goes_iter hgo7 (IntKind.i64.wrap (s_5 + 1)) () [0, 1] rfl (qv4 rfl rfl rfl rfl) (by decide) rfl
  ·replace h := cond_f h hc10
   refine run_exit _ rfl ?_
   obtain rfl := some_eq h
   obtain rfl := hstop8 _ rfl
   exact goes_cut hL3 ((), ()) [1] vnil (by decide) rfl rfl
 rintro ⟨_, _⟩ hj
 obtain rfl : o1 = _ := hj
 replace h := after_go ho2
 clear ho2
 change Run _ _ _ (VF.of []) [box f_1_0b [.int .i64 f_1_0]]
 refine run_seq ?_
 refine run_region' ?_
 refine oy rfl rfl (y_assign rfl) ?_
 refine ops_nil ?_
 refine goes_code ?_
 refine run_ret ?_
 obtain rfl := some_eq h
 refine fin_slots [4] [.int .i64 (-1)] [0] [box f_1_0b [.int .i64 f_1_0]] Try.results73 rfl (by decide) rfl ?_
 exact ⟨rfl, rfl⟩

def slices_ContainsFunc_int_int_67 (n : Nat) (s_0 : (List Int)) (f_1_0 : Int) : Option (Bool) :=
 obind (slices_IndexFunc_int_int_73 n s_0 f_1_0) fun r1 =>
 some (decide (0 ≤ r1))
theorem slices_ContainsFunc_int_int_67_ok (n : Nat) (s_0 : (List Int)) (f_1_0 : Int) (s_0v : Value) (f_1_0b : Nat) {r : Bool} (h : slices_ContainsFunc_int_int_67 n s_0 f_1_0 = some r) :
  Meets Try.prog 67 [s_0v, .func (.func 68) #[] #[boxP f_1_0b 0]] [ro s_0v 1 (s_0.map (eInt .i64)), box f_1_0b [.int .i64 f_1_0]] (fun v G => v = .bool r ∧ G = [box f_1_0b [.int .i64 f_1_0]]) := by
 refine fn_of_run Try.func67 rfl Try.ntmps67 rfl (fun w0 o0 => ?_)
 refine run_seq ?_
 refine run_region' ?_
 refine oy rfl rfl (y_assign rfl) ?_
 refine ops_nil ?_
 refine goes_code ?_
 refine run_seq ?_
 refine run_region' ?_
 refine oy rfl rfl (y_move rfl) ?_
 refine oy rfl rfl (y_move rfl) ?_
 obtain ⟨r1, hr2, h⟩ := obind_some h
 refine ot rfl rfl (t_callx (vs := [s_0v, .func (.func 68) #[] #[boxP f_1_0b 0]]) (cs := []) [(0, 0), (1, 2)] rfl Try.call73 rfl (slices_IndexFunc_int_int_73_ok n  s_0 f_1_0 s_0v f_1_0b hr2) (showsX_view 0 rfl views_ro (showsX_lend 1 rfl showsX_nil)) rfl (.inl rfl)) ?_
 rintro _ _ ⟨_, ⟨rfl, rfl⟩, rfl⟩
 refine oy rfl rfl (y_geq rfl rfl) ?_
 refine oy rfl rfl (y_assign rfl) ?_
 refine ops_nil ?_
 refine goes_code ?_
 refine run_ret ?_
 obtain rfl := some_eq h
 refine fin_slots [4] [.bool (decide (0 ≤ r1))] [2] [box f_1_0b [.int .i64 f_1_0]] Try.results67 rfl (by decide) rfl ?_
 exact ⟨rfl, rfl⟩

def compile_value (op_0 : Int) (kind_1 : Int) : Option (Int) :=
 bindJ (S := Unit)
  (bindJ (S := Bool)
   (cond (decide (op_0 = 8))
    (some (.go (decide (op_0 = 8))))
    (cond (decide (op_0 = 11))
     (some (.go (decide (op_0 = 11))))
     (cond (decide (op_0 = 12))
      (some (.go (decide (op_0 = 12))))
      (cond (decide (op_0 = 13))
       (some (.go (decide (op_0 = 13))))
       (some (.go (decide (op_0 = 14))))))))
  (fun s_5 =>
   cond s_5
    (cond (decide (kind_1 ≠ 1))
     (some (.stop 0))
     (some (.stop kind_1)))
    (cond (decide (op_0 = 10))
     (cond (decide (kind_1 = 3))
      (some (.stop 0))
      (some (.stop kind_1)))
     (bindJ (S := Bool)
      (cond (decide (op_0 = 9))
       (some (.go (decide (op_0 = 9))))
       (cond (decide (op_0 = 21))
        (some (.go (decide (op_0 = 21))))
        (some (.go (decide (op_0 = 22))))))
     (fun s_18 =>
      cond s_18
       (cond (decide (kind_1 ≠ 3))
        (some (.stop 0))
        (some (.go ())))
       (bindJ (S := Bool)
        (cond (decide (op_0 = 15))
         (some (.go (decide (op_0 = 15))))
         (cond (decide (op_0 = 16))
          (some (.go (decide (op_0 = 16))))
          (cond (decide (op_0 = 17))
           (some (.go (decide (op_0 = 17))))
           (some (.go (decide (op_0 = 18)))))))
       (fun s_27 =>
        cond s_27
         (cond (decide (kind_1 = 3))
          (some (.stop 0))
          (some (.go ())))
         (some (.go ())))))))))
 (fun _ =>
  some 3)
theorem compile_value_ok (op_0 : Int) (kind_1 : Int)  {r : Int} (h : compile_value op_0 kind_1 = some r) :
  Meets Try.prog 69 [.int .i64 op_0, .int .i64 kind_1] [] (fun v G => v = .int .i64 r ∧ G = []) := by
 refine fn_of_run Try.func69 rfl Try.ntmps69 rfl (fun w0 o0 => ?_)
 refine run_seq ?_
 refine run_region' ?_
 refine oy rfl rfl (y_assign rfl) ?_
 refine ops_nil ?_
 refine goes_code ?_
 obtain ⟨o1, h, ho2⟩ := bindJ_some h
 refine run_cut ((Unit) × (Unit)) (fun σ => []) (fun σ => []) (fun σ => o1 = .go σ.1) (fun L4 hL3 => ?_) ?_
 ·
  refine run_seq ?_
  refine run_region' ?_
  refine oy rfl rfl (y_move rfl) ?_
  refine ops_nil ?_
  refine goes_code ?_
  refine run_block ?_
  obtain ⟨o6, h, ho7⟩ := bindJ_some h
  refine run_cut ((Bool) × (Unit)) (fun σ => [(6, .bool σ.1), (1, .int .i64 kind_1), (5, .int .i64 op_0)]) (fun σ => []) (fun σ => o6 = .go σ.1) (fun L9 hL8 => ?_) ?_
  ·
   refine run_seq ?_
   refine run_region' ?_
   refine oy rfl rfl (y_eql rfl rfl) ?_
   refine oy rfl rfl (y_assign rfl) ?_
   refine ops_nil ?_
   refine goes_code ?_
   refine run_cond (decide (op_0 = 8)) rfl (fun hc10 => ?_) (fun hc10 => ?_)
   ·replace h := cond_t h hc10
    refine run_skip ?_
    obtain rfl := some_eq h
    exact goes_cut hL8 (decide (op_0 = 8), ()) [] (qv3 rfl rfl rfl) (by decide) rfl rfl
   ·replace h := cond_f h hc10
    refine run_seq ?_
    refine run_region' ?_
    refine oy rfl rfl (y_eql rfl rfl) ?_
    refine oy rfl rfl (y_assign rfl) ?_
    refine ops_nil ?_
    refine goes_code ?_
    refine run_cond (decide (op_0 = 11)) rfl (fun hc11 => ?_) (fun hc11 => ?_)
    ·replace h := cond_t h hc11
     refine run_skip ?_
     obtain rfl := some_eq h
     exact goes_cut hL8 (decide (op_0 = 11), ()) [] (qv3 rfl rfl rfl) (by decide) rfl rfl
    ·replace h := cond_f h hc11
     refine run_seq ?_
     refine run_region' ?_
     refine oy rfl rfl (y_eql rfl rfl) ?_
     refine oy rfl rfl (y_assign rfl) ?_
     refine ops_nil ?_
     refine goes_code ?_
     refine run_cond (decide (op_0 = 12)) rfl (fun hc12 => ?_) (fun hc12 => ?_)
     ·replace h := cond_t h hc12
      refine run_skip ?_
      obtain rfl := some_eq h
      exact goes_cut hL8 (decide (op_0 = 12), ()) [] (qv3 rfl rfl rfl) (by decide) rfl rfl
     ·replace h := cond_f h hc12
      refine run_seq ?_
      refine run_weak [(1, .int .i64 kind_1), (5, .int .i64 op_0)] [] [] (qv2 rfl rfl) (by decide) rfl ?_
      refine run_region' ?_
      refine oy rfl rfl (y_eql rfl rfl) ?_
      refine oy rfl rfl (y_assign rfl) ?_
      refine ops_nil ?_
      refine goes_code ?_
      refine run_cond (decide (op_0 = 13)) rfl (fun hc13 => ?_) (fun hc13 => ?_)
      ·replace h := cond_t h hc13
       refine run_skip ?_
       obtain rfl := some_eq h
       exact goes_cut hL8 (decide (op_0 = 13), ()) [] (qv3 rfl rfl rfl) (by decide) rfl rfl
      ·replace h := cond_f h hc13
       refine run_region' ?_
       refine oy rfl rfl (y_eql rfl rfl) ?_
       refine oy rfl rfl (y_assign rfl) ?_
       refine ops_nil ?_
       obtain rfl := some_eq h
       exact goes_cut hL8 (decide (op_0 = 14), ()) [] (qv3 rfl rfl rfl) (by decide) rfl rfl
  rintro ⟨s_5, _⟩ hj
  obtain rfl : o6 = _ := hj
  replace h := after_go ho7
  clear ho7
  change Run _ _ _ (VF.of [(6, .bool s_5), (1, .int .i64 kind_1), (5, .int .i64 op_0)]) []
  refine run_cond s_5 rfl (fun hc14 => ?_) (fun hc14 => ?_)
  ·replace h := cond_t h hc14
   refine run_seq ?_
   refine run_seq ?_
   refine run_region' ?_
   refine oy rfl rfl (y_move rfl) ?_
   refine oy rfl rfl (y_neq rfl rfl) ?_
   refine ops_nil ?_
   refine goes_code ?_
   refine run_cond (decide (kind_1 ≠ 1)) rfl (fun hc15 => ?_) (fun hc15 => ?_)
   ·replace h := cond_t h hc15
    refine run_seq ?_
    refine run_region' ?_
    refine oy rfl rfl (y_assign rfl) ?_
    refine ops_nil ?_
    refine goes_code ?_
    refine run_ret ?_
    obtain rfl := some_eq h
    obtain rfl := after_stop ho2
    refine fin_slots [4] [.int .i64 0] [] [] Try.results69 rfl (by decide) rfl ?_
    exact ⟨rfl, rfl⟩
   ·replace h := cond_f h hc15
    refine run_skip ?_
    refine goes_code ?_
    refine run_seq ?_
    refine run_region' ?_
    refine oy rfl rfl (y_move rfl) ?_
    refine oy rfl rfl (y_assign rfl) ?_
    refine ops_nil ?_
    refine goes_code ?_
    refine run_ret ?_
    obtain rfl := some_eq h
    obtain rfl := after_stop ho2
    refine fin_slots [4] [.int .i64 kind_1] [] [] Try.results69 rfl (by decide) rfl ?_
    exact ⟨rfl, rfl⟩
  ·replace h := cond_f h hc14
   refine run_seq ?_
   refine run_region' ?_
   refine oy rfl rfl (y_eql rfl rfl) ?_
   refine oy rfl rfl (y_assign rfl) ?_
   refine ops_nil ?_
   refine goes_code ?_
   refine run_cond (decide (op_0 = 10)) rfl (fun hc16 => ?_) (fun hc16 => ?_)
   ·replace h := cond_t h hc16
    refine run_seq ?_
    refine run_seq ?_
    refine run_region' ?_
    refine oy rfl rfl (y_move rfl) ?_
    refine oy rfl rfl (y_eql rfl rfl) ?_
    refine ops_nil ?_
    refine goes_code ?_
    refine run_cond (decide (kind_1 = 3)) rfl (fun hc17 => ?_) (fun hc17 => ?_)
    ·replace h := cond_t h hc17
     refine run_seq ?_
     refine run_region' ?_
     refine oy rfl rfl (y_assign rfl) ?_
     refine ops_nil ?_
     refine goes_code ?_
     refine run_ret ?_
     obtain rfl := some_eq h
     obtain rfl := after_stop ho2
     refine fin_slots [4] [.int .i64 0] [] [] Try.results69 rfl (by decide) rfl ?_
     exact ⟨rfl, rfl⟩
    ·replace h := cond_f h hc17
     refine run_skip ?_
     refine goes_code ?_
     refine run_seq ?_
     refine run_region' ?_
     refine oy rfl rfl (y_move rfl) ?_
     refine oy rfl rfl (y_assign rfl) ?_
     refine ops_nil ?_
     refine goes_code ?_
     refine run_ret ?_
     obtain rfl := some_eq h
     obtain rfl := after_stop ho2
     refine fin_slots [4] [.int .i64 kind_1] [] [] Try.results69 rfl (by decide) rfl ?_
     exact ⟨rfl, rfl⟩
   ·replace h := cond_f h hc16
    obtain ⟨o19, h, ho20⟩ := bindJ_some h
    refine run_cut ((Bool) × (Unit)) (fun σ => [(20, .bool σ.1), (1, .int .i64 kind_1), (5, .int .i64 op_0)]) (fun σ => []) (fun σ => o19 = .go σ.1) (fun L22 hL21 => ?_) ?_
    ·
     refine run_seq ?_
     refine run_region' ?_
     refine oy rfl rfl (y_eql rfl rfl) ?_
     refine oy rfl rfl (y_assign rfl) ?_
     refine ops_nil ?_
     refine goes_code ?_
     refine run_cond (decide (op_0 = 9)) rfl (fun hc23 => ?_) (fun hc23 => ?_)
     ·replace h := cond_t h hc23
      refine run_skip ?_
      obtain rfl := some_eq h
      exact goes_cut hL21 (decide (op_0 = 9), ()) [] (qv3 rfl rfl rfl) (by decide) rfl rfl
     ·replace h := cond_f h hc23
      refine run_seq ?_
      refine run_region' ?_
      refine oy rfl rfl (y_eql rfl rfl) ?_
      refine oy rfl rfl (y_assign rfl) ?_
      refine ops_nil ?_
      refine goes_code ?_
      refine run_cond (decide (op_0 = 21)) rfl (fun hc24 => ?_) (fun hc24 => ?_)
      ·replace h := cond_t h hc24
       refine run_skip ?_
       obtain rfl := some_eq h
       exact goes_cut hL21 (decide (op_0 = 21), ()) [] (qv3 rfl rfl rfl) (by decide) rfl rfl
      ·replace h := cond_f h hc24
       refine run_region' ?_
       refine oy rfl rfl (y_eql rfl rfl) ?_
       refine oy rfl rfl (y_assign rfl) ?_
       refine ops_nil ?_
       obtain rfl := some_eq h
       exact goes_cut hL21 (decide (op_0 = 22), ()) [] (qv3 rfl rfl rfl) (by decide) rfl rfl
    rintro ⟨s_18, _⟩ hj
    obtain rfl : o19 = _ := hj
    replace h := after_go ho20
    clear ho20
    change Run _ _ _ (VF.of [(20, .bool s_18), (1, .int .i64 kind_1), (5, .int .i64 op_0)]) []
    refine run_cond s_18 rfl (fun hc25 => ?_) (fun hc25 => ?_)
    ·replace h := cond_t h hc25
     refine run_seq ?_
     refine run_region' ?_
     refine oy rfl rfl (y_move rfl) ?_
     refine oy rfl rfl (y_neq rfl rfl) ?_
     refine ops_nil ?_
     refine goes_code ?_
     refine run_cond (decide (kind_1 ≠ 3)) rfl (fun hc26 => ?_) (fun hc26 => ?_)
     ·replace h := cond_t h hc26
      refine run_seq ?_
      refine run_region' ?_
      refine oy rfl rfl (y_assign rfl) ?_
      refine ops_nil ?_
      refine goes_code ?_
      refine run_ret ?_
      obtain rfl := some_eq h
      obtain rfl := after_stop ho2
      refine fin_slots [4] [.int .i64 0] [] [] Try.results69 rfl (by decide) rfl ?_
      exact ⟨rfl, rfl⟩
     ·replace h := cond_f h hc26
      refine run_skip ?_
      refine goes_blk ?_
      obtain rfl := some_eq h
      exact goes_cut hL3 ((), ()) [] vnil (by decide) rfl rfl
    ·replace h := cond_f h hc25
     obtain ⟨o28, h, ho29⟩ := bindJ_some h
     refine run_cut ((Bool) × (Unit)) (fun σ => [(26, .bool σ.1), (1, .int .i64 kind_1)]) (fun σ => []) (fun σ => o28 = .go σ.1) (fun L31 hL30 => ?_) ?_
     ·
      refine run_seq ?_
      refine run_region' ?_
      refine oy rfl rfl (y_eql rfl rfl) ?_
      refine oy rfl rfl (y_assign rfl) ?_
      refine ops_nil ?_
      refine goes_code ?_
      refine run_cond (decide (op_0 = 15)) rfl (fun hc32 => ?_) (fun hc32 => ?_)
      ·replace h := cond_t h hc32
       refine run_skip ?_
       obtain rfl := some_eq h
       exact goes_cut hL30 (decide (op_0 = 15), ()) [] (qv2 rfl rfl) (by decide) rfl rfl
      ·replace h := cond_f h hc32
       refine run_seq ?_
       refine run_region' ?_
       refine oy rfl rfl (y_eql rfl rfl) ?_
       refine oy rfl rfl (y_assign rfl) ?_
       refine ops_nil ?_
       refine goes_code ?_
       refine run_cond (decide (op_0 = 16)) rfl (fun hc33 => ?_) (fun hc33 => ?_)
       ·replace h := cond_t h hc33
        refine run_skip ?_
        obtain rfl := some_eq h
        exact goes_cut hL30 (decide (op_0 = 16), ()) [] (qv2 rfl rfl) (by decide) rfl rfl
       ·replace h := cond_f h hc33
        refine run_seq ?_
        refine run_region' ?_
        refine oy rfl rfl (y_eql rfl rfl) ?_
        refine oy rfl rfl (y_assign rfl) ?_
        refine ops_nil ?_
        refine goes_code ?_
        refine run_cond (decide (op_0 = 17)) rfl (fun hc34 => ?_) (fun hc34 => ?_)
        ·replace h := cond_t h hc34
         refine run_skip ?_
         obtain rfl := some_eq h
         exact goes_cut hL30 (decide (op_0 = 17), ()) [] (qv2 rfl rfl) (by decide) rfl rfl
        ·replace h := cond_f h hc34
         refine run_region' ?_
         refine oy rfl rfl (y_eql rfl rfl) ?_
         refine oy rfl rfl (y_assign rfl) ?_
         refine ops_nil ?_
         obtain rfl := some_eq h
         exact goes_cut hL30 (decide (op_0 = 18), ()) [] (qv2 rfl rfl) (by decide) rfl rfl
     rintro ⟨s_27, _⟩ hj
     obtain rfl : o28 = _ := hj
     replace h := after_go ho29
     clear ho29
     change Run _ _ _ (VF.of [(26, .bool s_27), (1, .int .i64 kind_1)]) []
     refine run_cond s_27 rfl (fun hc35 => ?_) (fun hc35 => ?_)
     ·replace h := cond_t h hc35
      refine run_seq ?_
      refine run_region' ?_
      refine oy rfl rfl (y_move rfl) ?_
      refine oy rfl rfl (y_eql rfl rfl) ?_
      refine ops_nil ?_
      refine goes_code ?_
      refine run_cond (decide (kind_1 = 3)) rfl (fun hc36 => ?_) (fun hc36 => ?_)
      ·replace h := cond_t h hc36
       refine run_seq ?_
       refine run_region' ?_
       refine oy rfl rfl (y_assign rfl) ?_
       refine ops_nil ?_
       refine goes_code ?_
       refine run_ret ?_
       obtain rfl := some_eq h
       obtain rfl := after_stop ho2
       refine fin_slots [4] [.int .i64 0] [] [] Try.results69 rfl (by decide) rfl ?_
       exact ⟨rfl, rfl⟩
      ·replace h := cond_f h hc36
       refine run_skip ?_
       refine goes_blk ?_
       obtain rfl := some_eq h
       exact goes_cut hL3 ((), ()) [] vnil (by decide) rfl rfl
     ·replace h := cond_f h hc35
      refine run_skip ?_
      refine goes_blk ?_
      obtain rfl := some_eq h
      exact goes_cut hL3 ((), ()) [] vnil (by decide) rfl rfl
 rintro ⟨_, _⟩ hj
 obtain rfl : o1 = _ := hj
 replace h := after_go ho2
 clear ho2
 change Run _ _ _ (VF.of []) []
 refine run_seq ?_
 refine run_region' ?_
 refine oy rfl rfl (y_assign rfl) ?_
 refine ops_nil ?_
 refine goes_code ?_
 refine run_ret ?_
 obtain rfl := some_eq h
 refine fin_slots [4] [.int .i64 3] [] [] Try.results69 rfl (by decide) rfl ?_
 exact ⟨rfl, rfl⟩

def weirgate_compile_types_operator_55 (n : Nat) (t_0 : S_compile_types) (x_1 : S_api_Instr) : Option (S_compile_types × Bool) :=
 bindJ (S := Int)
  (cond (decide (x_1.Op ≤ 7))
   (obind (weirgate_compile_types_leaf_66 t_0 x_1) fun r10 =>
   obind (weirgate_compile_types_push_65 t_0 r10) fun r12 =>
   some (.stop (r12.1, r12.2)))
   (cond (decide (x_1.Op = 8) || decide (x_1.Op = 9))
    (some (.go 1))
    (cond (decide (x_1.Op = 23))
     (some (.go x_1.A))
     (some (.go 2)))))
 (fun n_4 =>
  cond ((((decide (n_4 < 1) || (decide (x_1.Op = 23) && decide (n_4 < 2))) || (decide (x_1.Op ≠ 23) && decide (x_1.A ≠ 0))) || (!decide (x_1.S = []))) || decide ((IntKind.i64.wrap ((t_0.stack_.length : Int) - n_4)) < 0))
   (some (t_0, false))
   (idx t_0.stack_ (IntKind.i64.wrap ((t_0.stack_.length : Int) - n_4)) fun x47 =>
   need (0 ≤ (IntKind.i64.wrap ((t_0.stack_.length : Int) - n_4)) ∧ (IntKind.i64.wrap ((t_0.stack_.length : Int) - n_4)) ≤ (t_0.stack_.length : Int) ∧ (t_0.stack_.length : Int) ≤ (t_0.stack_.length : Int)) (
   obind (slices_ContainsFunc_int_int_67 n (t_0.stack_.drop (((IntKind.i64.wrap ((t_0.stack_.length : Int) - n_4))).toNat)) x47) fun r50 =>
   cond r50
    (some (t_0, false))
    (need (0 ≤ (0 : Int) ∧ 0 ≤ (IntKind.i64.wrap ((t_0.stack_.length : Int) - n_4)) ∧ (IntKind.i64.wrap ((t_0.stack_.length : Int) - n_4)) ≤ (t_0.stack_.length : Int)) (
    obind (compile_value x_1.Op x47) fun r58 =>
    obind (weirgate_compile_types_push_65 (S_compile_types.mk (t_0.stack_.take (((IntKind.i64.wrap ((t_0.stack_.length : Int) - n_4))).toNat)) t_0.slots_ t_0.loops_) r58) fun r60 =>
    some (r60.1, r60.2))))))
theorem weirgate_compile_types_operator_55_ok (n : Nat) (t_0 : S_compile_types) (x_1 : S_api_Instr) (t_0_stack_v : Value) (t_0_slots_v : Value) (t_0_loops_v : Value) {r : S_compile_types × Bool} (h : weirgate_compile_types_operator_55 n t_0 x_1 = some r) :
  Meets Try.prog 55 [.agg #[t_0_stack_v, t_0_slots_v, t_0_loops_v], .agg #[.int .i64 x_1.Op, .int .i64 x_1.A, .string (bs x_1.S)]] [ro t_0_stack_v 1 (t_0.stack_.map (eInt .i64)), ro t_0_slots_v 1 (t_0.slots_.map (eInt .i64)), ro t_0_loops_v 1 (t_0.loops_.map (eInt .i64))] (fun v G => ∃ v0 v1 v2, v = .tuple #[.agg #[v0, v1, v2], .bool r.2] ∧ G = [ro v0 1 (r.1.stack_.map (eInt .i64)), ro v1 1 (r.1.slots_.map (eInt .i64)), ro v2 1 (r.1.loops_.map (eInt .i64))]) := by
 refine fn_of_run Try.func55 rfl Try.ntmps55 rfl (fun w0 o0 => ?_)
 refine run_seq ?_
 refine run_region' ?_
 refine ot rfl rfl (t_box rfl) ?_
 rintro _ _ ⟨b1, rfl, rfl⟩
 refine ot rfl rfl (t_box rfl) ?_
 rintro _ _ ⟨b2, rfl, rfl⟩
 refine ot rfl rfl (t_alloc Try.zeroValue71) ?_
 rintro _ _ ⟨b3, rfl, rfl⟩
 refine oy rfl rfl (y_assign rfl) ?_
 refine ops_nil ?_
 refine goes_code ?_
 refine run_seq ?_
 refine run_region' ?_
 refine oy rfl rfl (y_assign rfl) ?_
 refine ops_nil ?_
 refine goes_code ?_
 obtain ⟨o5, h, ho6⟩ := bindJ_some h
 refine run_cut ((Int) × (Unit)) (fun σ => [(6, .int .i64 σ.1), (2, boxP b1 0), (3, boxP b2 0), (4, boxP b3 0)]) (fun σ => [box b1 [t_0_stack_v, t_0_slots_v, t_0_loops_v], ro t_0_stack_v 1 (t_0.stack_.map (eInt .i64)), ro t_0_slots_v 1 (t_0.slots_.map (eInt .i64)), ro t_0_loops_v 1 (t_0.loops_.map (eInt .i64)), box b2 [.int .i64 x_1.Op, .int .i64 x_1.A, .string (bs x_1.S)], box b3 [.slice none 0 0, .slice none 0 0, .slice none 0 0]]) (fun σ => o5 = .go σ.1) (fun L8 hL7 => ?_) ?_
 ·
  refine run_block ?_
  refine run_seq ?_
  refine run_region' ?_
  refine oy rfl rfl (y_fieldAddr_box (sz := 0) Try.runUnderlying55 rfl Try.sizeOf3 rfl) ?_
  refine oy rfl rfl (y_load_box 4 Try.isAgg3 rfl rfl rfl) ?_
  refine oy rfl rfl (y_leq rfl rfl) ?_
  refine oy rfl rfl (y_assign rfl) ?_
  refine ops_nil ?_
  refine goes_code ?_
  refine run_cond (decide (x_1.Op ≤ 7)) rfl (fun hc9 => ?_) (fun hc9 => ?_)
  ·replace h := cond_t h hc9
   refine run_seq ?_
   refine run_weak [(2, boxP b1 0), (3, boxP b2 0), (4, boxP b3 0)] [0, 1, 2, 3, 4, 5] [ro t_0_stack_v 1 (t_0.stack_.map (eInt .i64)), ro t_0_slots_v 1 (t_0.slots_.map (eInt .i64)), ro t_0_loops_v 1 (t_0.loops_.map (eInt .i64)), box b1 [t_0_stack_v, t_0_slots_v, t_0_loops_v], box b2 [.int .i64 x_1.Op, .int .i64 x_1.A, .string (bs x_1.S)], box b3 [.slice none 0 0, .slice none 0 0, .slice none 0 0]] (qv3 rfl rfl rfl) (by decide) rfl ?_
   refine run_drawany [ro t_0_stack_v 1 (t_0.stack_.map (eInt .i64)), ro t_0_slots_v 1 (t_0.slots_.map (eInt .i64)), ro t_0_loops_v 1 (t_0.loops_.map (eInt .i64)), box b1 [t_0_stack_v, t_0_slots_v, t_0_loops_v], box b2 [.int .i64 x_1.Op, .int .i64 x_1.A, .string (bs x_1.S)], HA.emp] (by kernel_rfl) ?_
   refine any_y 0 rfl (by kernel_rfl) (by kernel_rfl) (by kernel_rfl) (ss (ss (ss (ss (ss (se (sn))))))) (wn rfl) rfl (y_load_boxagg (c := [t_0_stack_v, t_0_slots_v, t_0_loops_v]) 3 Try.isAgg71 Try.sizeOf71 rfl rfl rfl) ?_
   refine any_y 1 rfl (by kernel_rfl) (by kernel_rfl) (by kernel_rfl) (ss (ss (ss (ss (ss (se (sn))))))) (wn rfl) rfl (y_load_boxagg (c := [t_0_stack_v, t_0_slots_v, t_0_loops_v]) 3 Try.isAgg71 Try.sizeOf71 rfl rfl rfl) ?_
   refine any_y 2 rfl (by kernel_rfl) (by kernel_rfl) (by kernel_rfl) (ss (ss (ss (ss (ss (se (sn))))))) (wn rfl) rfl (y_load_boxagg (c := [.int .i64 x_1.Op, .int .i64 x_1.A, .string (bs x_1.S)]) 4 Try.isAgg55 Try.sizeOf55 rfl rfl rfl) ?_
   refine any_all [3] (by kernel_rfl) rfl (anyo_cons ?_ anyo_nil)
   obtain ⟨r10, hr11, h⟩ := obind_some h
   refine any_t rfl (wn rfl) rfl (t_callx (vs := [.agg #[t_0_stack_v, t_0_slots_v, t_0_loops_v], .agg #[.int .i64 x_1.Op, .int .i64 x_1.A, .string (bs x_1.S)]]) (cs := []) [(0, 0), (1, 0), (2, 0)] rfl Try.call66 rfl (weirgate_compile_types_leaf_66_ok  t_0 x_1 t_0_stack_v t_0_slots_v t_0_loops_v hr11) (showsX_view 0 rfl views_ro (showsX_view 1 rfl views_ro (showsX_view 2 rfl views_ro showsX_nil))) rfl (.inl rfl)) ?_
   rintro _ _ ⟨_, ⟨rfl, rfl⟩, rfl⟩
   refine ⟨(ss (ss (ss (ss (ss (se (sn))))))), ?_⟩
   refine any_all [4] (by kernel_rfl) rfl (anyo_cons ?_ anyo_nil)
   obtain ⟨r12, hr13, h⟩ := obind_some h
   refine any_t rfl (wn rfl) rfl (t_callx (vs := [.agg #[t_0_stack_v, t_0_slots_v, t_0_loops_v], .int .i64 r10]) (cs := []) [(0, 0), (1, 0), (2, 0)] rfl Try.call65 rfl (weirgate_compile_types_push_65_ok  t_0 r10 t_0_stack_v t_0_slots_v t_0_loops_v hr13) (showsX_view 0 rfl views_ro (showsX_view 1 rfl views_ro (showsX_view 2 rfl views_ro showsX_nil))) rfl (.inl rfl)) ?_
   rintro _ _ ⟨_, ⟨v14, v15, v16, rfl, rfl⟩, rfl⟩
   refine ⟨(ss (ss (ss (ss (ss (se (sn))))))), ?_⟩
   refine any_y 5 rfl (by kernel_rfl) (by kernel_rfl) (by kernel_rfl) (ss (ss (ss (ss (ss (se (sn))))))) (wn rfl) rfl (y_extract rfl rfl) ?_
   refine any_y 6 rfl (by kernel_rfl) (by kernel_rfl) (by kernel_rfl) (ss (ss (ss (ss (ss (se (sn))))))) (wn rfl) rfl (y_extract rfl rfl) ?_
   refine any_all [7] (by kernel_rfl) rfl (anyo_cons ?_ anyo_nil)
   refine anyo_slc 6 rfl reads_row (fun hs17 hs17o => ?_)
   refine anyo_slc 7 rfl reads_ro (fun hs18 hs18o => ?_)
   refine anyo_slc 8 rfl reads_ro (fun hs19 hs19o => ?_)
   refine any_t rfl (wn rfl) rfl (t_store 5 Try.sizeOf71 rfl rfl rfl rfl (by simp [Value.cells, boxP]) (allL_cons hs17o (allL_cons hs18o (allL_cons hs19o (allL_nil))))) ?_
   rintro _ _ ⟨rfl, rfl⟩
   refine ⟨(ss (ss (ss (ss (ss (se (sn))))))), ?_⟩
   refine any_turn (retell 5 (g := box b3 [v14, v15, v16]) rfl rfl) ?_
   refine any_y 8 rfl (by kernel_rfl) (by kernel_rfl) (by kernel_rfl) (ss (ss (ss (ss (ss (se (sn))))))) (wn rfl) rfl (y_assign rfl) ?_
   refine any_nil (by kernel_rfl) ?_
   refine goes_code ?_
   refine run_ret ?_
   refine fin_turn (Go.Abs.freeze 6 rfl) ?_
   obtain rfl := some_eq h
   obtain rfl := after_stop ho6
   refine fin_res [.cell 4 71, .tmp 5] [.agg #[v14, v15, v16], .bool r12.2] [6, 7, 8] [ro v14 1 (r12.1.stack_.map (eInt .i64)), ro v15 1 (r12.1.slots_.map (eInt .i64)), ro v16 1 (r12.1.loops_.map (eInt .i64))] Try.results55 rfl (rescons (res_box 5 Try.isAgg71 Try.sizeOf71 rfl rfl rfl) (rescons (res_tmp rfl) resnil)) (by decide) rfl ?_
   exact ⟨_, _, _, rfl, rfl⟩
  ·replace h := cond_f h hc9
   refine run_seq ?_
   refine run_weak [(2, boxP b1 0), (3, boxP b2 0), (4, boxP b3 0), (6, .int .i64 2)] [0, 1, 2, 3, 4, 5] [ro t_0_stack_v 1 (t_0.stack_.map (eInt .i64)), ro t_0_slots_v 1 (t_0.slots_.map (eInt .i64)), ro t_0_loops_v 1 (t_0.loops_.map (eInt .i64)), box b1 [t_0_stack_v, t_0_slots_v, t_0_loops_v], box b2 [.int .i64 x_1.Op, .int .i64 x_1.A, .string (bs x_1.S)], box b3 [.slice none 0 0, .slice none 0 0, .slice none 0 0]] (qv4 rfl rfl rfl rfl) (by decide) rfl ?_
   refine run_region' ?_
   refine oy rfl rfl (y_fieldAddr_box (sz := 0) Try.runUnderlying55 rfl Try.sizeOf3 rfl) ?_
   refine oy rfl rfl (y_load_box 4 Try.isAgg3 rfl rfl rfl) ?_
   refine oy rfl rfl (y_eql rfl rfl) ?_
   refine oy rfl rfl (y_move rfl) ?_
   refine ops_cut 4 (Bool) (fun σ => [(2, boxP b1 0), (3, boxP b2 0), (4, boxP b3 0), (6, .int .i64 2), (28, .bool σ)]) (fun σ => [ro t_0_stack_v 1 (t_0.stack_.map (eInt .i64)), ro t_0_slots_v 1 (t_0.slots_.map (eInt .i64)), ro t_0_loops_v 1 (t_0.loops_.map (eInt .i64)), box b1 [t_0_stack_v, t_0_slots_v, t_0_loops_v], box b2 [.int .i64 x_1.Op, .int .i64 x_1.A, .string (bs x_1.S)], box b3 [.slice none 0 0, .slice none 0 0, .slice none 0 0]]) (fun σ => σ = (decide (x_1.Op = 8) || decide (x_1.Op = 9))) (fun L20 hL21 => ?_) ?_
   ·refine ops_split 24 (decide (x_1.Op = 8)) rfl (fun hg22 => ?_) (fun hg22 => ?_)
    ·skip
     refine ops_no 3 false 24 rfl rfl rfl rfl rfl ?_
     refine ops_no 3 false 24 rfl rfl rfl rfl rfl ?_
     refine ops_no 3 false 24 rfl rfl rfl rfl rfl ?_
     refine oy rfl rfl (y_pick (b := true) rfl rfl) ?_
     refine ops_nil ?_
     exact goes_cut hL21 true [0, 1, 2, 3, 4, 5] (qv5 rfl rfl rfl rfl rfl) (by decide) rfl (by rw [hg22]; simp)
    ·skip
     refine ops_y (wg 3 false 24 rfl rfl rfl rfl) rfl (y_fieldAddr_box (sz := 0) Try.runUnderlying55 rfl Try.sizeOf3 rfl) ?_
     refine ops_y (wg 3 false 24 rfl rfl rfl rfl) rfl (y_load_box 4 Try.isAgg3 rfl rfl rfl) ?_
     refine ops_y (wg 3 false 24 rfl rfl rfl rfl) rfl (y_eql rfl rfl) ?_
     refine oy rfl rfl (y_pick (b := false) rfl rfl) ?_
     refine ops_nil ?_
     exact goes_cut hL21 (decide (x_1.Op = 9)) [0, 1, 2, 3, 4, 5] (qv5 rfl rfl rfl rfl rfl) (by decide) rfl (by rw [hg22]; simp)
   rintro _ rfl
   refine oy rfl rfl (y_assign rfl) ?_
   refine ops_nil ?_
   refine goes_code ?_
   refine run_cond (decide (x_1.Op = 8) || decide (x_1.Op = 9)) rfl (fun hc23 => ?_) (fun hc23 => ?_)
   ·replace h := cond_t h hc23
    refine run_region' ?_
    refine oy rfl rfl (y_assign rfl) ?_
    refine ops_nil ?_
    refine goes_blk ?_
    obtain rfl := some_eq h
    exact goes_cut hL7 (1, ()) [3, 0, 1, 2, 4, 5] (qv4 rfl rfl rfl rfl) (by decide) rfl rfl
   ·replace h := cond_f h hc23
    refine run_seq ?_
    refine run_region' ?_
    refine oy rfl rfl (y_fieldAddr_box (sz := 0) Try.runUnderlying55 rfl Try.sizeOf3 rfl) ?_
    refine oy rfl rfl (y_load_box 4 Try.isAgg3 rfl rfl rfl) ?_
    refine oy rfl rfl (y_eql rfl rfl) ?_
    refine oy rfl rfl (y_assign rfl) ?_
    refine ops_nil ?_
    refine goes_code ?_
    refine run_cond (decide (x_1.Op = 23)) rfl (fun hc24 => ?_) (fun hc24 => ?_)
    ·replace h := cond_t h hc24
     refine run_region' ?_
     refine oy rfl rfl (y_fieldAddr_box (sz := 0) Try.runUnderlying55 rfl Try.sizeOf3 rfl) ?_
     refine oy rfl rfl (y_load_box 4 Try.isAgg3 rfl rfl rfl) ?_
     refine oy rfl rfl (y_assign rfl) ?_
     refine ops_nil ?_
     refine goes_blk ?_
     obtain rfl := some_eq h
     exact goes_cut hL7 (x_1.A, ()) [3, 0, 1, 2, 4, 5] (qv4 rfl rfl rfl rfl) (by decide) rfl rfl
    ·replace h := cond_f h hc24
     refine run_skip ?_
     refine goes_blk ?_
     obtain rfl := some_eq h
     exact goes_cut hL7 (2, ()) [3, 0, 1, 2, 4, 5] (qv4 rfl rfl rfl rfl) (by decide) rfl rfl
 rintro ⟨n_4, _⟩ hj
 obtain rfl : o5 = _ := hj
 replace h := after_go ho6
 clear ho6
 change Run _ _ _ (VF.of [(6, .int .i64 n_4), (2, boxP b1 0), (3, boxP b2 0), (4, boxP b3 0)]) [box b1 [t_0_stack_v, t_0_slots_v, t_0_loops_v], ro t_0_stack_v 1 (t_0.stack_.map (eInt .i64)), ro t_0_slots_v 1 (t_0.slots_.map (eInt .i64)), ro t_0_loops_v 1 (t_0.loops_.map (eInt .i64)), box b2 [.int .i64 x_1.Op, .int .i64 x_1.A, .string (bs x_1.S)], box b3 [.slice none 0 0, .slice none 0 0, .slice none 0 0]]
 refine run_seq ?_
 refine run_region' ?_
 refine oy rfl rfl (y_fieldAddr_box (sz := 0) Try.runUnderlying71 rfl Try.sizeOf22 rfl) ?_
 refine oy rfl rfl (y_load_box 0 Try.isAgg22 rfl rfl rfl) ?_
 refine oy rfl rfl ((y_len 1 rfl Try.runUnderlying22 rfl rfl reads_ro).to (v_len (eInt .i64) _)) ?_
 refine oy rfl rfl (y_move rfl) ?_
 refine oy rfl rfl (y_sub rfl rfl) ?_
 refine oy rfl rfl (y_assign rfl) ?_
 refine ops_nil ?_
 refine goes_code ?_
 refine run_seq ?_
 refine run_seq ?_
 refine run_region' ?_
 refine oy rfl rfl (y_move rfl) ?_
 refine oy rfl rfl (y_lss rfl rfl) ?_
 refine oy rfl rfl (y_move rfl) ?_
 refine ops_cut 8 (Bool) (fun σ => [(2, boxP b1 0), (3, boxP b2 0), (4, boxP b3 0), (7, .int .i64 (IntKind.i64.wrap ((t_0.stack_.length : Int) - n_4))), (50, .bool σ)]) (fun σ => [box b1 [t_0_stack_v, t_0_slots_v, t_0_loops_v], ro t_0_stack_v 1 (t_0.stack_.map (eInt .i64)), ro t_0_slots_v 1 (t_0.slots_.map (eInt .i64)), ro t_0_loops_v 1 (t_0.loops_.map (eInt .i64)), box b2 [.int .i64 x_1.Op, .int .i64 x_1.A, .string (bs x_1.S)], box b3 [.slice none 0 0, .slice none 0 0, .slice none 0 0]]) (fun σ => σ = (decide (n_4 < 1) || (decide (x_1.Op = 23) && decide (n_4 < 2)))) (fun L25 hL26 => ?_) ?_
 ·refine ops_split 42 (decide (n_4 < 1)) rfl (fun hg27 => ?_) (fun hg27 => ?_)
  ·skip
   refine ops_no 2 false 42 rfl rfl rfl rfl rfl ?_
   refine ops_no 2 false 42 rfl rfl rfl rfl rfl ?_
   refine ops_no 2 false 42 rfl rfl rfl rfl rfl ?_
   refine ops_no 2 false 42 rfl rfl rfl rfl rfl ?_
   refine ops_un 6 true 46 rfl rfl rfl rfl rfl ?_
   refine ops_un 6 true 46 rfl rfl rfl rfl rfl ?_
   refine ops_weak [(2, boxP b1 0), (3, boxP b2 0), (4, boxP b3 0), (7, .int .i64 (IntKind.i64.wrap ((t_0.stack_.length : Int) - n_4))), (42, .bool true), (46, undef), (48, undef)] [0, 1, 2, 3, 4, 5] [box b1 [t_0_stack_v, t_0_slots_v, t_0_loops_v], ro t_0_stack_v 1 (t_0.stack_.map (eInt .i64)), ro t_0_slots_v 1 (t_0.slots_.map (eInt .i64)), ro t_0_loops_v 1 (t_0.loops_.map (eInt .i64)), box b2 [.int .i64 x_1.Op, .int .i64 x_1.A, .string (bs x_1.S)], box b3 [.slice none 0 0, .slice none 0 0, .slice none 0 0]] (qv7 rfl rfl rfl rfl rfl rfl rfl) (by decide) rfl ?_
   refine ops_no 2 false 42 rfl rfl rfl rfl rfl ?_
   refine oy rfl rfl (y_pick (b := true) rfl rfl) ?_
   refine ops_nil ?_
   exact goes_cut hL26 true [0, 1, 2, 3, 4, 5] (qv5 rfl rfl rfl rfl rfl) (by decide) rfl (by rw [hg27]; simp)
  ·skip
   refine ops_y (wg 2 false 42 rfl rfl rfl rfl) rfl (y_fieldAddr_box (sz := 0) Try.runUnderlying55 rfl Try.sizeOf3 rfl) ?_
   refine ops_y (wg 2 false 42 rfl rfl rfl rfl) rfl (y_load_box 4 Try.isAgg3 rfl rfl rfl) ?_
   refine ops_y (wg 2 false 42 rfl rfl rfl rfl) rfl (y_eql rfl rfl) ?_
   refine ops_y (wg 2 false 42 rfl rfl rfl rfl) rfl (y_move rfl) ?_
   refine ops_cut 3 (Bool) (fun σ => [(2, boxP b1 0), (3, boxP b2 0), (4, boxP b3 0), (7, .int .i64 (IntKind.i64.wrap ((t_0.stack_.length : Int) - n_4))), (42, .bool false), (49, .bool σ)]) (fun σ => [box b1 [t_0_stack_v, t_0_slots_v, t_0_loops_v], ro t_0_stack_v 1 (t_0.stack_.map (eInt .i64)), ro t_0_slots_v 1 (t_0.slots_.map (eInt .i64)), ro t_0_loops_v 1 (t_0.loops_.map (eInt .i64)), box b2 [.int .i64 x_1.Op, .int .i64 x_1.A, .string (bs x_1.S)], box b3 [.slice none 0 0, .slice none 0 0, .slice none 0 0]]) (fun σ => σ = (decide (x_1.Op = 23) && decide (n_4 < 2))) (fun L28 hL29 => ?_) ?_
   ·refine ops_split 46 (decide (x_1.Op = 23)) rfl (fun hg30 => ?_) (fun hg30 => ?_)
    ·skip
     refine ops_y (wg 6 true 46 rfl rfl rfl rfl) rfl (y_move rfl) ?_
     refine ops_weak [(2, boxP b1 0), (3, boxP b2 0), (4, boxP b3 0), (7, .int .i64 (IntKind.i64.wrap ((t_0.stack_.length : Int) - n_4))), (42, .bool false), (46, .bool true), (47, .int .i64 n_4)] [0, 1, 2, 3, 4, 5] [box b1 [t_0_stack_v, t_0_slots_v, t_0_loops_v], ro t_0_stack_v 1 (t_0.stack_.map (eInt .i64)), ro t_0_slots_v 1 (t_0.slots_.map (eInt .i64)), ro t_0_loops_v 1 (t_0.loops_.map (eInt .i64)), box b2 [.int .i64 x_1.Op, .int .i64 x_1.A, .string (bs x_1.S)], box b3 [.slice none 0 0, .slice none 0 0, .slice none 0 0]] (qv7 rfl rfl rfl rfl rfl rfl rfl) (by decide) rfl ?_
     refine ops_y (wg 6 true 46 rfl rfl rfl rfl) rfl (y_lss rfl rfl) ?_
     refine ops_y (wg 2 false 42 rfl rfl rfl rfl) rfl (y_pick (b := true) rfl rfl) ?_
     refine ops_nil ?_
     exact goes_cut hL29 (decide (n_4 < 2)) [0, 1, 2, 3, 4, 5] (qv6 rfl rfl rfl rfl rfl rfl) (by decide) rfl (by rw [hg30]; simp)
    ·skip
     refine ops_no 6 true 46 rfl rfl rfl rfl rfl ?_
     refine ops_weak [(2, boxP b1 0), (3, boxP b2 0), (4, boxP b3 0), (7, .int .i64 (IntKind.i64.wrap ((t_0.stack_.length : Int) - n_4))), (42, .bool false), (46, .bool false), (47, undef)] [0, 1, 2, 3, 4, 5] [box b1 [t_0_stack_v, t_0_slots_v, t_0_loops_v], ro t_0_stack_v 1 (t_0.stack_.map (eInt .i64)), ro t_0_slots_v 1 (t_0.slots_.map (eInt .i64)), ro t_0_loops_v 1 (t_0.loops_.map (eInt .i64)), box b2 [.int .i64 x_1.Op, .int .i64 x_1.A, .string (bs x_1.S)], box b3 [.slice none 0 0, .slice none 0 0, .slice none 0 0]] (qv7 rfl rfl rfl rfl rfl rfl rfl) (by decide) rfl ?_
     refine ops_no 6 true 46 rfl rfl rfl rfl rfl ?_
     refine ops_y (wg 2 false 42 rfl rfl rfl rfl) rfl (y_pick (b := false) rfl rfl) ?_
     refine ops_nil ?_
     exact goes_cut hL29 false [0, 1, 2, 3, 4, 5] (qv6 rfl rfl rfl rfl rfl rfl) (by decide) rfl (by rw [hg30]; simp)
   rintro _ rfl
   refine oy rfl rfl (y_pick (b := false) rfl rfl) ?_
   refine ops_nil ?_
   exact goes_cut hL26 (decide (x_1.Op = 23) && decide (n_4 < 2)) [0, 1, 2, 3, 4, 5] (qv5 rfl rfl rfl rfl rfl) (by decide) rfl (by rw [hg27]; simp)
 rintro _ rfl
 refine oy rfl rfl (y_move rfl) ?_
 refine ops_cut 9 (Bool) (fun σ => [(2, boxP b1 0), (3, boxP b2 0), (4, boxP b3 0), (7, .int .i64 (IntKind.i64.wrap ((t_0.stack_.length : Int) - n_4))), (60, .bool σ)]) (fun σ => [box b1 [t_0_stack_v, t_0_slots_v, t_0_loops_v], ro t_0_stack_v 1 (t_0.stack_.map (eInt .i64)), ro t_0_slots_v 1 (t_0.slots_.map (eInt .i64)), ro t_0_loops_v 1 (t_0.loops_.map (eInt .i64)), box b2 [.int .i64 x_1.Op, .int .i64 x_1.A, .string (bs x_1.S)], box b3 [.slice none 0 0, .slice none 0 0, .slice none 0 0]]) (fun σ => σ = ((decide (n_4 < 1) || (decide (x_1.Op = 23) && decide (n_4 < 2))) || (decide (x_1.Op ≠ 23) && decide (x_1.A ≠ 0)))) (fun L31 hL32 => ?_) ?_
 ·refine ops_split 51 (decide (n_4 < 1) || (decide (x_1.Op = 23) && decide (n_4 < 2))) rfl (fun hg33 => ?_) (fun hg33 => ?_)
  ·skip
   refine ops_no 11 false 51 rfl rfl rfl rfl rfl ?_
   refine ops_no 11 false 51 rfl rfl rfl rfl rfl ?_
   refine ops_no 11 false 51 rfl rfl rfl rfl rfl ?_
   refine ops_no 11 false 51 rfl rfl rfl rfl rfl ?_
   refine ops_un 15 true 55 rfl rfl rfl rfl rfl ?_
   refine ops_un 15 true 55 rfl rfl rfl rfl rfl ?_
   refine ops_un 15 true 55 rfl rfl rfl rfl rfl ?_
   refine ops_no 11 false 51 rfl rfl rfl rfl rfl ?_
   refine oy rfl rfl (y_pick (b := true) rfl rfl) ?_
   refine ops_nil ?_
   exact goes_cut hL32 true [0, 1, 2, 3, 4, 5] (qv5 rfl rfl rfl rfl rfl) (by decide) rfl (by rw [hg33]; simp)
  ·skip
   refine ops_y (wg 11 false 51 rfl rfl rfl rfl) rfl (y_fieldAddr_box (sz := 0) Try.runUnderlying55 rfl Try.sizeOf3 rfl) ?_
   refine ops_y (wg 11 false 51 rfl rfl rfl rfl) rfl (y_load_box 4 Try.isAgg3 rfl rfl rfl) ?_
   refine ops_y (wg 11 false 51 rfl rfl rfl rfl) rfl (y_neq rfl rfl) ?_
   refine ops_y (wg 11 false 51 rfl rfl rfl rfl) rfl (y_move rfl) ?_
   refine ops_cut 4 (Bool) (fun σ => [(2, boxP b1 0), (3, boxP b2 0), (4, boxP b3 0), (7, .int .i64 (IntKind.i64.wrap ((t_0.stack_.length : Int) - n_4))), (51, .bool false), (59, .bool σ)]) (fun σ => [box b1 [t_0_stack_v, t_0_slots_v, t_0_loops_v], ro t_0_stack_v 1 (t_0.stack_.map (eInt .i64)), ro t_0_slots_v 1 (t_0.slots_.map (eInt .i64)), ro t_0_loops_v 1 (t_0.loops_.map (eInt .i64)), box b2 [.int .i64 x_1.Op, .int .i64 x_1.A, .string (bs x_1.S)], box b3 [.slice none 0 0, .slice none 0 0, .slice none 0 0]]) (fun σ => σ = (decide (x_1.Op ≠ 23) && decide (x_1.A ≠ 0))) (fun L34 hL35 => ?_) ?_
   ·refine ops_split 55 (decide (x_1.Op ≠ 23)) rfl (fun hg36 => ?_) (fun hg36 => ?_)
    ·skip
     refine ops_y (wg 15 true 55 rfl rfl rfl rfl) rfl (y_fieldAddr_box (sz := 0) Try.runUnderlying55 rfl Try.sizeOf3 rfl) ?_
     refine ops_y (wg 15 true 55 rfl rfl rfl rfl) rfl (y_load_box 4 Try.isAgg3 rfl rfl rfl) ?_
     refine ops_y (wg 15 true 55 rfl rfl rfl rfl) rfl (y_neq rfl rfl) ?_
     refine ops_y (wg 11 false 51 rfl rfl rfl rfl) rfl (y_pick (b := true) rfl rfl) ?_
     refine ops_nil ?_
     exact goes_cut hL35 (decide (x_1.A ≠ 0)) [0, 1, 2, 3, 4, 5] (qv6 rfl rfl rfl rfl rfl rfl) (by decide) rfl (by rw [hg36]; simp)
    ·skip
     refine ops_no 15 true 55 rfl rfl rfl rfl rfl ?_
     refine ops_no 15 true 55 rfl rfl rfl rfl rfl ?_
     refine ops_no 15 true 55 rfl rfl rfl rfl rfl ?_
     refine ops_y (wg 11 false 51 rfl rfl rfl rfl) rfl (y_pick (b := false) rfl rfl) ?_
     refine ops_nil ?_
     exact goes_cut hL35 false [0, 1, 2, 3, 4, 5] (qv6 rfl rfl rfl rfl rfl rfl) (by decide) rfl (by rw [hg36]; simp)
   rintro _ rfl
   refine oy rfl rfl (y_pick (b := false) rfl rfl) ?_
   refine ops_nil ?_
   exact goes_cut hL32 (decide (x_1.Op ≠ 23) && decide (x_1.A ≠ 0)) [0, 1, 2, 3, 4, 5] (qv5 rfl rfl rfl rfl rfl) (by decide) rfl (by rw [hg33]; simp)
 rintro _ rfl
 refine oy rfl rfl (y_move rfl) ?_
 refine ops_cut 4 (Bool) (fun σ => [(2, boxP b1 0), (3, boxP b2 0), (4, boxP b3 0), (7, .int .i64 (IntKind.i64.wrap ((t_0.stack_.length : Int) - n_4))), (65, .bool σ)]) (fun σ => [box b1 [t_0_stack_v, t_0_slots_v, t_0_loops_v], ro t_0_stack_v 1 (t_0.stack_.map (eInt .i64)), ro t_0_slots_v 1 (t_0.slots_.map (eInt .i64)), ro t_0_loops_v 1 (t_0.loops_.map (eInt .i64)), box b2 [.int .i64 x_1.Op, .int .i64 x_1.A, .string (bs x_1.S)], box b3 [.slice none 0 0, .slice none 0 0, .slice none 0 0]]) (fun σ => σ = (((decide (n_4 < 1) || (decide (x_1.Op = 23) && decide (n_4 < 2))) || (decide (x_1.Op ≠ 23) && decide (x_1.A ≠ 0))) || (!decide (x_1.S = [])))) (fun L37 hL38 => ?_) ?_
 ·refine ops_split 61 ((decide (n_4 < 1) || (decide (x_1.Op = 23) && decide (n_4 < 2))) || (decide (x_1.Op ≠ 23) && decide (x_1.A ≠ 0))) rfl (fun hg39 => ?_) (fun hg39 => ?_)
  ·skip
   refine ops_no 21 false 61 rfl rfl rfl rfl rfl ?_
   refine ops_no 21 false 61 rfl rfl rfl rfl rfl ?_
   refine ops_no 21 false 61 rfl rfl rfl rfl rfl ?_
   refine oy rfl rfl (y_pick (b := true) rfl rfl) ?_
   refine ops_nil ?_
   exact goes_cut hL38 true [0, 1, 2, 3, 4, 5] (qv5 rfl rfl rfl rfl rfl) (by decide) rfl (by rw [hg39]; simp)
  ·skip
   refine ops_y (wg 21 false 61 rfl rfl rfl rfl) rfl (y_fieldAddr_box (sz := 0) Try.runUnderlying55 rfl Try.sizeOf9 rfl) ?_
   refine ops_y (wg 21 false 61 rfl rfl rfl rfl) rfl (y_load_box 4 Try.isAgg9 rfl rfl rfl) ?_
   refine ops_y (wg 21 false 61 rfl rfl rfl rfl) rfl (y_sneq rfl rfl) ?_
   refine oy rfl rfl (y_pick (b := false) rfl rfl) ?_
   refine ops_nil ?_
   exact goes_cut hL38 (!decide (x_1.S = [])) [0, 1, 2, 3, 4, 5] (qv5 rfl rfl rfl rfl rfl) (by decide) rfl (by rw [hg39]; simp)
 rintro _ rfl
 refine oy rfl rfl (y_move rfl) ?_
 refine ops_cut 3 (Bool) (fun σ => [(2, boxP b1 0), (3, boxP b2 0), (4, boxP b3 0), (7, .int .i64 (IntKind.i64.wrap ((t_0.stack_.length : Int) - n_4))), (69, .bool σ)]) (fun σ => [box b1 [t_0_stack_v, t_0_slots_v, t_0_loops_v], ro t_0_stack_v 1 (t_0.stack_.map (eInt .i64)), ro t_0_slots_v 1 (t_0.slots_.map (eInt .i64)), ro t_0_loops_v 1 (t_0.loops_.map (eInt .i64)), box b2 [.int .i64 x_1.Op, .int .i64 x_1.A, .string (bs x_1.S)], box b3 [.slice none 0 0, .slice none 0 0, .slice none 0 0]]) (fun σ => σ = ((((decide (n_4 < 1) || (decide (x_1.Op = 23) && decide (n_4 < 2))) || (decide (x_1.Op ≠ 23) && decide (x_1.A ≠ 0))) || (!decide (x_1.S = []))) || decide ((IntKind.i64.wrap ((t_0.stack_.length : Int) - n_4)) < 0))) (fun L40 hL41 => ?_) ?_
 ·refine ops_split 66 (((decide (n_4 < 1) || (decide (x_1.Op = 23) && decide (n_4 < 2))) || (decide (x_1.Op ≠ 23) && decide (x_1.A ≠ 0))) || (!decide (x_1.S = []))) rfl (fun hg42 => ?_) (fun hg42 => ?_)
  ·skip
   refine ops_no 26 false 66 rfl rfl rfl rfl rfl ?_
   refine ops_no 26 false 66 rfl rfl rfl rfl rfl ?_
   refine oy rfl rfl (y_pick (b := true) rfl rfl) ?_
   refine ops_nil ?_
   exact goes_cut hL41 true [0, 1, 2, 3, 4, 5] (qv5 rfl rfl rfl rfl rfl) (by decide) rfl (by rw [hg42]; simp)
  ·skip
   refine ops_y (wg 26 false 66 rfl rfl rfl rfl) rfl (y_move rfl) ?_
   refine ops_y (wg 26 false 66 rfl rfl rfl rfl) rfl (y_lss rfl rfl) ?_
   refine oy rfl rfl (y_pick (b := false) rfl rfl) ?_
   refine ops_nil ?_
   exact goes_cut hL41 (decide ((IntKind.i64.wrap ((t_0.stack_.length : Int) - n_4)) < 0)) [0, 1, 2, 3, 4, 5] (qv5 rfl rfl rfl rfl rfl) (by decide) rfl (by rw [hg42]; simp)
 rintro _ rfl
 refine ops_nil ?_
 refine goes_code ?_
 refine run_cond ((((decide (n_4 < 1) || (decide (x_1.Op = 23) && decide (n_4 < 2))) || (decide (x_1.Op ≠ 23) && decide (x_1.A ≠ 0))) || (!decide (x_1.S = []))) || decide ((IntKind.i64.wrap ((t_0.stack_.length : Int) - n_4)) < 0)) rfl (fun hc43 => ?_) (fun hc43 => ?_)
 ·replace h := cond_t h hc43
  refine run_seq ?_
  refine run_region' ?_
  refine oy rfl rfl (y_load_boxagg (c := [t_0_stack_v, t_0_slots_v, t_0_loops_v]) 0 Try.isAgg71 Try.sizeOf71 rfl rfl rfl) ?_
  refine ops_slc 1 rfl reads_ro (fun hs44 hs44o => ?_)
  refine ops_slc 2 rfl reads_ro (fun hs45 hs45o => ?_)
  refine ops_slc 3 rfl reads_ro (fun hs46 hs46o => ?_)
  refine ot rfl rfl (t_store 5 Try.sizeOf71 rfl rfl rfl rfl (by simp [Value.cells, boxP]) (allL_cons hs44o (allL_cons hs45o (allL_cons hs46o (allL_nil))))) ?_
  rintro _ _ ⟨rfl, rfl⟩
  refine ops_turn (retell 5 (g := box b3 [t_0_stack_v, t_0_slots_v, t_0_loops_v]) rfl rfl) ?_
  refine oy rfl rfl (y_assign rfl) ?_
  refine ops_nil ?_
  refine goes_code ?_
  refine run_ret ?_
  obtain rfl := some_eq h
  refine fin_res [.cell 4 71, .tmp 5] [.agg #[t_0_stack_v, t_0_slots_v, t_0_loops_v], .bool false] [1, 2, 3] [ro t_0_stack_v 1 (t_0.stack_.map (eInt .i64)), ro t_0_slots_v 1 (t_0.slots_.map (eInt .i64)), ro t_0_loops_v 1 (t_0.loops_.map (eInt .i64))] Try.results55 rfl (rescons (res_box 5 Try.isAgg71 Try.sizeOf71 rfl rfl rfl) (rescons (res_tmp rfl) resnil)) (by decide) rfl ?_
  exact ⟨_, _, _, rfl, rfl⟩
 ·replace h := cond_f h hc43
  refine run_skip ?_
  refine goes_code ?_
  refine run_seq ?_
  refine run_region' ?_
  refine oy rfl rfl (y_fieldAddr_box (sz := 0) Try.runUnderlying71 rfl Try.sizeOf22 rfl) ?_
  refine oy rfl rfl (y_load_box 0 Try.isAgg22 rfl rfl rfl) ?_
  refine oy rfl rfl (y_move rfl) ?_
  obtain ⟨x47, hzx47, hlx47, hxx47, h⟩ := idx_some h
  refine oy rfl rfl (y_indexAddrI (kd := .i64) (i := (IntKind.i64.wrap ((t_0.stack_.length : Int) - n_4))) 1 Try.runUnderlying22 Try.sizeOf3 rfl rfl rfl reads_ro hzx47 (map_lt hlx47)) ?_
  refine oy rfl rfl (y_load_elem (i := ((IntKind.i64.wrap ((t_0.stack_.length : Int) - n_4))).toNat) 1 Try.isAgg3 rfl rfl reads_ro (map_get hxx47)) ?_
  refine ot rfl rfl (t_alloc Try.zeroValue3) ?_
  rintro _ _ ⟨b48, rfl, rfl⟩
  refine ot rfl rfl (t_store 6 Try.sizeOf3 rfl rfl rfl rfl (by simp [Value.cells, boxP]) (by simp [Value.cells, Value.oneCell', boxP])) ?_
  rintro _ _ ⟨rfl, rfl⟩
  refine ops_turn (retell 6 (g := box b48 [.int .i64 x47]) rfl rfl) ?_
  refine ops_nil ?_
  refine goes_code ?_
  refine run_seq ?_
  refine run_seq ?_
  refine run_region' ?_
  refine oy rfl rfl (y_fieldAddr_box (sz := 0) Try.runUnderlying71 rfl Try.sizeOf22 rfl) ?_
  refine oy rfl rfl (y_load_box 0 Try.isAgg22 rfl rfl rfl) ?_
  refine oy rfl rfl (y_move rfl) ?_
  obtain ⟨hb49, h⟩ := need_some h
  refine oy rfl rfl (y_slice (l := (IntKind.i64.wrap ((t_0.stack_.length : Int) - n_4))) (r := (t_0.stack_.length : Int)) 1 Try.runUnderlying22 Try.sizeOf3 rfl rfl reads_ro (bi1 (kd := .i64) rfl) bi0m hb49.1 hb49.2.1 (map_len_le hb49.2.2)) ?_
  refine ops_turn (turn_sub (l := ((IntKind.i64.wrap ((t_0.stack_.length : Int) - n_4))).toNat) (r := ((t_0.stack_.length : Int)).toNat) 1 rfl (by first | omega | exact Int.toNat_le_toNat hb49.2.1) (map_toNat_le hb49.2.2)) ?_
  refine ops_turn (retell 7 (g := ro (subS t_0_stack_v 1 (((IntKind.i64.wrap ((t_0.stack_.length : Int) - n_4))).toNat) (((t_0.stack_.length : Int)).toNat)) 1 ((t_0.stack_.drop (((IntKind.i64.wrap ((t_0.stack_.length : Int) - n_4))).toNat)).map (eInt .i64))) rfl (congrArg (ro _ _) (sub_lo _ _ _))) ?_
  refine oy rfl rfl (y_makeFunc (vs := [boxP b48 0]) rfl) ?_
  obtain ⟨r50, hr51, h⟩ := obind_some h
  refine ot rfl rfl (t_callx (vs := [(subS t_0_stack_v 1 (((IntKind.i64.wrap ((t_0.stack_.length : Int) - n_4))).toNat) (((t_0.stack_.length : Int)).toNat)), .func (.func 68) #[] #[boxP b48 0]]) (cs := []) [(7, 0), (6, 2)] rfl Try.call67 rfl (slices_ContainsFunc_int_int_67_ok n  (t_0.stack_.drop (((IntKind.i64.wrap ((t_0.stack_.length : Int) - n_4))).toNat)) x47 (subS t_0_stack_v 1 (((IntKind.i64.wrap ((t_0.stack_.length : Int) - n_4))).toNat) (((t_0.stack_.length : Int)).toNat)) b48 hr51) (showsX_view 7 rfl views_ro (showsX_lend 6 rfl showsX_nil)) rfl (.inl rfl)) ?_
  rintro _ _ ⟨_, ⟨rfl, rfl⟩, rfl⟩
  refine ops_nil ?_
  refine goes_code ?_
  refine run_cond r50 rfl (fun hc52 => ?_) (fun hc52 => ?_)
  ·replace h := cond_t h hc52
   refine run_seq ?_
   refine run_weak [(2, boxP b1 0), (4, boxP b3 0)] [0, 1, 2, 3, 5] [box b1 [t_0_stack_v, t_0_slots_v, t_0_loops_v], ro t_0_stack_v 1 (t_0.stack_.map (eInt .i64)), ro t_0_slots_v 1 (t_0.slots_.map (eInt .i64)), ro t_0_loops_v 1 (t_0.loops_.map (eInt .i64)), box b3 [.slice none 0 0, .slice none 0 0, .slice none 0 0]] (qv2 rfl rfl) (by decide) rfl ?_
   refine run_region' ?_
   refine oy rfl rfl (y_load_boxagg (c := [t_0_stack_v, t_0_slots_v, t_0_loops_v]) 0 Try.isAgg71 Try.sizeOf71 rfl rfl rfl) ?_
   refine ops_slc 1 rfl reads_ro (fun hs53 hs53o => ?_)
   refine ops_slc 2 rfl reads_ro (fun hs54 hs54o => ?_)
   refine ops_slc 3 rfl reads_ro (fun hs55 hs55o => ?_)
   refine ot rfl rfl (t_store 4 Try.sizeOf71 rfl rfl rfl rfl (by simp [Value.cells, boxP]) (allL_cons hs53o (allL_cons hs54o (allL_cons hs55o (allL_nil))))) ?_
   rintro _ _ ⟨rfl, rfl⟩
   refine ops_turn (retell 4 (g := box b3 [t_0_stack_v, t_0_slots_v, t_0_loops_v]) rfl rfl) ?_
   refine oy rfl rfl (y_assign rfl) ?_
   refine ops_nil ?_
   refine goes_code ?_
   refine run_ret ?_
   obtain rfl := some_eq h
   refine fin_res [.cell 4 71, .tmp 5] [.agg #[t_0_stack_v, t_0_slots_v, t_0_loops_v], .bool false] [1, 2, 3] [ro t_0_stack_v 1 (t_0.stack_.map (eInt .i64)), ro t_0_slots_v 1 (t_0.slots_.map (eInt .i64)), ro t_0_loops_v 1 (t_0.loops_.map (eInt .i64))] Try.results55 rfl (rescons (res_box 4 Try.isAgg71 Try.sizeOf71 rfl rfl rfl) (rescons (res_tmp rfl) resnil)) (by decide) rfl ?_
   exact ⟨_, _, _, rfl, rfl⟩
  ·replace h := cond_f h hc52
   refine run_skip ?_
   refine goes_code ?_
   refine run_seq ?_
   refine run_weak [(2, boxP b1 0), (3, boxP b2 0), (4, boxP b3 0), (7, .int .i64 (IntKind.i64.wrap ((t_0.stack_.length : Int) - n_4))), (8, boxP b48 0)] [0, 1, 2, 3, 4, 5, 8] [box b1 [t_0_stack_v, t_0_slots_v, t_0_loops_v], ro t_0_stack_v 1 (t_0.stack_.map (eInt .i64)), ro t_0_slots_v 1 (t_0.slots_.map (eInt .i64)), ro t_0_loops_v 1 (t_0.loops_.map (eInt .i64)), box b2 [.int .i64 x_1.Op, .int .i64 x_1.A, .string (bs x_1.S)], box b3 [.slice none 0 0, .slice none 0 0, .slice none 0 0], box b48 [.int .i64 x47]] (qv5 rfl rfl rfl rfl rfl) (by decide) rfl ?_
   refine run_region' ?_
   refine oy rfl rfl (y_fieldAddr_box (sz := 0) Try.runUnderlying71 rfl Try.sizeOf22 rfl) ?_
   refine oy rfl rfl (y_load_box 0 Try.isAgg22 rfl rfl rfl) ?_
   refine oy rfl rfl (y_move rfl) ?_
   obtain ⟨hb56, h⟩ := need_some h
   refine oy rfl rfl (y_slice (l := 0) (r := (IntKind.i64.wrap ((t_0.stack_.length : Int) - n_4))) 1 Try.runUnderlying22 Try.sizeOf3 rfl rfl reads_ro bi0 (bi1 (kd := .i64) rfl) hb56.1 hb56.2.1 (map_len_le hb56.2.2)) ?_
   refine ops_turn (turn_sub (l := (0 : Int).toNat) (r := ((IntKind.i64.wrap ((t_0.stack_.length : Int) - n_4))).toNat) 1 rfl (by first | omega | exact Int.toNat_le_toNat hb56.2.1) (map_toNat_le hb56.2.2)) ?_
   refine ops_turn (retell 7 (g := ro (subS t_0_stack_v 1 ((0 : Int).toNat) (((IntKind.i64.wrap ((t_0.stack_.length : Int) - n_4))).toNat)) 1 ((t_0.stack_.take (((IntKind.i64.wrap ((t_0.stack_.length : Int) - n_4))).toNat)).map (eInt .i64))) rfl (congrArg (ro _ _) (sub_hi _ _ _))) ?_
   refine oy rfl rfl (y_fieldAddr_box (sz := 0) Try.runUnderlying71 rfl Try.sizeOf22 rfl) ?_
   refine ops_slc 7 rfl reads_ro (fun hs57 hs57o => ?_)
   refine ot rfl rfl (t_store 0 Try.sizeOf22 rfl rfl rfl (by rw [hs57]; rfl) (by simp [Value.cells, boxP]) (by rw [hs57]; exact allL_cons hs57o (allL_nil))) ?_
   rintro _ _ ⟨rfl, rfl⟩
   refine ops_turn (retell 0 (g := box b1 [(subS t_0_stack_v 1 ((0 : Int).toNat) (((IntKind.i64.wrap ((t_0.stack_.length : Int) - n_4))).toNat)), t_0_slots_v, t_0_loops_v]) rfl (by rw [hs57]; rfl)) ?_
   refine ops_nil ?_
   refine goes_code ?_
   refine run_seq ?_
   refine run_drawany [box b1 [(subS t_0_stack_v 1 ((0 : Int).toNat) (((IntKind.i64.wrap ((t_0.stack_.length : Int) - n_4))).toNat)), t_0_slots_v, t_0_loops_v], ro t_0_stack_v 1 (t_0.stack_.map (eInt .i64)), ro t_0_slots_v 1 (t_0.slots_.map (eInt .i64)), ro t_0_loops_v 1 (t_0.loops_.map (eInt .i64)), box b2 [.int .i64 x_1.Op, .int .i64 x_1.A, .string (bs x_1.S)], HA.emp, box b48 [.int .i64 x47], ro (subS t_0_stack_v 1 ((0 : Int).toNat) (((IntKind.i64.wrap ((t_0.stack_.length : Int) - n_4))).toNat)) 1 ((t_0.stack_.take (((IntKind.i64.wrap ((t_0.stack_.length : Int) - n_4))).toNat)).map (eInt .i64))] (by kernel_rfl) ?_
   refine any_y 0 rfl (by kernel_rfl) (by kernel_rfl) (by kernel_rfl) (ss (ss (ss (ss (ss (se (ss (ss (sn))))))))) (wn rfl) rfl (y_load_boxagg (c := [(subS t_0_stack_v 1 ((0 : Int).toNat) (((IntKind.i64.wrap ((t_0.stack_.length : Int) - n_4))).toNat)), t_0_slots_v, t_0_loops_v]) 0 Try.isAgg71 Try.sizeOf71 rfl rfl rfl) ?_
   refine any_y 1 rfl (by kernel_rfl) (by kernel_rfl) (by kernel_rfl) (ss (ss (ss (ss (ss (se (ss (ss (sn))))))))) (wn rfl) rfl (y_fieldAddr_box (sz := 0) Try.runUnderlying55 rfl Try.sizeOf3 rfl) ?_
   refine any_y 2 rfl (by kernel_rfl) (by kernel_rfl) (by kernel_rfl) (ss (ss (ss (ss (ss (se (ss (ss (sn))))))))) (wn rfl) rfl (y_load_box 4 Try.isAgg3 rfl rfl rfl) ?_
   refine any_y 3 rfl (by kernel_rfl) (by kernel_rfl) (by kernel_rfl) (ss (ss (ss (ss (ss (se (ss (ss (sn))))))))) (wn rfl) rfl (y_load_box 6 Try.isAgg3 rfl rfl rfl) ?_
   refine any_all [4] (by kernel_rfl) rfl (anyo_cons ?_ anyo_nil)
   obtain ⟨r58, hr59, h⟩ := obind_some h
   refine any_t rfl (wn rfl) rfl (t_callx (vs := [.int .i64 x_1.Op, .int .i64 x47]) (cs := []) [] rfl Try.call69 rfl (compile_value_ok  x_1.Op x47  hr59) showsX_nil rfl (.inl rfl)) ?_
   rintro _ _ ⟨_, ⟨rfl, rfl⟩, rfl⟩
   refine ⟨(ss (ss (ss (ss (ss (se (ss (ss (sn))))))))), ?_⟩
   refine any_all [5] (by kernel_rfl) rfl (anyo_cons ?_ anyo_nil)
   obtain ⟨r60, hr61, h⟩ := obind_some h
   refine any_t rfl (wn rfl) rfl (t_callx (vs := [.agg #[(subS t_0_stack_v 1 ((0 : Int).toNat) (((IntKind.i64.wrap ((t_0.stack_.length : Int) - n_4))).toNat)), t_0_slots_v, t_0_loops_v], .int .i64 r58]) (cs := []) [(7, 0), (2, 0), (3, 0)] rfl Try.call65 rfl (weirgate_compile_types_push_65_ok  (S_compile_types.mk (t_0.stack_.take (((IntKind.i64.wrap ((t_0.stack_.length : Int) - n_4))).toNat)) t_0.slots_ t_0.loops_) r58 (subS t_0_stack_v 1 ((0 : Int).toNat) (((IntKind.i64.wrap ((t_0.stack_.length : Int) - n_4))).toNat)) t_0_slots_v t_0_loops_v hr61) (showsX_view 7 rfl views_ro (showsX_view 2 rfl views_ro (showsX_view 3 rfl views_ro showsX_nil))) rfl (.inl rfl)) ?_
   rintro _ _ ⟨_, ⟨v62, v63, v64, rfl, rfl⟩, rfl⟩
   refine ⟨(ss (ss (ss (ss (ss (se (ss (ss (sn))))))))), ?_⟩
   refine any_y 6 rfl (by kernel_rfl) (by kernel_rfl) (by kernel_rfl) (ss (ss (ss (ss (ss (se (ss (ss (sn))))))))) (wn rfl) rfl (y_extract rfl rfl) ?_
   refine any_y 7 rfl (by kernel_rfl) (by kernel_rfl) (by kernel_rfl) (ss (ss (ss (ss (ss (se (ss (ss (sn))))))))) (wn rfl) rfl (y_extract rfl rfl) ?_
   refine any_all [8] (by kernel_rfl) rfl (anyo_cons ?_ anyo_nil)
   refine anyo_slc 8 rfl reads_row (fun hs65 hs65o => ?_)
   refine anyo_slc 9 rfl reads_ro (fun hs66 hs66o => ?_)
   refine anyo_slc 10 rfl reads_ro (fun hs67 hs67o => ?_)
   refine any_t rfl (wn rfl) rfl (t_store 5 Try.sizeOf71 rfl rfl rfl rfl (by simp [Value.cells, boxP]) (allL_cons hs65o (allL_cons hs66o (allL_cons hs67o (allL_nil))))) ?_
   rintro _ _ ⟨rfl, rfl⟩
   refine ⟨(ss (ss (ss (ss (ss (se (ss (ss (sn))))))))), ?_⟩
   refine any_turn (retell 5 (g := box b3 [v62, v63, v64]) rfl rfl) ?_
   refine any_y 9 rfl (by kernel_rfl) (by kernel_rfl) (by kernel_rfl) (ss (ss (ss (ss (ss (se (ss (ss (sn))))))))) (wn rfl) rfl (y_assign rfl) ?_
   refine any_nil (by kernel_rfl) ?_
   refine goes_code ?_
   refine run_ret ?_
   refine fin_turn (Go.Abs.freeze 8 rfl) ?_
   obtain rfl := some_eq h
   refine fin_res [.cell 4 71, .tmp 5] [.agg #[v62, v63, v64], .bool r60.2] [8, 9, 10] [ro v62 1 (r60.1.stack_.map (eInt .i64)), ro v63 1 (r60.1.slots_.map (eInt .i64)), ro v64 1 (r60.1.loops_.map (eInt .i64))] Try.results55 rfl (rescons (res_box 5 Try.isAgg71 Try.sizeOf71 rfl rfl rfl) (rescons (res_tmp rfl) resnil)) (by decide) rfl ?_
   exact ⟨_, _, _, rfl, rfl⟩

def weirgate_compile_types_pop_56 (t_0 : S_compile_types) (kind_1 : Int) : Option (S_compile_types × Bool) :=
 bindJ (S := Bool)
  (cond (decide ((IntKind.i64.wrap ((t_0.stack_.length : Int) - 1)) < 0))
   (some (.go true))
   (idx t_0.stack_ (IntKind.i64.wrap ((t_0.stack_.length : Int) - 1)) fun x9 =>
   some (.go (decide (x9 ≠ kind_1)))))
 (fun b3 =>
  cond b3
   (some (t_0, false))
   (need (0 ≤ (0 : Int) ∧ 0 ≤ (IntKind.i64.wrap ((t_0.stack_.length : Int) - 1)) ∧ (IntKind.i64.wrap ((t_0.stack_.length : Int) - 1)) ≤ (t_0.stack_.length : Int)) (
   some ((S_compile_types.mk (t_0.stack_.take (((IntKind.i64.wrap ((t_0.stack_.length : Int) - 1))).toNat)) t_0.slots_ t_0.loops_), true))))
theorem weirgate_compile_types_pop_56_ok (t_0 : S_compile_types) (kind_1 : Int) (t_0_stack_v : Value) (t_0_slots_v : Value) (t_0_loops_v : Value) {r : S_compile_types × Bool} (h : weirgate_compile_types_pop_56 t_0 kind_1 = some r) :
  Meets Try.prog 56 [.agg #[t_0_stack_v, t_0_slots_v, t_0_loops_v], .int .i64 kind_1] [ro t_0_stack_v 1 (t_0.stack_.map (eInt .i64)), ro t_0_slots_v 1 (t_0.slots_.map (eInt .i64)), ro t_0_loops_v 1 (t_0.loops_.map (eInt .i64))] (fun v G => ∃ v0 v1 v2, v = .tuple #[.agg #[v0, v1, v2], .bool r.2] ∧ G = [ro v0 1 (r.1.stack_.map (eInt .i64)), ro v1 1 (r.1.slots_.map (eInt .i64)), ro v2 1 (r.1.loops_.map (eInt .i64))]) := by
 refine fn_of_run Try.func56 rfl Try.ntmps56 rfl (fun w0 o0 => ?_)
 refine run_seq ?_
 refine run_region' ?_
 refine ot rfl rfl (t_box rfl) ?_
 rintro _ _ ⟨b1, rfl, rfl⟩
 refine ot rfl rfl (t_alloc Try.zeroValue71) ?_
 rintro _ _ ⟨b2, rfl, rfl⟩
 refine oy rfl rfl (y_assign rfl) ?_
 refine ops_nil ?_
 refine goes_code ?_
 refine run_seq ?_
 refine run_region' ?_
 refine oy rfl rfl (y_fieldAddr_box (sz := 0) Try.runUnderlying71 rfl Try.sizeOf22 rfl) ?_
 refine oy rfl rfl (y_load_box 3 Try.isAgg22 rfl rfl rfl) ?_
 refine oy rfl rfl ((y_len 0 rfl Try.runUnderlying22 rfl rfl reads_ro).to (v_len (eInt .i64) _)) ?_
 refine oy rfl rfl (y_sub rfl rfl) ?_
 refine oy rfl rfl (y_assign rfl) ?_
 refine ops_nil ?_
 refine goes_code ?_
 refine run_seq ?_
 refine run_seq ?_
 refine run_weak [(1, .int .i64 kind_1), (2, boxP b1 0), (4, boxP b2 0), (6, .int .i64 (IntKind.i64.wrap ((t_0.stack_.length : Int) - 1)))] [0, 1, 2, 3, 4] [ro t_0_stack_v 1 (t_0.stack_.map (eInt .i64)), ro t_0_slots_v 1 (t_0.slots_.map (eInt .i64)), ro t_0_loops_v 1 (t_0.loops_.map (eInt .i64)), box b1 [t_0_stack_v, t_0_slots_v, t_0_loops_v], box b2 [.slice none 0 0, .slice none 0 0, .slice none 0 0]] (qv4 rfl rfl rfl rfl) (by decide) rfl ?_
 refine run_region' ?_
 refine oy rfl rfl (y_move rfl) ?_
 refine oy rfl rfl (y_lss rfl rfl) ?_
 refine oy rfl rfl (y_move rfl) ?_
 obtain ⟨o4, h, ho5⟩ := bindJ_some h
 refine ops_cut 8 (Bool) (fun σ => [(2, boxP b1 0), (4, boxP b2 0), (6, .int .i64 (IntKind.i64.wrap ((t_0.stack_.length : Int) - 1))), (21, .bool σ)]) (fun σ => [ro t_0_stack_v 1 (t_0.stack_.map (eInt .i64)), ro t_0_slots_v 1 (t_0.slots_.map (eInt .i64)), ro t_0_loops_v 1 (t_0.loops_.map (eInt .i64)), box b1 [t_0_stack_v, t_0_slots_v, t_0_loops_v], box b2 [.slice none 0 0, .slice none 0 0, .slice none 0 0]]) (fun σ => o4 = .go σ) (fun L6 hL7 => ?_) ?_
 ·refine ops_split 13 (decide ((IntKind.i64.wrap ((t_0.stack_.length : Int) - 1)) < 0)) rfl (fun hg8 => ?_) (fun hg8 => ?_)
  ·replace h := cond_t h hg8
   refine ops_no 2 false 13 rfl rfl rfl rfl rfl ?_
   refine ops_no 2 false 13 rfl rfl rfl rfl rfl ?_
   refine ops_no 2 false 13 rfl rfl rfl rfl rfl ?_
   refine ops_no 2 false 13 rfl rfl rfl rfl rfl ?_
   refine ops_no 2 false 13 rfl rfl rfl rfl rfl ?_
   refine ops_no 2 false 13 rfl rfl rfl rfl rfl ?_
   refine ops_no 2 false 13 rfl rfl rfl rfl rfl ?_
   refine oy rfl rfl (y_pick (b := true) rfl rfl) ?_
   refine ops_nil ?_
   obtain rfl := some_eq h
   exact goes_cut hL7 true [0, 1, 2, 3, 4] (qv4 rfl rfl rfl rfl) (by decide) rfl rfl
  ·replace h := cond_f h hg8
   refine ops_y (wg 2 false 13 rfl rfl rfl rfl) rfl (y_fieldAddr_box (sz := 0) Try.runUnderlying71 rfl Try.sizeOf22 rfl) ?_
   refine ops_y (wg 2 false 13 rfl rfl rfl rfl) rfl (y_load_box 3 Try.isAgg22 rfl rfl rfl) ?_
   refine ops_y (wg 2 false 13 rfl rfl rfl rfl) rfl (y_move rfl) ?_
   obtain ⟨x9, hzx9, hlx9, hxx9, h⟩ := idx_some h
   refine ops_y (wg 2 false 13 rfl rfl rfl rfl) rfl (y_indexAddrI (kd := .i64) (i := (IntKind.i64.wrap ((t_0.stack_.length : Int) - 1))) 0 Try.runUnderlying22 Try.sizeOf3 rfl rfl rfl reads_ro hzx9 (map_lt hlx9)) ?_
   refine ops_y (wg 2 false 13 rfl rfl rfl rfl) rfl (y_load_elem (i := ((IntKind.i64.wrap ((t_0.stack_.length : Int) - 1))).toNat) 0 Try.isAgg3 rfl rfl reads_ro (map_get hxx9)) ?_
   refine ops_y (wg 2 false 13 rfl rfl rfl rfl) rfl (y_move rfl) ?_
   refine ops_y (wg 2 false 13 rfl rfl rfl rfl) rfl (y_neq rfl rfl) ?_
   refine oy rfl rfl (y_pick (b := false) rfl rfl) ?_
   refine ops_nil ?_
   obtain rfl := some_eq h
   exact goes_cut hL7 (decide (x9 ≠ kind_1)) [0, 1, 2, 3, 4] (qv4 rfl rfl rfl rfl) (by decide) rfl rfl
 rintro b3 hj
 obtain rfl : o4 = _ := hj
 replace h := after_go ho5
 clear ho5
 refine ops_nil ?_
 refine goes_code ?_
 refine run_cond b3 rfl (fun hc10 => ?_) (fun hc10 => ?_)
 ·replace h := cond_t h hc10
  refine run_seq ?_
  refine run_region' ?_
  refine oy rfl rfl (y_load_boxagg (c := [t_0_stack_v, t_0_slots_v, t_0_loops_v]) 3 Try.isAgg71 Try.sizeOf71 rfl rfl rfl) ?_
  refine ops_slc 0 rfl reads_ro (fun hs11 hs11o => ?_)
  refine ops_slc 1 rfl reads_ro (fun hs12 hs12o => ?_)
  refine ops_slc 2 rfl reads_ro (fun hs13 hs13o => ?_)
  refine ot rfl rfl (t_store 4 Try.sizeOf71 rfl rfl rfl rfl (by simp [Value.cells, boxP]) (allL_cons hs11o (allL_cons hs12o (allL_cons hs13o (allL_nil))))) ?_
  rintro _ _ ⟨rfl, rfl⟩
  refine ops_turn (retell 4 (g := box b2 [t_0_stack_v, t_0_slots_v, t_0_loops_v]) rfl rfl) ?_
  refine oy rfl rfl (y_assign rfl) ?_
  refine ops_nil ?_
  refine goes_code ?_
  refine run_ret ?_
  obtain rfl := some_eq h
  refine fin_res [.cell 4 71, .tmp 5] [.agg #[t_0_stack_v, t_0_slots_v, t_0_loops_v], .bool false] [0, 1, 2] [ro t_0_stack_v 1 (t_0.stack_.map (eInt .i64)), ro t_0_slots_v 1 (t_0.slots_.map (eInt .i64)), ro t_0_loops_v 1 (t_0.loops_.map (eInt .i64))] Try.results56 rfl (rescons (res_box 4 Try.isAgg71 Try.sizeOf71 rfl rfl rfl) (rescons (res_tmp rfl) resnil)) (by decide) rfl ?_
  exact ⟨_, _, _, rfl, rfl⟩
 ·replace h := cond_f h hc10
  refine run_skip ?_
  refine goes_code ?_
  refine run_seq ?_
  refine run_region' ?_
  refine oy rfl rfl (y_fieldAddr_box (sz := 0) Try.runUnderlying71 rfl Try.sizeOf22 rfl) ?_
  refine oy rfl rfl (y_load_box 3 Try.isAgg22 rfl rfl rfl) ?_
  refine oy rfl rfl (y_move rfl) ?_
  obtain ⟨hb14, h⟩ := need_some h
  refine oy rfl rfl (y_slice (l := 0) (r := (IntKind.i64.wrap ((t_0.stack_.length : Int) - 1))) 0 Try.runUnderlying22 Try.sizeOf3 rfl rfl reads_ro bi0 (bi1 (kd := .i64) rfl) hb14.1 hb14.2.1 (map_len_le hb14.2.2)) ?_
  refine ops_turn (turn_sub (l := (0 : Int).toNat) (r := ((IntKind.i64.wrap ((t_0.stack_.length : Int) - 1))).toNat) 0 rfl (by first | omega | exact Int.toNat_le_toNat hb14.2.1) (map_toNat_le hb14.2.2)) ?_
  refine ops_turn (retell 5 (g := ro (subS t_0_stack_v 1 ((0 : Int).toNat) (((IntKind.i64.wrap ((t_0.stack_.length : Int) - 1))).toNat)) 1 ((t_0.stack_.take (((IntKind.i64.wrap ((t_0.stack_.length : Int) - 1))).toNat)).map (eInt .i64))) rfl (congrArg (ro _ _) (sub_hi _ _ _))) ?_
  refine oy rfl rfl (y_fieldAddr_box (sz := 0) Try.runUnderlying71 rfl Try.sizeOf22 rfl) ?_
  refine ops_slc 5 rfl reads_ro (fun hs15 hs15o => ?_)
  refine ot rfl rfl (t_store 3 Try.sizeOf22 rfl rfl rfl (by rw [hs15]; rfl) (by simp [Value.cells, boxP]) (by rw [hs15]; exact allL_cons hs15o (allL_nil))) ?_
  rintro _ _ ⟨rfl, rfl⟩
  refine ops_turn (retell 3 (g := box b1 [(subS t_0_stack_v 1 ((0 : Int).toNat) (((IntKind.i64.wrap ((t_0.stack_.length : Int) - 1))).toNat)), t_0_slots_v, t_0_loops_v]) rfl (by rw [hs15]; rfl)) ?_
  refine ops_nil ?_
  refine goes_code ?_
  refine run_seq ?_
  refine run_region' ?_
  refine oy rfl rfl (y_load_boxagg (c := [(subS t_0_stack_v 1 ((0 : Int).toNat) (((IntKind.i64.wrap ((t_0.stack_.length : Int) - 1))).toNat)), t_0_slots_v, t_0_loops_v]) 3 Try.isAgg71 Try.sizeOf71 rfl rfl rfl) ?_
  refine ops_slc 5 rfl reads_ro (fun hs16 hs16o => ?_)
  refine ops_slc 1 rfl reads_ro (fun hs17 hs17o => ?_)
  refine ops_slc 2 rfl reads_ro (fun hs18 hs18o => ?_)
  refine ot rfl rfl (t_store 4 Try.sizeOf71 rfl rfl rfl rfl (by simp [Value.cells, boxP]) (allL_cons hs16o (allL_cons hs17o (allL_cons hs18o (allL_nil))))) ?_
  rintro _ _ ⟨rfl, rfl⟩
  refine ops_turn (retell 4 (g := box b2 [(subS t_0_stack_v 1 ((0 : Int).toNat) (((IntKind.i64.wrap ((t_0.stack_.length : Int) - 1))).toNat)), t_0_slots_v, t_0_loops_v]) rfl rfl) ?_
  refine oy rfl rfl (y_assign rfl) ?_
  refine ops_nil ?_
  refine goes_code ?_
  refine run_ret ?_
  obtain rfl := some_eq h
  refine fin_res [.cell 4 71, .tmp 5] [.agg #[(subS t_0_stack_v 1 ((0 : Int).toNat) (((IntKind.i64.wrap ((t_0.stack_.length : Int) - 1))).toNat)), t_0_slots_v, t_0_loops_v], .bool true] [5, 1, 2] [ro (subS t_0_stack_v 1 ((0 : Int).toNat) (((IntKind.i64.wrap ((t_0.stack_.length : Int) - 1))).toNat)) 1 ((t_0.stack_.take (((IntKind.i64.wrap ((t_0.stack_.length : Int) - 1))).toNat)).map (eInt .i64)), ro t_0_slots_v 1 (t_0.slots_.map (eInt .i64)), ro t_0_loops_v 1 (t_0.loops_.map (eInt .i64))] Try.results56 rfl (rescons (res_box 4 Try.isAgg71 Try.sizeOf71 rfl rfl rfl) (rescons (res_tmp rfl) resnil)) (by decide) rfl ?_
  exact ⟨_, _, _, rfl, rfl⟩

end Go.Proofs.Ytgjdaamkfpbgpaa
