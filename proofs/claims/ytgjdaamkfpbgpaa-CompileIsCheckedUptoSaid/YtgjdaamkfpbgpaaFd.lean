/-
  Functions of the program, lifted: part 4.
-/
import Derived.Test.YtgjdaamkfpbgpaaFc
namespace Go.Proofs.Ytgjdaamkfpbgpaa
open Go.Abs
set_option linter.unusedVariables false
set_option linter.unusedSimpArgs false
set_option maxRecDepth 20000
set_option maxHeartbeats 4000000

def weirgate_compile_types_after_32 (n : Nat) (t_0 : S_compile_types) (x_1 : S_api_Instr) (at_2 : Int) : Option (S_compile_types × Bool) :=
 cond (decide (1 ≤ x_1.Op) && decide (x_1.Op ≤ 23))
  (obind (weirgate_compile_types_operator_55 n t_0 x_1) fun r8 =>
  some (r8.1, r8.2))
  (cond ((decide (x_1.Op ≠ 32) && (!decide (x_1.S = []))) || decide (200 < (x_1.S.length : Int)))
   (some (t_0, false))
   (cond (decide (x_1.Op = 30))
    (some (t_0, decide (x_1.A = 0)))
    (cond (decide (x_1.Op = 37))
     (some (t_0, true))
     (cond (decide (x_1.Op = 38))
      (obind (weirgate_compile_types_pop_56 t_0 3) fun r35 =>
      some (r35.1, r35.2))
      (cond (decide (x_1.Op = 33))
       (obind (weirgate_compile_types_pop_56 t_0 1) fun r44 =>
       some (r44.1, (r44.2 && decide (x_1.A = 0))))
       (bindJ (S := Bool)
        (cond (decide (x_1.Op = 32))
         (some (.go (decide (x_1.Op = 32))))
         (cond (decide (x_1.Op = 34))
          (some (.go (decide (x_1.Op = 34))))
          (cond (decide (x_1.Op = 35))
           (some (.go (decide (x_1.Op = 35))))
           (some (.go (decide (x_1.Op = 36)))))))
       (fun s_59 =>
        cond s_59
         (obind (weirgate_compile_types_pop_56 t_0 2) fun r68 =>
         some (r68.1, (r68.2 && decide (x_1.A = 0))))
         (cond (decide (x_1.Op = 39))
          (obind (slices_Clone_int_int_57 t_0.loops_) fun r84 =>
          need (r84.length + ([at_2] : List Int).length ≤ 4294967296) (
          some ((S_compile_types.mk t_0.stack_ t_0.slots_ (r84 ++ ([at_2] : List Int))), (decide (0 ≤ x_1.A) && decide (x_1.A ≤ 1000)))))
          (cond (decide (x_1.Op = 40))
           (some (t_0, decide (0 < (t_0.loops_.length : Int))))
           (cond (decide (x_1.Op = 41))
            (cond (decide (x_1.A < 0) || decide ((t_0.slots_.length : Int) < x_1.A))
             (some (t_0, false))
             (need (0 ≤ (0 : Int) ∧ 0 ≤ x_1.A ∧ x_1.A ≤ (t_0.slots_.length : Int)) (
             some ((S_compile_types.mk t_0.stack_ (t_0.slots_.take ((x_1.A).toNat)) t_0.loops_), true))))
            (cond (decide (x_1.Op = 31))
             (cond (((decide ((IntKind.i64.wrap ((t_0.stack_.length : Int) - 1)) < 0) || decide (x_1.A < 0)) || decide ((t_0.slots_.length : Int) < x_1.A)) || decide (200 ≤ x_1.A))
              (some (t_0, false))
              (idx t_0.stack_ (IntKind.i64.wrap ((t_0.stack_.length : Int) - 1)) fun x128 =>
              need (0 ≤ (0 : Int) ∧ 0 ≤ (IntKind.i64.wrap ((t_0.stack_.length : Int) - 1)) ∧ (IntKind.i64.wrap ((t_0.stack_.length : Int) - 1)) ≤ (t_0.stack_.length : Int)) (
              bindJ (S := (List Int))
               (cond (decide (x_1.A = (t_0.slots_.length : Int)))
                (obind (slices_Clone_int_int_57 t_0.slots_) fun r138 =>
                need (r138.length + ([x128] : List Int).length ≤ 4294967296) (
                some (.go (r138 ++ ([x128] : List Int)))))
                (some (.go t_0.slots_)))
              (fun x_131 =>
               idx x_131 x_1.A fun x145 =>
               some ((S_compile_types.mk (t_0.stack_.take (((IntKind.i64.wrap ((t_0.stack_.length : Int) - 1))).toNat)) x_131 t_0.loops_), decide (x145 = x128))))))
             (some (t_0, false)))))))))))))
theorem weirgate_compile_types_after_32_ok (n : Nat) (t_0 : S_compile_types) (x_1 : S_api_Instr) (at_2 : Int) (t_0_stack_v : Value) (t_0_slots_v : Value) (t_0_loops_v : Value) {r : S_compile_types × Bool} (h : weirgate_compile_types_after_32 n t_0 x_1 at_2 = some r) :
  Meets Try.prog 32 [.agg #[t_0_stack_v, t_0_slots_v, t_0_loops_v], .agg #[.int .i64 x_1.Op, .int .i64 x_1.A, .string (bs x_1.S)], .int .i64 at_2] [ro t_0_stack_v 1 (t_0.stack_.map (eInt .i64)), ro t_0_slots_v 1 (t_0.slots_.map (eInt .i64)), ro t_0_loops_v 1 (t_0.loops_.map (eInt .i64))] (fun v G => ∃ v0 v1 v2, v = .tuple #[.agg #[v0, v1, v2], .bool r.2] ∧ G = [ro v0 1 (r.1.stack_.map (eInt .i64)), ro v1 1 (r.1.slots_.map (eInt .i64)), ro v2 1 (r.1.loops_.map (eInt .i64))]) := by
 refine fn_of_run Try.func32 rfl Try.ntmps32 rfl (fun w0 o0 => ?_)
 refine run_seq ?_
 refine run_region' ?_
 refine ot rfl rfl (t_box rfl) ?_
 rintro _ _ ⟨b1, rfl, rfl⟩
 refine ot rfl rfl (t_box rfl) ?_
 rintro _ _ ⟨b2, rfl, rfl⟩
 refine ot rfl rfl (t_alloc Try.zeroValue71) ?_
 rintro _ _ ⟨b3, rfl, rfl⟩
 refine oy rfl rfl (y_assign rfl) ?_
 refine ops_nil ?_
 refine goes_code ?_
 refine run_seq ?_
 refine run_seq ?_
 refine run_region' ?_
 refine oy rfl rfl (y_fieldAddr_box (sz := 0) Try.runUnderlying55 rfl Try.sizeOf3 rfl) ?_
 refine oy rfl rfl (y_load_box 4 Try.isAgg3 rfl rfl rfl) ?_
 refine oy rfl rfl (y_geq rfl rfl) ?_
 refine oy rfl rfl (y_move rfl) ?_
 refine ops_cut 4 (Bool) (fun σ => [(2, .int .i64 at_2), (3, boxP b1 0), (4, boxP b2 0), (6, boxP b3 0), (22, .bool σ)]) (fun σ => [ro t_0_stack_v 1 (t_0.stack_.map (eInt .i64)), ro t_0_slots_v 1 (t_0.slots_.map (eInt .i64)), ro t_0_loops_v 1 (t_0.loops_.map (eInt .i64)), box b1 [t_0_stack_v, t_0_slots_v, t_0_loops_v], box b2 [.int .i64 x_1.Op, .int .i64 x_1.A, .string (bs x_1.S)], box b3 [.slice none 0 0, .slice none 0 0, .slice none 0 0]]) (fun σ => σ = (decide (1 ≤ x_1.Op) && decide (x_1.Op ≤ 23))) (fun L4 hL5 => ?_) ?_
 ·refine ops_split 18 (decide (1 ≤ x_1.Op)) rfl (fun hg6 => ?_) (fun hg6 => ?_)
  ·skip
   refine ops_y (wg 3 true 18 rfl rfl rfl rfl) rfl (y_fieldAddr_box (sz := 0) Try.runUnderlying55 rfl Try.sizeOf3 rfl) ?_
   refine ops_y (wg 3 true 18 rfl rfl rfl rfl) rfl (y_load_box 4 Try.isAgg3 rfl rfl rfl) ?_
   refine ops_y (wg 3 true 18 rfl rfl rfl rfl) rfl (y_leq rfl rfl) ?_
   refine oy rfl rfl (y_pick (b := true) rfl rfl) ?_
   refine ops_nil ?_
   exact goes_cut hL5 (decide (x_1.Op ≤ 23)) [0, 1, 2, 3, 4, 5] (qv5 rfl rfl rfl rfl rfl) (by decide) rfl (by rw [hg6]; simp)
  ·skip
   refine ops_no 3 true 18 rfl rfl rfl rfl rfl ?_
   refine ops_no 3 true 18 rfl rfl rfl rfl rfl ?_
   refine ops_no 3 true 18 rfl rfl rfl rfl rfl ?_
   refine oy rfl rfl (y_pick (b := false) rfl rfl) ?_
   refine ops_nil ?_
   exact goes_cut hL5 false [0, 1, 2, 3, 4, 5] (qv5 rfl rfl rfl rfl rfl) (by decide) rfl (by rw [hg6]; simp)
 rintro _ rfl
 refine ops_nil ?_
 refine goes_code ?_
 refine run_cond (decide (1 ≤ x_1.Op) && decide (x_1.Op ≤ 23)) rfl (fun hc7 => ?_) (fun hc7 => ?_)
 ·replace h := cond_t h hc7
  refine run_seq ?_
  refine run_region' ?_
  refine oy rfl rfl (y_load_boxagg (c := [t_0_stack_v, t_0_slots_v, t_0_loops_v]) 3 Try.isAgg71 Try.sizeOf71 rfl rfl rfl) ?_
  refine oy rfl rfl (y_load_boxagg (c := [.int .i64 x_1.Op, .int .i64 x_1.A, .string (bs x_1.S)]) 4 Try.isAgg55 Try.sizeOf55 rfl rfl rfl) ?_
  obtain ⟨r8, hr9, h⟩ := obind_some h
  refine ot rfl rfl (t_callx (vs := [.agg #[t_0_stack_v, t_0_slots_v, t_0_loops_v], .agg #[.int .i64 x_1.Op, .int .i64 x_1.A, .string (bs x_1.S)]]) (cs := []) [(0, 0), (1, 0), (2, 0)] rfl Try.call55 rfl (weirgate_compile_types_operator_55_ok n  t_0 x_1 t_0_stack_v t_0_slots_v t_0_loops_v hr9) (showsX_view 0 rfl views_ro (showsX_view 1 rfl views_ro (showsX_view 2 rfl views_ro showsX_nil))) rfl (.inl rfl)) ?_
  rintro _ _ ⟨_, ⟨v10, v11, v12, rfl, rfl⟩, rfl⟩
  refine oy rfl rfl (y_extract rfl rfl) ?_
  refine oy rfl rfl (y_extract rfl rfl) ?_
  refine ops_slc 6 rfl reads_ro (fun hs13 hs13o => ?_)
  refine ops_slc 7 rfl reads_ro (fun hs14 hs14o => ?_)
  refine ops_slc 8 rfl reads_ro (fun hs15 hs15o => ?_)
  refine ot rfl rfl (t_store 5 Try.sizeOf71 rfl rfl rfl rfl (by simp [Value.cells, boxP]) (allL_cons hs13o (allL_cons hs14o (allL_cons hs15o (allL_nil))))) ?_
  rintro _ _ ⟨rfl, rfl⟩
  refine ops_turn (retell 5 (g := box b3 [v10, v11, v12]) rfl rfl) ?_
  refine oy rfl rfl (y_assign rfl) ?_
  refine ops_nil ?_
  refine goes_code ?_
  refine run_ret ?_
  obtain rfl := some_eq h
  refine fin_res [.cell 6 71, .tmp 7] [.agg #[v10, v11, v12], .bool r8.2] [6, 7, 8] [ro v10 1 (r8.1.stack_.map (eInt .i64)), ro v11 1 (r8.1.slots_.map (eInt .i64)), ro v12 1 (r8.1.loops_.map (eInt .i64))] Try.results32 rfl (rescons (res_box 5 Try.isAgg71 Try.sizeOf71 rfl rfl rfl) (rescons (res_tmp rfl) resnil)) (by decide) rfl ?_
  exact ⟨_, _, _, rfl, rfl⟩
 ·replace h := cond_f h hc7
  refine run_skip ?_
  refine goes_code ?_
  refine run_seq ?_
  refine run_seq ?_
  refine run_region' ?_
  refine oy rfl rfl (y_fieldAddr_box (sz := 0) Try.runUnderlying55 rfl Try.sizeOf3 rfl) ?_
  refine oy rfl rfl (y_load_box 4 Try.isAgg3 rfl rfl rfl) ?_
  refine oy rfl rfl (y_neq rfl rfl) ?_
  refine oy rfl rfl (y_move rfl) ?_
  refine ops_cut 4 (Bool) (fun σ => [(2, .int .i64 at_2), (3, boxP b1 0), (4, boxP b2 0), (6, boxP b3 0), (35, .bool σ)]) (fun σ => [ro t_0_stack_v 1 (t_0.stack_.map (eInt .i64)), ro t_0_slots_v 1 (t_0.slots_.map (eInt .i64)), ro t_0_loops_v 1 (t_0.loops_.map (eInt .i64)), box b1 [t_0_stack_v, t_0_slots_v, t_0_loops_v], box b2 [.int .i64 x_1.Op, .int .i64 x_1.A, .string (bs x_1.S)], box b3 [.slice none 0 0, .slice none 0 0, .slice none 0 0]]) (fun σ => σ = (decide (x_1.Op ≠ 32) && (!decide (x_1.S = [])))) (fun L16 hL17 => ?_) ?_
  ·refine ops_split 31 (decide (x_1.Op ≠ 32)) rfl (fun hg18 => ?_) (fun hg18 => ?_)
   ·skip
    refine ops_y (wg 3 true 31 rfl rfl rfl rfl) rfl (y_fieldAddr_box (sz := 0) Try.runUnderlying55 rfl Try.sizeOf9 rfl) ?_
    refine ops_y (wg 3 true 31 rfl rfl rfl rfl) rfl (y_load_box 4 Try.isAgg9 rfl rfl rfl) ?_
    refine ops_y (wg 3 true 31 rfl rfl rfl rfl) rfl (y_sneq rfl rfl) ?_
    refine oy rfl rfl (y_pick (b := true) rfl rfl) ?_
    refine ops_nil ?_
    exact goes_cut hL17 (!decide (x_1.S = [])) [0, 1, 2, 3, 4, 5] (qv5 rfl rfl rfl rfl rfl) (by decide) rfl (by rw [hg18]; simp)
   ·skip
    refine ops_no 3 true 31 rfl rfl rfl rfl rfl ?_
    refine ops_no 3 true 31 rfl rfl rfl rfl rfl ?_
    refine ops_no 3 true 31 rfl rfl rfl rfl rfl ?_
    refine oy rfl rfl (y_pick (b := false) rfl rfl) ?_
    refine ops_nil ?_
    exact goes_cut hL17 false [0, 1, 2, 3, 4, 5] (qv5 rfl rfl rfl rfl rfl) (by decide) rfl (by rw [hg18]; simp)
  rintro _ rfl
  refine oy rfl rfl (y_move rfl) ?_
  refine ops_cut 5 (Bool) (fun σ => [(2, .int .i64 at_2), (3, boxP b1 0), (4, boxP b2 0), (6, boxP b3 0), (41, .bool σ)]) (fun σ => [ro t_0_stack_v 1 (t_0.stack_.map (eInt .i64)), ro t_0_slots_v 1 (t_0.slots_.map (eInt .i64)), ro t_0_loops_v 1 (t_0.loops_.map (eInt .i64)), box b1 [t_0_stack_v, t_0_slots_v, t_0_loops_v], box b2 [.int .i64 x_1.Op, .int .i64 x_1.A, .string (bs x_1.S)], box b3 [.slice none 0 0, .slice none 0 0, .slice none 0 0]]) (fun σ => σ = ((decide (x_1.Op ≠ 32) && (!decide (x_1.S = []))) || decide (200 < (x_1.S.length : Int)))) (fun L19 hL20 => ?_) ?_
  ·refine ops_split 36 (decide (x_1.Op ≠ 32) && (!decide (x_1.S = []))) rfl (fun hg21 => ?_) (fun hg21 => ?_)
   ·skip
    refine ops_no 8 false 36 rfl rfl rfl rfl rfl ?_
    refine ops_no 8 false 36 rfl rfl rfl rfl rfl ?_
    refine ops_no 8 false 36 rfl rfl rfl rfl rfl ?_
    refine ops_no 8 false 36 rfl rfl rfl rfl rfl ?_
    refine oy rfl rfl (y_pick (b := true) rfl rfl) ?_
    refine ops_nil ?_
    exact goes_cut hL20 true [0, 1, 2, 3, 4, 5] (qv5 rfl rfl rfl rfl rfl) (by decide) rfl (by rw [hg21]; simp)
   ·skip
    refine ops_y (wg 8 false 36 rfl rfl rfl rfl) rfl (y_fieldAddr_box (sz := 0) Try.runUnderlying55 rfl Try.sizeOf9 rfl) ?_
    refine ops_y (wg 8 false 36 rfl rfl rfl rfl) rfl (y_load_box 4 Try.isAgg9 rfl rfl rfl) ?_
    refine ops_y (wg 8 false 36 rfl rfl rfl rfl) rfl (y_len_str rfl Try.runUnderlying9 rfl) ?_
    refine ops_y (wg 8 false 36 rfl rfl rfl rfl) rfl (y_gtr rfl rfl) ?_
    refine oy rfl rfl (y_pick (b := false) rfl rfl) ?_
    refine ops_nil ?_
    exact goes_cut hL20 (decide (200 < (x_1.S.length : Int))) [0, 1, 2, 3, 4, 5] (qv5 rfl rfl rfl rfl rfl) (by decide) rfl (by rw [hg21]; simp)
  rintro _ rfl
  refine ops_nil ?_
  refine goes_code ?_
  refine run_cond ((decide (x_1.Op ≠ 32) && (!decide (x_1.S = []))) || decide (200 < (x_1.S.length : Int))) rfl (fun hc22 => ?_) (fun hc22 => ?_)
  ·replace h := cond_t h hc22
   refine run_seq ?_
   refine run_region' ?_
   refine oy rfl rfl (y_load_boxagg (c := [t_0_stack_v, t_0_slots_v, t_0_loops_v]) 3 Try.isAgg71 Try.sizeOf71 rfl rfl rfl) ?_
   refine ops_slc 0 rfl reads_ro (fun hs23 hs23o => ?_)
   refine ops_slc 1 rfl reads_ro (fun hs24 hs24o => ?_)
   refine ops_slc 2 rfl reads_ro (fun hs25 hs25o => ?_)
   refine ot rfl rfl (t_store 5 Try.sizeOf71 rfl rfl rfl rfl (by simp [Value.cells, boxP]) (allL_cons hs23o (allL_cons hs24o (allL_cons hs25o (allL_nil))))) ?_
   rintro _ _ ⟨rfl, rfl⟩
   refine ops_turn (retell 5 (g := box b3 [t_0_stack_v, t_0_slots_v, t_0_loops_v]) rfl rfl) ?_
   refine oy rfl rfl (y_assign rfl) ?_
   refine ops_nil ?_
   refine goes_code ?_
   refine run_ret ?_
   obtain rfl := some_eq h
   refine fin_res [.cell 6 71, .tmp 7] [.agg #[t_0_stack_v, t_0_slots_v, t_0_loops_v], .bool false] [0, 1, 2] [ro t_0_stack_v 1 (t_0.stack_.map (eInt .i64)), ro t_0_slots_v 1 (t_0.slots_.map (eInt .i64)), ro t_0_loops_v 1 (t_0.loops_.map (eInt .i64))] Try.results32 rfl (rescons (res_box 5 Try.isAgg71 Try.sizeOf71 rfl rfl rfl) (rescons (res_tmp rfl) resnil)) (by decide) rfl ?_
   exact ⟨_, _, _, rfl, rfl⟩
  ·replace h := cond_f h hc22
   refine run_skip ?_
   refine goes_code ?_
   refine run_seq ?_
   refine run_region' ?_
   refine oy rfl rfl (y_fieldAddr_box (sz := 0) Try.runUnderlying55 rfl Try.sizeOf3 rfl) ?_
   refine oy rfl rfl (y_load_box 4 Try.isAgg3 rfl rfl rfl) ?_
   refine oy rfl rfl (y_eql rfl rfl) ?_
   refine oy rfl rfl (y_assign rfl) ?_
   refine ops_nil ?_
   refine goes_code ?_
   refine run_seq ?_
   refine run_seq ?_
   refine run_region' ?_
   refine oy rfl rfl (y_fieldAddr_box (sz := 0) Try.runUnderlying55 rfl Try.sizeOf3 rfl) ?_
   refine oy rfl rfl (y_load_box 4 Try.isAgg3 rfl rfl rfl) ?_
   refine ops_nil ?_
   refine goes_code ?_
   refine run_block ?_
   refine run_seq ?_
   refine run_region' ?_
   refine oy rfl rfl (y_eql rfl rfl) ?_
   refine oy rfl rfl (y_assign rfl) ?_
   refine ops_nil ?_
   refine goes_code ?_
   refine run_cond (decide (x_1.Op = 30)) rfl (fun hc26 => ?_) (fun hc26 => ?_)
   ·replace h := cond_t h hc26
    refine run_seq ?_
    refine run_weak [(3, boxP b1 0), (6, boxP b3 0), (8, .bool (decide (x_1.A = 0)))] [0, 1, 2, 3, 5] [ro t_0_stack_v 1 (t_0.stack_.map (eInt .i64)), ro t_0_slots_v 1 (t_0.slots_.map (eInt .i64)), ro t_0_loops_v 1 (t_0.loops_.map (eInt .i64)), box b1 [t_0_stack_v, t_0_slots_v, t_0_loops_v], box b3 [.slice none 0 0, .slice none 0 0, .slice none 0 0]] (qv3 rfl rfl rfl) (by decide) rfl ?_
    refine run_region' ?_
    refine oy rfl rfl (y_load_boxagg (c := [t_0_stack_v, t_0_slots_v, t_0_loops_v]) 3 Try.isAgg71 Try.sizeOf71 rfl rfl rfl) ?_
    refine oy rfl rfl (y_move rfl) ?_
    refine ops_slc 0 rfl reads_ro (fun hs27 hs27o => ?_)
    refine ops_slc 1 rfl reads_ro (fun hs28 hs28o => ?_)
    refine ops_slc 2 rfl reads_ro (fun hs29 hs29o => ?_)
    refine ot rfl rfl (t_store 4 Try.sizeOf71 rfl rfl rfl rfl (by simp [Value.cells, boxP]) (allL_cons hs27o (allL_cons hs28o (allL_cons hs29o (allL_nil))))) ?_
    rintro _ _ ⟨rfl, rfl⟩
    refine ops_turn (retell 4 (g := box b3 [t_0_stack_v, t_0_slots_v, t_0_loops_v]) rfl rfl) ?_
    refine oy rfl rfl (y_assign rfl) ?_
    refine ops_nil ?_
    refine goes_code ?_
    refine run_ret ?_
    obtain rfl := some_eq h
    refine fin_res [.cell 6 71, .tmp 7] [.agg #[t_0_stack_v, t_0_slots_v, t_0_loops_v], .bool (decide (x_1.A = 0))] [0, 1, 2] [ro t_0_stack_v 1 (t_0.stack_.map (eInt .i64)), ro t_0_slots_v 1 (t_0.slots_.map (eInt .i64)), ro t_0_loops_v 1 (t_0.loops_.map (eInt .i64))] Try.results32 rfl (rescons (res_box 4 Try.isAgg71 Try.sizeOf71 rfl rfl rfl) (rescons (res_tmp rfl) resnil)) (by decide) rfl ?_
    exact ⟨_, _, _, rfl, rfl⟩
   ·replace h := cond_f h hc26
    refine run_seq ?_
    refine run_weak [(2, .int .i64 at_2), (3, boxP b1 0), (4, boxP b2 0), (6, boxP b3 0), (8, .bool (decide (x_1.A = 0))), (47, .int .i64 x_1.Op)] [0, 1, 2, 3, 4, 5] [ro t_0_stack_v 1 (t_0.stack_.map (eInt .i64)), ro t_0_slots_v 1 (t_0.slots_.map (eInt .i64)), ro t_0_loops_v 1 (t_0.loops_.map (eInt .i64)), box b1 [t_0_stack_v, t_0_slots_v, t_0_loops_v], box b2 [.int .i64 x_1.Op, .int .i64 x_1.A, .string (bs x_1.S)], box b3 [.slice none 0 0, .slice none 0 0, .slice none 0 0]] (qv6 rfl rfl rfl rfl rfl rfl) (by decide) rfl ?_
    refine run_region' ?_
    refine oy rfl rfl (y_eql rfl rfl) ?_
    refine oy rfl rfl (y_assign rfl) ?_
    refine ops_nil ?_
    refine goes_code ?_
    refine run_cond (decide (x_1.Op = 37)) rfl (fun hc30 => ?_) (fun hc30 => ?_)
    ·replace h := cond_t h hc30
     refine run_seq ?_
     refine run_region' ?_
     refine oy rfl rfl (y_load_boxagg (c := [t_0_stack_v, t_0_slots_v, t_0_loops_v]) 3 Try.isAgg71 Try.sizeOf71 rfl rfl rfl) ?_
     refine ops_slc 0 rfl reads_ro (fun hs31 hs31o => ?_)
     refine ops_slc 1 rfl reads_ro (fun hs32 hs32o => ?_)
     refine ops_slc 2 rfl reads_ro (fun hs33 hs33o => ?_)
     refine ot rfl rfl (t_store 5 Try.sizeOf71 rfl rfl rfl rfl (by simp [Value.cells, boxP]) (allL_cons hs31o (allL_cons hs32o (allL_cons hs33o (allL_nil))))) ?_
     rintro _ _ ⟨rfl, rfl⟩
     refine ops_turn (retell 5 (g := box b3 [t_0_stack_v, t_0_slots_v, t_0_loops_v]) rfl rfl) ?_
     refine oy rfl rfl (y_assign rfl) ?_
     refine ops_nil ?_
     refine goes_code ?_
     refine run_ret ?_
     obtain rfl := some_eq h
     refine fin_res [.cell 6 71, .tmp 7] [.agg #[t_0_stack_v, t_0_slots_v, t_0_loops_v], .bool true] [0, 1, 2] [ro t_0_stack_v 1 (t_0.stack_.map (eInt .i64)), ro t_0_slots_v 1 (t_0.slots_.map (eInt .i64)), ro t_0_loops_v 1 (t_0.loops_.map (eInt .i64))] Try.results32 rfl (rescons (res_box 5 Try.isAgg71 Try.sizeOf71 rfl rfl rfl) (rescons (res_tmp rfl) resnil)) (by decide) rfl ?_
     exact ⟨_, _, _, rfl, rfl⟩
    ·replace h := cond_f h hc30
     refine run_seq ?_
     refine run_region' ?_
     refine oy rfl rfl (y_eql rfl rfl) ?_
     refine oy rfl rfl (y_assign rfl) ?_
     refine ops_nil ?_
     refine goes_code ?_
     refine run_cond (decide (x_1.Op = 38)) rfl (fun hc34 => ?_) (fun hc34 => ?_)
     ·replace h := cond_t h hc34
      refine run_seq ?_
      refine run_region' ?_
      refine oy rfl rfl (y_load_boxagg (c := [t_0_stack_v, t_0_slots_v, t_0_loops_v]) 3 Try.isAgg71 Try.sizeOf71 rfl rfl rfl) ?_
      obtain ⟨r35, hr36, h⟩ := obind_some h
      refine ot rfl rfl (t_callx (vs := [.agg #[t_0_stack_v, t_0_slots_v, t_0_loops_v], .int .i64 3]) (cs := []) [(0, 0), (1, 0), (2, 0)] rfl Try.call56 rfl (weirgate_compile_types_pop_56_ok  t_0 3 t_0_stack_v t_0_slots_v t_0_loops_v hr36) (showsX_view 0 rfl views_ro (showsX_view 1 rfl views_ro (showsX_view 2 rfl views_ro showsX_nil))) rfl (.inl rfl)) ?_
      rintro _ _ ⟨_, ⟨v37, v38, v39, rfl, rfl⟩, rfl⟩
      refine oy rfl rfl (y_extract rfl rfl) ?_
      refine oy rfl rfl (y_extract rfl rfl) ?_
      refine ops_slc 6 rfl reads_ro (fun hs40 hs40o => ?_)
      refine ops_slc 7 rfl reads_ro (fun hs41 hs41o => ?_)
      refine ops_slc 8 rfl reads_ro (fun hs42 hs42o => ?_)
      refine ot rfl rfl (t_store 5 Try.sizeOf71 rfl rfl rfl rfl (by simp [Value.cells, boxP]) (allL_cons hs40o (allL_cons hs41o (allL_cons hs42o (allL_nil))))) ?_
      rintro _ _ ⟨rfl, rfl⟩
      refine ops_turn (retell 5 (g := box b3 [v37, v38, v39]) rfl rfl) ?_
      refine oy rfl rfl (y_assign rfl) ?_
      refine ops_nil ?_
      refine goes_code ?_
      refine run_ret ?_
      obtain rfl := some_eq h
      refine fin_res [.cell 6 71, .tmp 7] [.agg #[v37, v38, v39], .bool r35.2] [6, 7, 8] [ro v37 1 (r35.1.stack_.map (eInt .i64)), ro v38 1 (r35.1.slots_.map (eInt .i64)), ro v39 1 (r35.1.loops_.map (eInt .i64))] Try.results32 rfl (rescons (res_box 5 Try.isAgg71 Try.sizeOf71 rfl rfl rfl) (rescons (res_tmp rfl) resnil)) (by decide) rfl ?_
      exact ⟨_, _, _, rfl, rfl⟩
     ·replace h := cond_f h hc34
      refine run_seq ?_
      refine run_region' ?_
      refine oy rfl rfl (y_eql rfl rfl) ?_
      refine oy rfl rfl (y_assign rfl) ?_
      refine ops_nil ?_
      refine goes_code ?_
      refine run_cond (decide (x_1.Op = 33)) rfl (fun hc43 => ?_) (fun hc43 => ?_)
      ·replace h := cond_t h hc43
       refine run_seq ?_
       refine run_region' ?_
       refine oy rfl rfl (y_load_boxagg (c := [t_0_stack_v, t_0_slots_v, t_0_loops_v]) 3 Try.isAgg71 Try.sizeOf71 rfl rfl rfl) ?_
       obtain ⟨r44, hr45, h⟩ := obind_some h
       refine ot rfl rfl (t_callx (vs := [.agg #[t_0_stack_v, t_0_slots_v, t_0_loops_v], .int .i64 1]) (cs := []) [(0, 0), (1, 0), (2, 0)] rfl Try.call56 rfl (weirgate_compile_types_pop_56_ok  t_0 1 t_0_stack_v t_0_slots_v t_0_loops_v hr45) (showsX_view 0 rfl views_ro (showsX_view 1 rfl views_ro (showsX_view 2 rfl views_ro showsX_nil))) rfl (.inl rfl)) ?_
       rintro _ _ ⟨_, ⟨v46, v47, v48, rfl, rfl⟩, rfl⟩
       refine oy rfl rfl (y_move rfl) ?_
       refine oy rfl rfl (y_extract rfl rfl) ?_
       refine oy rfl rfl (y_extract rfl rfl) ?_
       refine ot rfl rfl (t_alloc Try.zeroValue71) ?_
       rintro _ _ ⟨b49, rfl, rfl⟩
       refine ops_slc 6 rfl reads_ro (fun hs50 hs50o => ?_)
       refine ops_slc 7 rfl reads_ro (fun hs51 hs51o => ?_)
       refine ops_slc 8 rfl reads_ro (fun hs52 hs52o => ?_)
       refine ot rfl rfl (t_store 9 Try.sizeOf71 rfl rfl rfl rfl (by simp [Value.cells, boxP]) (allL_cons hs50o (allL_cons hs51o (allL_cons hs52o (allL_nil))))) ?_
       rintro _ _ ⟨rfl, rfl⟩
       refine ops_turn (retell 9 (g := box b49 [v46, v47, v48]) rfl rfl) ?_
       refine oy rfl rfl (y_assign rfl) ?_
       refine ops_nil ?_
       refine goes_code ?_
       refine run_seq ?_
       refine run_weak [(6, boxP b3 0), (8, .bool (decide (x_1.A = 0))), (9, boxP b49 0), (10, .bool r44.2)] [5, 6, 7, 8, 9] [box b3 [.slice none 0 0, .slice none 0 0, .slice none 0 0], ro v46 1 (r44.1.stack_.map (eInt .i64)), ro v47 1 (r44.1.slots_.map (eInt .i64)), ro v48 1 (r44.1.loops_.map (eInt .i64)), box b49 [v46, v47, v48]] (qv4 rfl rfl rfl rfl) (by decide) rfl ?_
       refine run_region' ?_
       refine oy rfl rfl (y_load_boxagg (c := [v46, v47, v48]) 4 Try.isAgg71 Try.sizeOf71 rfl rfl rfl) ?_
       refine oy rfl rfl (y_move rfl) ?_
       refine oy rfl rfl (y_move rfl) ?_
       refine ops_cut 2 (Bool) (fun σ => [(6, boxP b3 0), (68, .agg #[v46, v47, v48]), (72, .bool σ)]) (fun σ => [box b3 [.slice none 0 0, .slice none 0 0, .slice none 0 0], ro v46 1 (r44.1.stack_.map (eInt .i64)), ro v47 1 (r44.1.slots_.map (eInt .i64)), ro v48 1 (r44.1.loops_.map (eInt .i64))]) (fun σ => σ = (r44.2 && decide (x_1.A = 0))) (fun L53 hL54 => ?_) ?_
       ·refine ops_split 70 r44.2 rfl (fun hg55 => ?_) (fun hg55 => ?_)
        ·skip
         refine ops_y (wg 2 true 70 rfl rfl rfl rfl) rfl (y_move rfl) ?_
         refine oy rfl rfl (y_pick (b := true) rfl rfl) ?_
         refine ops_nil ?_
         exact goes_cut hL54 (decide (x_1.A = 0)) [0, 1, 2, 3] (qv3 rfl rfl rfl) (by decide) rfl (by rw [hg55]; simp)
        ·skip
         refine ops_no 2 true 70 rfl rfl rfl rfl rfl ?_
         refine oy rfl rfl (y_pick (b := false) rfl rfl) ?_
         refine ops_nil ?_
         exact goes_cut hL54 false [0, 1, 2, 3] (qv3 rfl rfl rfl) (by decide) rfl (by rw [hg55]; simp)
       rintro _ rfl
       refine ops_slc 1 rfl reads_ro (fun hs56 hs56o => ?_)
       refine ops_slc 2 rfl reads_ro (fun hs57 hs57o => ?_)
       refine ops_slc 3 rfl reads_ro (fun hs58 hs58o => ?_)
       refine ot rfl rfl (t_store 0 Try.sizeOf71 rfl rfl rfl rfl (by simp [Value.cells, boxP]) (allL_cons hs56o (allL_cons hs57o (allL_cons hs58o (allL_nil))))) ?_
       rintro _ _ ⟨rfl, rfl⟩
       refine ops_turn (retell 0 (g := box b3 [v46, v47, v48]) rfl rfl) ?_
       refine oy rfl rfl (y_assign rfl) ?_
       refine ops_nil ?_
       refine goes_code ?_
       refine run_ret ?_
       obtain rfl := some_eq h
       refine fin_res [.cell 6 71, .tmp 7] [.agg #[v46, v47, v48], .bool (r44.2 && decide (x_1.A = 0))] [1, 2, 3] [ro v46 1 (r44.1.stack_.map (eInt .i64)), ro v47 1 (r44.1.slots_.map (eInt .i64)), ro v48 1 (r44.1.loops_.map (eInt .i64))] Try.results32 rfl (rescons (res_box 0 Try.isAgg71 Try.sizeOf71 rfl rfl rfl) (rescons (res_tmp rfl) resnil)) (by decide) rfl ?_
       exact ⟨_, _, _, rfl, rfl⟩
      ·replace h := cond_f h hc43
       obtain ⟨o60, h, ho61⟩ := bindJ_some h
       refine run_cut ((Bool) × (Unit)) (fun σ => [(73, .bool σ.1), (2, .int .i64 at_2), (3, boxP b1 0), (4, boxP b2 0), (6, boxP b3 0), (8, .bool (decide (x_1.A = 0))), (47, .int .i64 x_1.Op)]) (fun σ => [box b1 [t_0_stack_v, t_0_slots_v, t_0_loops_v], ro t_0_stack_v 1 (t_0.stack_.map (eInt .i64)), ro t_0_slots_v 1 (t_0.slots_.map (eInt .i64)), ro t_0_loops_v 1 (t_0.loops_.map (eInt .i64)), box b2 [.int .i64 x_1.Op, .int .i64 x_1.A, .string (bs x_1.S)], box b3 [.slice none 0 0, .slice none 0 0, .slice none 0 0]]) (fun σ => o60 = .go σ.1) (fun L63 hL62 => ?_) ?_
       ·
        refine run_seq ?_
        refine run_region' ?_
        refine oy rfl rfl (y_eql rfl rfl) ?_
        refine oy rfl rfl (y_assign rfl) ?_
        refine ops_nil ?_
        refine goes_code ?_
        refine run_cond (decide (x_1.Op = 32)) rfl (fun hc64 => ?_) (fun hc64 => ?_)
        ·replace h := cond_t h hc64
         refine run_skip ?_
         obtain rfl := some_eq h
         exact goes_cut hL62 (decide (x_1.Op = 32), ()) [3, 0, 1, 2, 4, 5] (qv7 rfl rfl rfl rfl rfl rfl rfl) (by decide) rfl rfl
        ·replace h := cond_f h hc64
         refine run_seq ?_
         refine run_weak [(2, .int .i64 at_2), (3, boxP b1 0), (4, boxP b2 0), (6, boxP b3 0), (8, .bool (decide (x_1.A = 0))), (47, .int .i64 x_1.Op)] [0, 1, 2, 3, 4, 5] [ro t_0_stack_v 1 (t_0.stack_.map (eInt .i64)), ro t_0_slots_v 1 (t_0.slots_.map (eInt .i64)), ro t_0_loops_v 1 (t_0.loops_.map (eInt .i64)), box b1 [t_0_stack_v, t_0_slots_v, t_0_loops_v], box b2 [.int .i64 x_1.Op, .int .i64 x_1.A, .string (bs x_1.S)], box b3 [.slice none 0 0, .slice none 0 0, .slice none 0 0]] (qv6 rfl rfl rfl rfl rfl rfl) (by decide) rfl ?_
         refine run_region' ?_
         refine oy rfl rfl (y_eql rfl rfl) ?_
         refine oy rfl rfl (y_assign rfl) ?_
         refine ops_nil ?_
         refine goes_code ?_
         refine run_cond (decide (x_1.Op = 34)) rfl (fun hc65 => ?_) (fun hc65 => ?_)
         ·replace h := cond_t h hc65
          refine run_skip ?_
          obtain rfl := some_eq h
          exact goes_cut hL62 (decide (x_1.Op = 34), ()) [3, 0, 1, 2, 4, 5] (qv7 rfl rfl rfl rfl rfl rfl rfl) (by decide) rfl rfl
         ·replace h := cond_f h hc65
          refine run_seq ?_
          refine run_region' ?_
          refine oy rfl rfl (y_eql rfl rfl) ?_
          refine oy rfl rfl (y_assign rfl) ?_
          refine ops_nil ?_
          refine goes_code ?_
          refine run_cond (decide (x_1.Op = 35)) rfl (fun hc66 => ?_) (fun hc66 => ?_)
          ·replace h := cond_t h hc66
           refine run_skip ?_
           obtain rfl := some_eq h
           exact goes_cut hL62 (decide (x_1.Op = 35), ()) [3, 0, 1, 2, 4, 5] (qv7 rfl rfl rfl rfl rfl rfl rfl) (by decide) rfl rfl
          ·replace h := cond_f h hc66
           refine run_region' ?_
           refine oy rfl rfl (y_eql rfl rfl) ?_
           refine oy rfl rfl (y_assign rfl) ?_
           refine ops_nil ?_
           obtain rfl := some_eq h
           exact goes_cut hL62 (decide (x_1.Op = 36), ()) [3, 0, 1, 2, 4, 5] (qv7 rfl rfl rfl rfl rfl rfl rfl) (by decide) rfl rfl
       rintro ⟨s_59, _⟩ hj
       obtain rfl : o60 = _ := hj
       replace h := after_go ho61
       clear ho61
       change Run _ _ _ (VF.of [(73, .bool s_59), (2, .int .i64 at_2), (3, boxP b1 0), (4, boxP b2 0), (6, boxP b3 0), (8, .bool (decide (x_1.A = 0))), (47, .int .i64 x_1.Op)]) [box b1 [t_0_stack_v, t_0_slots_v, t_0_loops_v], ro t_0_stack_v 1 (t_0.stack_.map (eInt .i64)), ro t_0_slots_v 1 (t_0.slots_.map (eInt .i64)), ro t_0_loops_v 1 (t_0.loops_.map (eInt .i64)), box b2 [.int .i64 x_1.Op, .int .i64 x_1.A, .string (bs x_1.S)], box b3 [.slice none 0 0, .slice none 0 0, .slice none 0 0]]
       refine run_cond s_59 rfl (fun hc67 => ?_) (fun hc67 => ?_)
       ·replace h := cond_t h hc67
        refine run_seq ?_
        refine run_region' ?_
        refine oy rfl rfl (y_load_boxagg (c := [t_0_stack_v, t_0_slots_v, t_0_loops_v]) 0 Try.isAgg71 Try.sizeOf71 rfl rfl rfl) ?_
        obtain ⟨r68, hr69, h⟩ := obind_some h
        refine ot rfl rfl (t_callx (vs := [.agg #[t_0_stack_v, t_0_slots_v, t_0_loops_v], .int .i64 2]) (cs := []) [(1, 0), (2, 0), (3, 0)] rfl Try.call56 rfl (weirgate_compile_types_pop_56_ok  t_0 2 t_0_stack_v t_0_slots_v t_0_loops_v hr69) (showsX_view 1 rfl views_ro (showsX_view 2 rfl views_ro (showsX_view 3 rfl views_ro showsX_nil))) rfl (.inl rfl)) ?_
        rintro _ _ ⟨_, ⟨v70, v71, v72, rfl, rfl⟩, rfl⟩
        refine oy rfl rfl (y_move rfl) ?_
        refine oy rfl rfl (y_extract rfl rfl) ?_
        refine oy rfl rfl (y_extract rfl rfl) ?_
        refine ot rfl rfl (t_alloc Try.zeroValue71) ?_
        rintro _ _ ⟨b73, rfl, rfl⟩
        refine ops_slc 6 rfl reads_ro (fun hs74 hs74o => ?_)
        refine ops_slc 7 rfl reads_ro (fun hs75 hs75o => ?_)
        refine ops_slc 8 rfl reads_ro (fun hs76 hs76o => ?_)
        refine ot rfl rfl (t_store 9 Try.sizeOf71 rfl rfl rfl rfl (by simp [Value.cells, boxP]) (allL_cons hs74o (allL_cons hs75o (allL_cons hs76o (allL_nil))))) ?_
        rintro _ _ ⟨rfl, rfl⟩
        refine ops_turn (retell 9 (g := box b73 [v70, v71, v72]) rfl rfl) ?_
        refine oy rfl rfl (y_assign rfl) ?_
        refine ops_nil ?_
        refine goes_code ?_
        refine run_seq ?_
        refine run_weak [(6, boxP b3 0), (8, .bool (decide (x_1.A = 0))), (11, boxP b73 0), (12, .bool r68.2)] [5, 6, 7, 8, 9] [box b3 [.slice none 0 0, .slice none 0 0, .slice none 0 0], ro v70 1 (r68.1.stack_.map (eInt .i64)), ro v71 1 (r68.1.slots_.map (eInt .i64)), ro v72 1 (r68.1.loops_.map (eInt .i64)), box b73 [v70, v71, v72]] (qv4 rfl rfl rfl rfl) (by decide) rfl ?_
        refine run_region' ?_
        refine oy rfl rfl (y_load_boxagg (c := [v70, v71, v72]) 4 Try.isAgg71 Try.sizeOf71 rfl rfl rfl) ?_
        refine oy rfl rfl (y_move rfl) ?_
        refine oy rfl rfl (y_move rfl) ?_
        refine ops_cut 2 (Bool) (fun σ => [(6, boxP b3 0), (83, .agg #[v70, v71, v72]), (87, .bool σ)]) (fun σ => [box b3 [.slice none 0 0, .slice none 0 0, .slice none 0 0], ro v70 1 (r68.1.stack_.map (eInt .i64)), ro v71 1 (r68.1.slots_.map (eInt .i64)), ro v72 1 (r68.1.loops_.map (eInt .i64))]) (fun σ => σ = (r68.2 && decide (x_1.A = 0))) (fun L77 hL78 => ?_) ?_
        ·refine ops_split 85 r68.2 rfl (fun hg79 => ?_) (fun hg79 => ?_)
         ·skip
          refine ops_y (wg 2 true 85 rfl rfl rfl rfl) rfl (y_move rfl) ?_
          refine oy rfl rfl (y_pick (b := true) rfl rfl) ?_
          refine ops_nil ?_
          exact goes_cut hL78 (decide (x_1.A = 0)) [0, 1, 2, 3] (qv3 rfl rfl rfl) (by decide) rfl (by rw [hg79]; simp)
         ·skip
          refine ops_no 2 true 85 rfl rfl rfl rfl rfl ?_
          refine oy rfl rfl (y_pick (b := false) rfl rfl) ?_
          refine ops_nil ?_
          exact goes_cut hL78 false [0, 1, 2, 3] (qv3 rfl rfl rfl) (by decide) rfl (by rw [hg79]; simp)
        rintro _ rfl
        refine ops_slc 1 rfl reads_ro (fun hs80 hs80o => ?_)
        refine ops_slc 2 rfl reads_ro (fun hs81 hs81o => ?_)
        refine ops_slc 3 rfl reads_ro (fun hs82 hs82o => ?_)
        refine ot rfl rfl (t_store 0 Try.sizeOf71 rfl rfl rfl rfl (by simp [Value.cells, boxP]) (allL_cons hs80o (allL_cons hs81o (allL_cons hs82o (allL_nil))))) ?_
        rintro _ _ ⟨rfl, rfl⟩
        refine ops_turn (retell 0 (g := box b3 [v70, v71, v72]) rfl rfl) ?_
        refine oy rfl rfl (y_assign rfl) ?_
        refine ops_nil ?_
        refine goes_code ?_
        refine run_ret ?_
        obtain rfl := some_eq h
        refine fin_res [.cell 6 71, .tmp 7] [.agg #[v70, v71, v72], .bool (r68.2 && decide (x_1.A = 0))] [1, 2, 3] [ro v70 1 (r68.1.stack_.map (eInt .i64)), ro v71 1 (r68.1.slots_.map (eInt .i64)), ro v72 1 (r68.1.loops_.map (eInt .i64))] Try.results32 rfl (rescons (res_box 0 Try.isAgg71 Try.sizeOf71 rfl rfl rfl) (rescons (res_tmp rfl) resnil)) (by decide) rfl ?_
        exact ⟨_, _, _, rfl, rfl⟩
       ·replace h := cond_f h hc67
        refine run_seq ?_
        refine run_region' ?_
        refine oy rfl rfl (y_eql rfl rfl) ?_
        refine oy rfl rfl (y_assign rfl) ?_
        refine ops_nil ?_
        refine goes_code ?_
        refine run_cond (decide (x_1.Op = 39)) rfl (fun hc83 => ?_) (fun hc83 => ?_)
        ·replace h := cond_t h hc83
         refine run_seq ?_
         refine run_region' ?_
         refine oy rfl rfl (y_fieldAddr_box (sz := 0) Try.runUnderlying71 rfl Try.sizeOf22 rfl) ?_
         refine oy rfl rfl (y_load_box 0 Try.isAgg22 rfl rfl rfl) ?_
         obtain ⟨r84, hr85, h⟩ := obind_some h
         refine ot rfl rfl (t_callx (vs := [t_0_loops_v]) (cs := []) [(3, 0)] rfl Try.call57 rfl (slices_Clone_int_int_57_ok  t_0.loops_ t_0_loops_v hr85) (showsX_view 3 rfl views_ro showsX_nil) rfl (.inl rfl)) ?_
         rintro v86 _ ⟨_, ⟨_, rfl, rfl⟩, rfl⟩
         refine oy rfl rfl (y_move rfl) ?_
         refine ot rfl rfl (t_lit [.int .i64 at_2] Try.runUnderlying22 Try.sizeOf3 Try.zeroValue3 rfl (by decide) (by decide) rfl (by simp [Value.cells, boxP])) ?_
         rintro v87 _ ⟨rfl, _⟩
         refine ops_turn (retell 7 (g := row v87 1 (([at_2] : List Int).map (eInt .i64))) rfl rfl) ?_
         obtain ⟨hr89, h⟩ := need_some h
         refine ot rfl rfl (t_append (es := 1) 6 rfl Try.runUnderlying22 rfl Try.runUnderlying22 (.inr ⟨_, rfl⟩) Try.typeInfo3 rfl (by decide) Try.zeroValue3 rfl rfl rfl rfl (src_reads 7 rfl reads_row (map_ok (eInt_ok _) _)) (map_room hr89 (by decide)) (map_fit hr89)) ?_
         rintro v88 _ rfl
         refine ops_turn (retell 6 (g := row v88 1 ((r84 ++ ([at_2] : List Int)).map (eInt .i64))) rfl (congrArg (row _ _) List.map_append.symm)) ?_
         refine oy rfl rfl (y_fieldAddr_box (sz := 0) Try.runUnderlying71 rfl Try.sizeOf22 rfl) ?_
         refine ops_slc 6 rfl reads_row (fun hs90 hs90o => ?_)
         refine ot rfl rfl (t_store 0 Try.sizeOf22 rfl rfl rfl (by rw [hs90]; rfl) (by simp [Value.cells, boxP]) (by rw [hs90]; exact allL_cons hs90o (allL_nil))) ?_
         rintro _ _ ⟨rfl, rfl⟩
         refine ops_turn (retell 0 (g := box b1 [t_0_stack_v, t_0_slots_v, v88]) rfl (by rw [hs90]; rfl)) ?_
         refine ops_nil ?_
         refine goes_code ?_
         refine run_seq ?_
         refine run_weak [(3, boxP b1 0), (4, boxP b2 0), (6, boxP b3 0)] [0, 1, 2, 4, 5, 6] [box b1 [t_0_stack_v, t_0_slots_v, v88], ro t_0_stack_v 1 (t_0.stack_.map (eInt .i64)), ro t_0_slots_v 1 (t_0.slots_.map (eInt .i64)), box b2 [.int .i64 x_1.Op, .int .i64 x_1.A, .string (bs x_1.S)], box b3 [.slice none 0 0, .slice none 0 0, .slice none 0 0], row v88 1 ((r84 ++ ([at_2] : List Int)).map (eInt .i64))] (qv3 rfl rfl rfl) (by decide) rfl ?_
         refine run_drawany [box b1 [t_0_stack_v, t_0_slots_v, v88], ro t_0_stack_v 1 (t_0.stack_.map (eInt .i64)), ro t_0_slots_v 1 (t_0.slots_.map (eInt .i64)), box b2 [.int .i64 x_1.Op, .int .i64 x_1.A, .string (bs x_1.S)], HA.emp, row v88 1 ((r84 ++ ([at_2] : List Int)).map (eInt .i64))] (by kernel_rfl) ?_
         refine any_y 0 rfl (by kernel_rfl) (by kernel_rfl) (by kernel_rfl) (ss (ss (ss (ss (se (ss (sn))))))) (wn rfl) rfl (y_load_boxagg (c := [t_0_stack_v, t_0_slots_v, v88]) 0 Try.isAgg71 Try.sizeOf71 rfl rfl rfl) ?_
         refine any_y 1 rfl (by kernel_rfl) (by kernel_rfl) (by kernel_rfl) (ss (ss (ss (ss (se (ss (sn))))))) (wn rfl) rfl (y_fieldAddr_box (sz := 0) Try.runUnderlying55 rfl Try.sizeOf3 rfl) ?_
         refine any_y 2 rfl (by kernel_rfl) (by kernel_rfl) (by kernel_rfl) (ss (ss (ss (ss (se (ss (sn))))))) (wn rfl) rfl (y_load_box 3 Try.isAgg3 rfl rfl rfl) ?_
         refine any_y 3 rfl (by kernel_rfl) (by kernel_rfl) (by kernel_rfl) (ss (ss (ss (ss (se (ss (sn))))))) (wn rfl) rfl (y_geq rfl rfl) ?_
         refine any_y 4 rfl (by kernel_rfl) (by kernel_rfl) (by kernel_rfl) (ss (ss (ss (ss (se (ss (sn))))))) (wn rfl) rfl (y_move rfl) ?_
         refine any_cut #[true, true, true, true, true, true, true, true, true, false, false] 2 Bool (fun σ => [(6, boxP b3 0), (97, .agg #[t_0_stack_v, t_0_slots_v, v88]), (105, .bool σ)]) (fun σ => [box b1 [t_0_stack_v, t_0_slots_v, v88], ro t_0_stack_v 1 (t_0.stack_.map (eInt .i64)), ro t_0_slots_v 1 (t_0.slots_.map (eInt .i64)), box b2 [.int .i64 x_1.Op, .int .i64 x_1.A, .string (bs x_1.S)], box b3 [.slice none 0 0, .slice none 0 0, .slice none 0 0], row v88 1 ((r84 ++ ([at_2] : List Int)).map (eInt .i64))]) (fun σ => σ = (decide (0 ≤ x_1.A) && decide (x_1.A ≤ 1000))) (fun hL92 => ?_) ?_
         ·refine any_split 101 (decide (0 ≤ x_1.A)) rfl (fun hg93 => ?_) (fun hg93 => ?_)
          ·skip
           refine any_y 5 rfl (by kernel_rfl) (by kernel_rfl) (by kernel_rfl) (ss (ss (ss (ss (se (ss (sn))))))) (wg 4 true 101 rfl rfl rfl rfl) rfl (y_fieldAddr_box (sz := 0) Try.runUnderlying55 rfl Try.sizeOf3 rfl) ?_
           refine any_y 6 rfl (by kernel_rfl) (by kernel_rfl) (by kernel_rfl) (ss (ss (ss (ss (se (ss (sn))))))) (wg 4 true 101 rfl rfl rfl rfl) rfl (y_load_box 3 Try.isAgg3 rfl rfl rfl) ?_
           refine any_y 7 rfl (by kernel_rfl) (by kernel_rfl) (by kernel_rfl) (ss (ss (ss (ss (se (ss (sn))))))) (wg 4 true 101 rfl rfl rfl rfl) rfl (y_leq rfl rfl) ?_
           refine any_y 8 rfl (by kernel_rfl) (by kernel_rfl) (by kernel_rfl) (ss (ss (ss (ss (se (ss (sn))))))) (wn rfl) rfl (y_pick (b := true) rfl rfl) ?_
           exact any_weak [(6, boxP b3 0), (97, .agg #[t_0_stack_v, t_0_slots_v, v88]), (105, .bool (decide (x_1.A ≤ 1000)))] [0, 1, 2, 3, 4, 5] [box b1 [t_0_stack_v, t_0_slots_v, v88], ro t_0_stack_v 1 (t_0.stack_.map (eInt .i64)), ro t_0_slots_v 1 (t_0.slots_.map (eInt .i64)), box b2 [.int .i64 x_1.Op, .int .i64 x_1.A, .string (bs x_1.S)], box b3 [.slice none 0 0, .slice none 0 0, .slice none 0 0], row v88 1 ((r84 ++ ([at_2] : List Int)).map (eInt .i64))] (by kernel_rfl) (qv3 rfl rfl rfl) (by decide) rfl (hL92 (decide (x_1.A ≤ 1000)) (by rw [hg93]; simp))
          ·skip
           refine any_no 5 rfl (by kernel_rfl) (by kernel_rfl) (by kernel_rfl) (ss (ss (ss (ss (se (ss (sn))))))) 4 true 101 rfl rfl rfl rfl rfl ?_
           refine any_no 6 rfl (by kernel_rfl) (by kernel_rfl) (by kernel_rfl) (ss (ss (ss (ss (se (ss (sn))))))) 4 true 101 rfl rfl rfl rfl rfl ?_
           refine any_no 7 rfl (by kernel_rfl) (by kernel_rfl) (by kernel_rfl) (ss (ss (ss (ss (se (ss (sn))))))) 4 true 101 rfl rfl rfl rfl rfl ?_
           refine any_y 8 rfl (by kernel_rfl) (by kernel_rfl) (by kernel_rfl) (ss (ss (ss (ss (se (ss (sn))))))) (wn rfl) rfl (y_pick (b := false) rfl rfl) ?_
           exact any_weak [(6, boxP b3 0), (97, .agg #[t_0_stack_v, t_0_slots_v, v88]), (105, .bool false)] [0, 1, 2, 3, 4, 5] [box b1 [t_0_stack_v, t_0_slots_v, v88], ro t_0_stack_v 1 (t_0.stack_.map (eInt .i64)), ro t_0_slots_v 1 (t_0.slots_.map (eInt .i64)), box b2 [.int .i64 x_1.Op, .int .i64 x_1.A, .string (bs x_1.S)], box b3 [.slice none 0 0, .slice none 0 0, .slice none 0 0], row v88 1 ((r84 ++ ([at_2] : List Int)).map (eInt .i64))] (by kernel_rfl) (qv3 rfl rfl rfl) (by decide) rfl (hL92 false (by rw [hg93]; simp))
         rintro _ rfl
         refine any_all [9] (by kernel_rfl) rfl (anyo_cons ?_ anyo_nil)
         refine anyo_slc 1 rfl reads_ro (fun hs94 hs94o => ?_)
         refine anyo_slc 2 rfl reads_ro (fun hs95 hs95o => ?_)
         refine anyo_slc 5 rfl reads_row (fun hs96 hs96o => ?_)
         refine any_t rfl (wn rfl) rfl (t_store 4 Try.sizeOf71 rfl rfl rfl rfl (by simp [Value.cells, boxP]) (allL_cons hs94o (allL_cons hs95o (allL_cons hs96o (allL_nil))))) ?_
         rintro _ _ ⟨rfl, rfl⟩
         refine ⟨(ss (ss (ss (ss (se (ss (sn))))))), ?_⟩
         refine any_turn (retell 4 (g := box b3 [t_0_stack_v, t_0_slots_v, v88]) rfl rfl) ?_
         refine any_y 10 rfl (by kernel_rfl) (by kernel_rfl) (by kernel_rfl) (ss (ss (ss (ss (se (ss (sn))))))) (wn rfl) rfl (y_assign rfl) ?_
         refine any_nil (by kernel_rfl) ?_
         refine goes_code ?_
         refine run_ret ?_
         refine fin_turn (Go.Abs.freeze 5 rfl) ?_
         obtain rfl := some_eq h
         refine fin_res [.cell 6 71, .tmp 7] [.agg #[t_0_stack_v, t_0_slots_v, v88], .bool (decide (0 ≤ x_1.A) && decide (x_1.A ≤ 1000))] [1, 2, 5] [ro t_0_stack_v 1 (t_0.stack_.map (eInt .i64)), ro t_0_slots_v 1 (t_0.slots_.map (eInt .i64)), ro v88 1 ((r84 ++ ([at_2] : List Int)).map (eInt .i64))] Try.results32 rfl (rescons (res_box 4 Try.isAgg71 Try.sizeOf71 rfl rfl rfl) (rescons (res_tmp rfl) resnil)) (by decide) rfl ?_
         exact ⟨_, _, _, rfl, rfl⟩
        ·replace h := cond_f h hc83
         refine run_seq ?_
         refine run_region' ?_
         refine oy rfl rfl (y_eql rfl rfl) ?_
         refine oy rfl rfl (y_assign rfl) ?_
         refine ops_nil ?_
         refine goes_code ?_
         refine run_cond (decide (x_1.Op = 40)) rfl (fun hc97 => ?_) (fun hc97 => ?_)
         ·replace h := cond_t h hc97
          refine run_seq ?_
          refine run_drawany [box b1 [t_0_stack_v, t_0_slots_v, t_0_loops_v], ro t_0_stack_v 1 (t_0.stack_.map (eInt .i64)), ro t_0_slots_v 1 (t_0.slots_.map (eInt .i64)), ro t_0_loops_v 1 (t_0.loops_.map (eInt .i64)), box b2 [.int .i64 x_1.Op, .int .i64 x_1.A, .string (bs x_1.S)], HA.emp] (by kernel_rfl) ?_
          refine any_y 0 rfl (by kernel_rfl) (by kernel_rfl) (by kernel_rfl) (ss (ss (ss (ss (ss (se (sn))))))) (wn rfl) rfl (y_load_boxagg (c := [t_0_stack_v, t_0_slots_v, t_0_loops_v]) 0 Try.isAgg71 Try.sizeOf71 rfl rfl rfl) ?_
          refine any_y 1 rfl (by kernel_rfl) (by kernel_rfl) (by kernel_rfl) (ss (ss (ss (ss (ss (se (sn))))))) (wn rfl) rfl (y_fieldAddr_box (sz := 0) Try.runUnderlying71 rfl Try.sizeOf22 rfl) ?_
          refine any_y 2 rfl (by kernel_rfl) (by kernel_rfl) (by kernel_rfl) (ss (ss (ss (ss (ss (se (sn))))))) (wn rfl) rfl (y_load_box 0 Try.isAgg22 rfl rfl rfl) ?_
          refine any_y 3 rfl (by kernel_rfl) (by kernel_rfl) (by kernel_rfl) (ss (ss (ss (ss (ss (se (sn))))))) (wn rfl) rfl ((y_len 3 rfl Try.runUnderlying22 rfl rfl reads_ro).to (v_len (eInt .i64) _)) ?_
          refine any_y 4 rfl (by kernel_rfl) (by kernel_rfl) (by kernel_rfl) (ss (ss (ss (ss (ss (se (sn))))))) (wn rfl) rfl (y_gtr rfl rfl) ?_
          refine any_all [5] (by kernel_rfl) rfl (anyo_cons ?_ anyo_nil)
          refine anyo_slc 1 rfl reads_ro (fun hs98 hs98o => ?_)
          refine anyo_slc 2 rfl reads_ro (fun hs99 hs99o => ?_)
          refine anyo_slc 3 rfl reads_ro (fun hs100 hs100o => ?_)
          refine any_t rfl (wn rfl) rfl (t_store 5 Try.sizeOf71 rfl rfl rfl rfl (by simp [Value.cells, boxP]) (allL_cons hs98o (allL_cons hs99o (allL_cons hs100o (allL_nil))))) ?_
          rintro _ _ ⟨rfl, rfl⟩
          refine ⟨(ss (ss (ss (ss (ss (se (sn))))))), ?_⟩
          refine any_turn (retell 5 (g := box b3 [t_0_stack_v, t_0_slots_v, t_0_loops_v]) rfl rfl) ?_
          refine any_y 6 rfl (by kernel_rfl) (by kernel_rfl) (by kernel_rfl) (ss (ss (ss (ss (ss (se (sn))))))) (wn rfl) rfl (y_assign rfl) ?_
          refine any_nil (by kernel_rfl) ?_
          refine goes_code ?_
          refine run_ret ?_
          obtain rfl := some_eq h
          refine fin_res [.cell 6 71, .tmp 7] [.agg #[t_0_stack_v, t_0_slots_v, t_0_loops_v], .bool (decide (0 < (t_0.loops_.length : Int)))] [1, 2, 3] [ro t_0_stack_v 1 (t_0.stack_.map (eInt .i64)), ro t_0_slots_v 1 (t_0.slots_.map (eInt .i64)), ro t_0_loops_v 1 (t_0.loops_.map (eInt .i64))] Try.results32 rfl (rescons (res_box 5 Try.isAgg71 Try.sizeOf71 rfl rfl rfl) (rescons (res_tmp rfl) resnil)) (by decide) rfl ?_
          exact ⟨_, _, _, rfl, rfl⟩
         ·replace h := cond_f h hc97
          refine run_seq ?_
          refine run_region' ?_
          refine oy rfl rfl (y_eql rfl rfl) ?_
          refine oy rfl rfl (y_assign rfl) ?_
          refine ops_nil ?_
          refine goes_code ?_
          refine run_cond (decide (x_1.Op = 41)) rfl (fun hc101 => ?_) (fun hc101 => ?_)
          ·replace h := cond_t h hc101
           refine run_seq ?_
           refine run_seq ?_
           refine run_region' ?_
           refine oy rfl rfl (y_fieldAddr_box (sz := 0) Try.runUnderlying55 rfl Try.sizeOf3 rfl) ?_
           refine oy rfl rfl (y_load_box 4 Try.isAgg3 rfl rfl rfl) ?_
           refine oy rfl rfl (y_lss rfl rfl) ?_
           refine oy rfl rfl (y_move rfl) ?_
           refine ops_cut 7 (Bool) (fun σ => [(3, boxP b1 0), (4, boxP b2 0), (6, boxP b3 0), (125, .bool σ)]) (fun σ => [box b1 [t_0_stack_v, t_0_slots_v, t_0_loops_v], ro t_0_stack_v 1 (t_0.stack_.map (eInt .i64)), ro t_0_slots_v 1 (t_0.slots_.map (eInt .i64)), ro t_0_loops_v 1 (t_0.loops_.map (eInt .i64)), box b2 [.int .i64 x_1.Op, .int .i64 x_1.A, .string (bs x_1.S)], box b3 [.slice none 0 0, .slice none 0 0, .slice none 0 0]]) (fun σ => σ = (decide (x_1.A < 0) || decide ((t_0.slots_.length : Int) < x_1.A))) (fun L102 hL103 => ?_) ?_
           ·refine ops_split 118 (decide (x_1.A < 0)) rfl (fun hg104 => ?_) (fun hg104 => ?_)
            ·skip
             refine ops_no 3 false 118 rfl rfl rfl rfl rfl ?_
             refine ops_no 3 false 118 rfl rfl rfl rfl rfl ?_
             refine ops_no 3 false 118 rfl rfl rfl rfl rfl ?_
             refine ops_no 3 false 118 rfl rfl rfl rfl rfl ?_
             refine ops_no 3 false 118 rfl rfl rfl rfl rfl ?_
             refine ops_weak [(3, boxP b1 0), (4, boxP b2 0), (6, boxP b3 0), (118, .bool true), (120, undef), (123, undef)] [0, 1, 2, 3, 4, 5] [box b1 [t_0_stack_v, t_0_slots_v, t_0_loops_v], ro t_0_stack_v 1 (t_0.stack_.map (eInt .i64)), ro t_0_slots_v 1 (t_0.slots_.map (eInt .i64)), ro t_0_loops_v 1 (t_0.loops_.map (eInt .i64)), box b2 [.int .i64 x_1.Op, .int .i64 x_1.A, .string (bs x_1.S)], box b3 [.slice none 0 0, .slice none 0 0, .slice none 0 0]] (qv6 rfl rfl rfl rfl rfl rfl) (by decide) rfl ?_
             refine ops_no 3 false 118 rfl rfl rfl rfl rfl ?_
             refine oy rfl rfl (y_pick (b := true) rfl rfl) ?_
             refine ops_nil ?_
             exact goes_cut hL103 true [0, 1, 2, 3, 4, 5] (qv4 rfl rfl rfl rfl) (by decide) rfl (by rw [hg104]; simp)
            ·skip
             refine ops_y (wg 3 false 118 rfl rfl rfl rfl) rfl (y_fieldAddr_box (sz := 0) Try.runUnderlying55 rfl Try.sizeOf3 rfl) ?_
             refine ops_y (wg 3 false 118 rfl rfl rfl rfl) rfl (y_load_box 4 Try.isAgg3 rfl rfl rfl) ?_
             refine ops_y (wg 3 false 118 rfl rfl rfl rfl) rfl (y_fieldAddr_box (sz := 0) Try.runUnderlying71 rfl Try.sizeOf22 rfl) ?_
             refine ops_y (wg 3 false 118 rfl rfl rfl rfl) rfl (y_load_box 0 Try.isAgg22 rfl rfl rfl) ?_
             refine ops_y (wg 3 false 118 rfl rfl rfl rfl) rfl ((y_len 2 rfl Try.runUnderlying22 rfl rfl reads_ro).to (v_len (eInt .i64) _)) ?_
             refine ops_weak [(3, boxP b1 0), (4, boxP b2 0), (6, boxP b3 0), (118, .bool false), (120, .int .i64 x_1.A), (123, .int .i64 (t_0.slots_.length : Int))] [0, 1, 2, 3, 4, 5] [box b1 [t_0_stack_v, t_0_slots_v, t_0_loops_v], ro t_0_stack_v 1 (t_0.stack_.map (eInt .i64)), ro t_0_slots_v 1 (t_0.slots_.map (eInt .i64)), ro t_0_loops_v 1 (t_0.loops_.map (eInt .i64)), box b2 [.int .i64 x_1.Op, .int .i64 x_1.A, .string (bs x_1.S)], box b3 [.slice none 0 0, .slice none 0 0, .slice none 0 0]] (qv6 rfl rfl rfl rfl rfl rfl) (by decide) rfl ?_
             refine ops_y (wg 3 false 118 rfl rfl rfl rfl) rfl (y_gtr rfl rfl) ?_
             refine oy rfl rfl (y_pick (b := false) rfl rfl) ?_
             refine ops_nil ?_
             exact goes_cut hL103 (decide ((t_0.slots_.length : Int) < x_1.A)) [0, 1, 2, 3, 4, 5] (qv4 rfl rfl rfl rfl) (by decide) rfl (by rw [hg104]; simp)
           rintro _ rfl
           refine ops_nil ?_
           refine goes_code ?_
           refine run_cond (decide (x_1.A < 0) || decide ((t_0.slots_.length : Int) < x_1.A)) rfl (fun hc105 => ?_) (fun hc105 => ?_)
           ·replace h := cond_t h hc105
            refine run_seq ?_
            refine run_region' ?_
            refine oy rfl rfl (y_load_boxagg (c := [t_0_stack_v, t_0_slots_v, t_0_loops_v]) 0 Try.isAgg71 Try.sizeOf71 rfl rfl rfl) ?_
            refine ops_slc 1 rfl reads_ro (fun hs106 hs106o => ?_)
            refine ops_slc 2 rfl reads_ro (fun hs107 hs107o => ?_)
            refine ops_slc 3 rfl reads_ro (fun hs108 hs108o => ?_)
            refine ot rfl rfl (t_store 5 Try.sizeOf71 rfl rfl rfl rfl (by simp [Value.cells, boxP]) (allL_cons hs106o (allL_cons hs107o (allL_cons hs108o (allL_nil))))) ?_
            rintro _ _ ⟨rfl, rfl⟩
            refine ops_turn (retell 5 (g := box b3 [t_0_stack_v, t_0_slots_v, t_0_loops_v]) rfl rfl) ?_
            refine oy rfl rfl (y_assign rfl) ?_
            refine ops_nil ?_
            refine goes_code ?_
            refine run_ret ?_
            obtain rfl := some_eq h
            refine fin_res [.cell 6 71, .tmp 7] [.agg #[t_0_stack_v, t_0_slots_v, t_0_loops_v], .bool false] [1, 2, 3] [ro t_0_stack_v 1 (t_0.stack_.map (eInt .i64)), ro t_0_slots_v 1 (t_0.slots_.map (eInt .i64)), ro t_0_loops_v 1 (t_0.loops_.map (eInt .i64))] Try.results32 rfl (rescons (res_box 5 Try.isAgg71 Try.sizeOf71 rfl rfl rfl) (rescons (res_tmp rfl) resnil)) (by decide) rfl ?_
            exact ⟨_, _, _, rfl, rfl⟩
           ·replace h := cond_f h hc105
            refine run_skip ?_
            refine goes_code ?_
            refine run_seq ?_
            refine run_region' ?_
            refine oy rfl rfl (y_fieldAddr_box (sz := 0) Try.runUnderlying71 rfl Try.sizeOf22 rfl) ?_
            refine oy rfl rfl (y_load_box 0 Try.isAgg22 rfl rfl rfl) ?_
            refine oy rfl rfl (y_fieldAddr_box (sz := 0) Try.runUnderlying55 rfl Try.sizeOf3 rfl) ?_
            refine oy rfl rfl (y_load_box 4 Try.isAgg3 rfl rfl rfl) ?_
            obtain ⟨hb109, h⟩ := need_some h
            refine oy rfl rfl (y_slice (l := 0) (r := x_1.A) 2 Try.runUnderlying22 Try.sizeOf3 rfl rfl reads_ro bi0 (bi1 (kd := .i64) rfl) hb109.1 hb109.2.1 (map_len_le hb109.2.2)) ?_
            refine ops_turn (turn_sub (l := (0 : Int).toNat) (r := (x_1.A).toNat) 2 rfl (by first | omega | exact Int.toNat_le_toNat hb109.2.1) (map_toNat_le hb109.2.2)) ?_
            refine ops_turn (retell 6 (g := ro (subS t_0_slots_v 1 ((0 : Int).toNat) ((x_1.A).toNat)) 1 ((t_0.slots_.take ((x_1.A).toNat)).map (eInt .i64))) rfl (congrArg (ro _ _) (sub_hi _ _ _))) ?_
            refine oy rfl rfl (y_fieldAddr_box (sz := 0) Try.runUnderlying71 rfl Try.sizeOf22 rfl) ?_
            refine ops_slc 6 rfl reads_ro (fun hs110 hs110o => ?_)
            refine ot rfl rfl (t_store 0 Try.sizeOf22 rfl rfl rfl (by rw [hs110]; rfl) (by simp [Value.cells, boxP]) (by rw [hs110]; exact allL_cons hs110o (allL_nil))) ?_
            rintro _ _ ⟨rfl, rfl⟩
            refine ops_turn (retell 0 (g := box b1 [t_0_stack_v, (subS t_0_slots_v 1 ((0 : Int).toNat) ((x_1.A).toNat)), t_0_loops_v]) rfl (by rw [hs110]; rfl)) ?_
            refine ops_nil ?_
            refine goes_code ?_
            refine run_seq ?_
            refine run_region' ?_
            refine oy rfl rfl (y_load_boxagg (c := [t_0_stack_v, (subS t_0_slots_v 1 ((0 : Int).toNat) ((x_1.A).toNat)), t_0_loops_v]) 0 Try.isAgg71 Try.sizeOf71 rfl rfl rfl) ?_
            refine ops_slc 1 rfl reads_ro (fun hs111 hs111o => ?_)
            refine ops_slc 6 rfl reads_ro (fun hs112 hs112o => ?_)
            refine ops_slc 3 rfl reads_ro (fun hs113 hs113o => ?_)
            refine ot rfl rfl (t_store 5 Try.sizeOf71 rfl rfl rfl rfl (by simp [Value.cells, boxP]) (allL_cons hs111o (allL_cons hs112o (allL_cons hs113o (allL_nil))))) ?_
            rintro _ _ ⟨rfl, rfl⟩
            refine ops_turn (retell 5 (g := box b3 [t_0_stack_v, (subS t_0_slots_v 1 ((0 : Int).toNat) ((x_1.A).toNat)), t_0_loops_v]) rfl rfl) ?_
            refine oy rfl rfl (y_assign rfl) ?_
            refine ops_nil ?_
            refine goes_code ?_
            refine run_ret ?_
            obtain rfl := some_eq h
            refine fin_res [.cell 6 71, .tmp 7] [.agg #[t_0_stack_v, (subS t_0_slots_v 1 ((0 : Int).toNat) ((x_1.A).toNat)), t_0_loops_v], .bool true] [1, 6, 3] [ro t_0_stack_v 1 (t_0.stack_.map (eInt .i64)), ro (subS t_0_slots_v 1 ((0 : Int).toNat) ((x_1.A).toNat)) 1 ((t_0.slots_.take ((x_1.A).toNat)).map (eInt .i64)), ro t_0_loops_v 1 (t_0.loops_.map (eInt .i64))] Try.results32 rfl (rescons (res_box 5 Try.isAgg71 Try.sizeOf71 rfl rfl rfl) (rescons (res_tmp rfl) resnil)) (by decide) rfl ?_
            exact ⟨_, _, _, rfl, rfl⟩
          ·replace h := cond_f h hc101
           refine run_seq ?_
           refine run_region' ?_
           refine oy rfl rfl (y_eql rfl rfl) ?_
           refine oy rfl rfl (y_assign rfl) ?_
           refine ops_nil ?_
           refine goes_code ?_
           refine run_cond (decide (x_1.Op = 31)) rfl (fun hc114 => ?_) (fun hc114 => ?_)
           ·replace h := cond_t h hc114
            refine run_seq ?_
            refine run_weak [(3, boxP b1 0), (4, boxP b2 0), (6, boxP b3 0)] [0, 1, 2, 3, 4, 5] [box b1 [t_0_stack_v, t_0_slots_v, t_0_loops_v], ro t_0_stack_v 1 (t_0.stack_.map (eInt .i64)), ro t_0_slots_v 1 (t_0.slots_.map (eInt .i64)), ro t_0_loops_v 1 (t_0.loops_.map (eInt .i64)), box b2 [.int .i64 x_1.Op, .int .i64 x_1.A, .string (bs x_1.S)], box b3 [.slice none 0 0, .slice none 0 0, .slice none 0 0]] (qv3 rfl rfl rfl) (by decide) rfl ?_
            refine run_region' ?_
            refine oy rfl rfl (y_fieldAddr_box (sz := 0) Try.runUnderlying71 rfl Try.sizeOf22 rfl) ?_
            refine oy rfl rfl (y_load_box 0 Try.isAgg22 rfl rfl rfl) ?_
            refine oy rfl rfl ((y_len 1 rfl Try.runUnderlying22 rfl rfl reads_ro).to (v_len (eInt .i64) _)) ?_
            refine oy rfl rfl (y_sub rfl rfl) ?_
            refine oy rfl rfl (y_assign rfl) ?_
            refine ops_nil ?_
            refine goes_code ?_
            refine run_seq ?_
            refine run_seq ?_
            refine run_region' ?_
            refine oy rfl rfl (y_move rfl) ?_
            refine oy rfl rfl (y_lss rfl rfl) ?_
            refine oy rfl rfl (y_move rfl) ?_
            refine ops_cut 4 (Bool) (fun σ => [(3, boxP b1 0), (4, boxP b2 0), (6, boxP b3 0), (13, .int .i64 (IntKind.i64.wrap ((t_0.stack_.length : Int) - 1))), (146, .bool σ)]) (fun σ => [box b1 [t_0_stack_v, t_0_slots_v, t_0_loops_v], ro t_0_stack_v 1 (t_0.stack_.map (eInt .i64)), ro t_0_slots_v 1 (t_0.slots_.map (eInt .i64)), ro t_0_loops_v 1 (t_0.loops_.map (eInt .i64)), box b2 [.int .i64 x_1.Op, .int .i64 x_1.A, .string (bs x_1.S)], box b3 [.slice none 0 0, .slice none 0 0, .slice none 0 0]]) (fun σ => σ = (decide ((IntKind.i64.wrap ((t_0.stack_.length : Int) - 1)) < 0) || decide (x_1.A < 0))) (fun L115 hL116 => ?_) ?_
            ·refine ops_split 142 (decide ((IntKind.i64.wrap ((t_0.stack_.length : Int) - 1)) < 0)) rfl (fun hg117 => ?_) (fun hg117 => ?_)
             ·skip
              refine ops_no 2 false 142 rfl rfl rfl rfl rfl ?_
              refine ops_no 2 false 142 rfl rfl rfl rfl rfl ?_
              refine ops_no 2 false 142 rfl rfl rfl rfl rfl ?_
              refine oy rfl rfl (y_pick (b := true) rfl rfl) ?_
              refine ops_nil ?_
              exact goes_cut hL116 true [0, 1, 2, 3, 4, 5] (qv5 rfl rfl rfl rfl rfl) (by decide) rfl (by rw [hg117]; simp)
             ·skip
              refine ops_y (wg 2 false 142 rfl rfl rfl rfl) rfl (y_fieldAddr_box (sz := 0) Try.runUnderlying55 rfl Try.sizeOf3 rfl) ?_
              refine ops_y (wg 2 false 142 rfl rfl rfl rfl) rfl (y_load_box 4 Try.isAgg3 rfl rfl rfl) ?_
              refine ops_y (wg 2 false 142 rfl rfl rfl rfl) rfl (y_lss rfl rfl) ?_
              refine oy rfl rfl (y_pick (b := false) rfl rfl) ?_
              refine ops_nil ?_
              exact goes_cut hL116 (decide (x_1.A < 0)) [0, 1, 2, 3, 4, 5] (qv5 rfl rfl rfl rfl rfl) (by decide) rfl (by rw [hg117]; simp)
            rintro _ rfl
            refine oy rfl rfl (y_move rfl) ?_
            refine ops_cut 7 (Bool) (fun σ => [(3, boxP b1 0), (4, boxP b2 0), (6, boxP b3 0), (13, .int .i64 (IntKind.i64.wrap ((t_0.stack_.length : Int) - 1))), (154, .bool σ)]) (fun σ => [box b1 [t_0_stack_v, t_0_slots_v, t_0_loops_v], ro t_0_stack_v 1 (t_0.stack_.map (eInt .i64)), ro t_0_slots_v 1 (t_0.slots_.map (eInt .i64)), ro t_0_loops_v 1 (t_0.loops_.map (eInt .i64)), box b2 [.int .i64 x_1.Op, .int .i64 x_1.A, .string (bs x_1.S)], box b3 [.slice none 0 0, .slice none 0 0, .slice none 0 0]]) (fun σ => σ = ((decide ((IntKind.i64.wrap ((t_0.stack_.length : Int) - 1)) < 0) || decide (x_1.A < 0)) || decide ((t_0.slots_.length : Int) < x_1.A))) (fun L118 hL119 => ?_) ?_
            ·refine ops_split 147 (decide ((IntKind.i64.wrap ((t_0.stack_.length : Int) - 1)) < 0) || decide (x_1.A < 0)) rfl (fun hg120 => ?_) (fun hg120 => ?_)
             ·skip
              refine ops_no 7 false 147 rfl rfl rfl rfl rfl ?_
              refine ops_no 7 false 147 rfl rfl rfl rfl rfl ?_
              refine ops_no 7 false 147 rfl rfl rfl rfl rfl ?_
              refine ops_no 7 false 147 rfl rfl rfl rfl rfl ?_
              refine ops_no 7 false 147 rfl rfl rfl rfl rfl ?_
              refine ops_no 7 false 147 rfl rfl rfl rfl rfl ?_
              refine oy rfl rfl (y_pick (b := true) rfl rfl) ?_
              refine ops_nil ?_
              exact goes_cut hL119 true [0, 1, 2, 3, 4, 5] (qv5 rfl rfl rfl rfl rfl) (by decide) rfl (by rw [hg120]; simp)
             ·skip
              refine ops_y (wg 7 false 147 rfl rfl rfl rfl) rfl (y_fieldAddr_box (sz := 0) Try.runUnderlying55 rfl Try.sizeOf3 rfl) ?_
              refine ops_y (wg 7 false 147 rfl rfl rfl rfl) rfl (y_load_box 4 Try.isAgg3 rfl rfl rfl) ?_
              refine ops_y (wg 7 false 147 rfl rfl rfl rfl) rfl (y_fieldAddr_box (sz := 0) Try.runUnderlying71 rfl Try.sizeOf22 rfl) ?_
              refine ops_y (wg 7 false 147 rfl rfl rfl rfl) rfl (y_load_box 0 Try.isAgg22 rfl rfl rfl) ?_
              refine ops_y (wg 7 false 147 rfl rfl rfl rfl) rfl ((y_len 2 rfl Try.runUnderlying22 rfl rfl reads_ro).to (v_len (eInt .i64) _)) ?_
              refine ops_y (wg 7 false 147 rfl rfl rfl rfl) rfl (y_gtr rfl rfl) ?_
              refine oy rfl rfl (y_pick (b := false) rfl rfl) ?_
              refine ops_nil ?_
              exact goes_cut hL119 (decide ((t_0.slots_.length : Int) < x_1.A)) [0, 1, 2, 3, 4, 5] (qv5 rfl rfl rfl rfl rfl) (by decide) rfl (by rw [hg120]; simp)
            rintro _ rfl
            refine oy rfl rfl (y_move rfl) ?_
            refine ops_cut 4 (Bool) (fun σ => [(3, boxP b1 0), (4, boxP b2 0), (6, boxP b3 0), (13, .int .i64 (IntKind.i64.wrap ((t_0.stack_.length : Int) - 1))), (159, .bool σ)]) (fun σ => [box b1 [t_0_stack_v, t_0_slots_v, t_0_loops_v], ro t_0_stack_v 1 (t_0.stack_.map (eInt .i64)), ro t_0_slots_v 1 (t_0.slots_.map (eInt .i64)), ro t_0_loops_v 1 (t_0.loops_.map (eInt .i64)), box b2 [.int .i64 x_1.Op, .int .i64 x_1.A, .string (bs x_1.S)], box b3 [.slice none 0 0, .slice none 0 0, .slice none 0 0]]) (fun σ => σ = (((decide ((IntKind.i64.wrap ((t_0.stack_.length : Int) - 1)) < 0) || decide (x_1.A < 0)) || decide ((t_0.slots_.length : Int) < x_1.A)) || decide (200 ≤ x_1.A))) (fun L121 hL122 => ?_) ?_
            ·refine ops_split 155 ((decide ((IntKind.i64.wrap ((t_0.stack_.length : Int) - 1)) < 0) || decide (x_1.A < 0)) || decide ((t_0.slots_.length : Int) < x_1.A)) rfl (fun hg123 => ?_) (fun hg123 => ?_)
             ·skip
              refine ops_no 15 false 155 rfl rfl rfl rfl rfl ?_
              refine ops_no 15 false 155 rfl rfl rfl rfl rfl ?_
              refine ops_no 15 false 155 rfl rfl rfl rfl rfl ?_
              refine oy rfl rfl (y_pick (b := true) rfl rfl) ?_
              refine ops_nil ?_
              exact goes_cut hL122 true [0, 1, 2, 3, 4, 5] (qv5 rfl rfl rfl rfl rfl) (by decide) rfl (by rw [hg123]; simp)
             ·skip
              refine ops_y (wg 15 false 155 rfl rfl rfl rfl) rfl (y_fieldAddr_box (sz := 0) Try.runUnderlying55 rfl Try.sizeOf3 rfl) ?_
              refine ops_y (wg 15 false 155 rfl rfl rfl rfl) rfl (y_load_box 4 Try.isAgg3 rfl rfl rfl) ?_
              refine ops_y (wg 15 false 155 rfl rfl rfl rfl) rfl (y_geq rfl rfl) ?_
              refine oy rfl rfl (y_pick (b := false) rfl rfl) ?_
              refine ops_nil ?_
              exact goes_cut hL122 (decide (200 ≤ x_1.A)) [0, 1, 2, 3, 4, 5] (qv5 rfl rfl rfl rfl rfl) (by decide) rfl (by rw [hg123]; simp)
            rintro _ rfl
            refine ops_nil ?_
            refine goes_code ?_
            refine run_cond (((decide ((IntKind.i64.wrap ((t_0.stack_.length : Int) - 1)) < 0) || decide (x_1.A < 0)) || decide ((t_0.slots_.length : Int) < x_1.A)) || decide (200 ≤ x_1.A)) rfl (fun hc124 => ?_) (fun hc124 => ?_)
            ·replace h := cond_t h hc124
             refine run_seq ?_
             refine run_region' ?_
             refine oy rfl rfl (y_load_boxagg (c := [t_0_stack_v, t_0_slots_v, t_0_loops_v]) 0 Try.isAgg71 Try.sizeOf71 rfl rfl rfl) ?_
             refine ops_slc 1 rfl reads_ro (fun hs125 hs125o => ?_)
             refine ops_slc 2 rfl reads_ro (fun hs126 hs126o => ?_)
             refine ops_slc 3 rfl reads_ro (fun hs127 hs127o => ?_)
             refine ot rfl rfl (t_store 5 Try.sizeOf71 rfl rfl rfl rfl (by simp [Value.cells, boxP]) (allL_cons hs125o (allL_cons hs126o (allL_cons hs127o (allL_nil))))) ?_
             rintro _ _ ⟨rfl, rfl⟩
             refine ops_turn (retell 5 (g := box b3 [t_0_stack_v, t_0_slots_v, t_0_loops_v]) rfl rfl) ?_
             refine oy rfl rfl (y_assign rfl) ?_
             refine ops_nil ?_
             refine goes_code ?_
             refine run_ret ?_
             obtain rfl := some_eq h
             refine fin_res [.cell 6 71, .tmp 7] [.agg #[t_0_stack_v, t_0_slots_v, t_0_loops_v], .bool false] [1, 2, 3] [ro t_0_stack_v 1 (t_0.stack_.map (eInt .i64)), ro t_0_slots_v 1 (t_0.slots_.map (eInt .i64)), ro t_0_loops_v 1 (t_0.loops_.map (eInt .i64))] Try.results32 rfl (rescons (res_box 5 Try.isAgg71 Try.sizeOf71 rfl rfl rfl) (rescons (res_tmp rfl) resnil)) (by decide) rfl ?_
             exact ⟨_, _, _, rfl, rfl⟩
            ·replace h := cond_f h hc124
             refine run_skip ?_
             refine goes_code ?_
             refine run_seq ?_
             refine run_region' ?_
             refine oy rfl rfl (y_fieldAddr_box (sz := 0) Try.runUnderlying71 rfl Try.sizeOf22 rfl) ?_
             refine oy rfl rfl (y_load_box 0 Try.isAgg22 rfl rfl rfl) ?_
             refine oy rfl rfl (y_move rfl) ?_
             obtain ⟨x128, hzx128, hlx128, hxx128, h⟩ := idx_some h
             refine oy rfl rfl (y_indexAddrI (kd := .i64) (i := (IntKind.i64.wrap ((t_0.stack_.length : Int) - 1))) 1 Try.runUnderlying22 Try.sizeOf3 rfl rfl rfl reads_ro hzx128 (map_lt hlx128)) ?_
             refine oy rfl rfl (y_load_elem (i := ((IntKind.i64.wrap ((t_0.stack_.length : Int) - 1))).toNat) 1 Try.isAgg3 rfl rfl reads_ro (map_get hxx128)) ?_
             refine oy rfl rfl (y_assign rfl) ?_
             refine ops_nil ?_
             refine goes_code ?_
             refine run_seq ?_
             refine run_region' ?_
             refine oy rfl rfl (y_fieldAddr_box (sz := 0) Try.runUnderlying71 rfl Try.sizeOf22 rfl) ?_
             refine oy rfl rfl (y_load_box 0 Try.isAgg22 rfl rfl rfl) ?_
             refine oy rfl rfl (y_move rfl) ?_
             obtain ⟨hb129, h⟩ := need_some h
             refine oy rfl rfl (y_slice (l := 0) (r := (IntKind.i64.wrap ((t_0.stack_.length : Int) - 1))) 1 Try.runUnderlying22 Try.sizeOf3 rfl rfl reads_ro bi0 (bi1 (kd := .i64) rfl) hb129.1 hb129.2.1 (map_len_le hb129.2.2)) ?_
             refine ops_turn (turn_sub (l := (0 : Int).toNat) (r := ((IntKind.i64.wrap ((t_0.stack_.length : Int) - 1))).toNat) 1 rfl (by first | omega | exact Int.toNat_le_toNat hb129.2.1) (map_toNat_le hb129.2.2)) ?_
             refine ops_turn (retell 6 (g := ro (subS t_0_stack_v 1 ((0 : Int).toNat) (((IntKind.i64.wrap ((t_0.stack_.length : Int) - 1))).toNat)) 1 ((t_0.stack_.take (((IntKind.i64.wrap ((t_0.stack_.length : Int) - 1))).toNat)).map (eInt .i64))) rfl (congrArg (ro _ _) (sub_hi _ _ _))) ?_
             refine oy rfl rfl (y_fieldAddr_box (sz := 0) Try.runUnderlying71 rfl Try.sizeOf22 rfl) ?_
             refine ops_slc 6 rfl reads_ro (fun hs130 hs130o => ?_)
             refine ot rfl rfl (t_store 0 Try.sizeOf22 rfl rfl rfl (by rw [hs130]; rfl) (by simp [Value.cells, boxP]) (by rw [hs130]; exact allL_cons hs130o (allL_nil))) ?_
             rintro _ _ ⟨rfl, rfl⟩
             refine ops_turn (retell 0 (g := box b1 [(subS t_0_stack_v 1 ((0 : Int).toNat) (((IntKind.i64.wrap ((t_0.stack_.length : Int) - 1))).toNat)), t_0_slots_v, t_0_loops_v]) rfl (by rw [hs130]; rfl)) ?_
             refine ops_nil ?_
             refine goes_code ?_
             obtain ⟨o133, h, ho134⟩ := bindJ_some h
             refine run_cut (((List Int)) × (Value)) (fun σ => [(3, boxP b1 0), (4, boxP b2 0), (6, boxP b3 0), (14, .int .i64 x128)]) (fun σ => [box b1 [(subS t_0_stack_v 1 ((0 : Int).toNat) (((IntKind.i64.wrap ((t_0.stack_.length : Int) - 1))).toNat)), σ.2, t_0_loops_v], ro (subS t_0_stack_v 1 ((0 : Int).toNat) (((IntKind.i64.wrap ((t_0.stack_.length : Int) - 1))).toNat)) 1 ((t_0.stack_.take (((IntKind.i64.wrap ((t_0.stack_.length : Int) - 1))).toNat)).map (eInt .i64)), ro σ.2 1 (σ.1.map (eInt .i64)), ro t_0_loops_v 1 (t_0.loops_.map (eInt .i64)), box b2 [.int .i64 x_1.Op, .int .i64 x_1.A, .string (bs x_1.S)], box b3 [.slice none 0 0, .slice none 0 0, .slice none 0 0]]) (fun σ => o133 = .go σ.1) (fun L136 hL135 => ?_) ?_
             ·
              refine run_seq ?_
              refine run_weak [(3, boxP b1 0), (4, boxP b2 0), (6, boxP b3 0), (14, .int .i64 x128)] [0, 2, 3, 4, 5, 6] [box b1 [(subS t_0_stack_v 1 ((0 : Int).toNat) (((IntKind.i64.wrap ((t_0.stack_.length : Int) - 1))).toNat)), t_0_slots_v, t_0_loops_v], ro t_0_slots_v 1 (t_0.slots_.map (eInt .i64)), ro t_0_loops_v 1 (t_0.loops_.map (eInt .i64)), box b2 [.int .i64 x_1.Op, .int .i64 x_1.A, .string (bs x_1.S)], box b3 [.slice none 0 0, .slice none 0 0, .slice none 0 0], ro (subS t_0_stack_v 1 ((0 : Int).toNat) (((IntKind.i64.wrap ((t_0.stack_.length : Int) - 1))).toNat)) 1 ((t_0.stack_.take (((IntKind.i64.wrap ((t_0.stack_.length : Int) - 1))).toNat)).map (eInt .i64))] (qv4 rfl rfl rfl rfl) (by decide) rfl ?_
              refine run_region' ?_
              refine oy rfl rfl (y_fieldAddr_box (sz := 0) Try.runUnderlying55 rfl Try.sizeOf3 rfl) ?_
              refine oy rfl rfl (y_load_box 3 Try.isAgg3 rfl rfl rfl) ?_
              refine oy rfl rfl (y_fieldAddr_box (sz := 0) Try.runUnderlying71 rfl Try.sizeOf22 rfl) ?_
              refine oy rfl rfl (y_load_box 0 Try.isAgg22 rfl rfl rfl) ?_
              refine oy rfl rfl ((y_len 1 rfl Try.runUnderlying22 rfl rfl reads_ro).to (v_len (eInt .i64) _)) ?_
              refine oy rfl rfl (y_eql rfl rfl) ?_
              refine ops_nil ?_
              refine goes_code ?_
              refine run_cond (decide (x_1.A = (t_0.slots_.length : Int))) rfl (fun hc137 => ?_) (fun hc137 => ?_)
              ·replace h := cond_t h hc137
               refine run_region' ?_
               refine oy rfl rfl (y_fieldAddr_box (sz := 0) Try.runUnderlying71 rfl Try.sizeOf22 rfl) ?_
               refine oy rfl rfl (y_load_box 0 Try.isAgg22 rfl rfl rfl) ?_
               obtain ⟨r138, hr139, h⟩ := obind_some h
               refine ot rfl rfl (t_callx (vs := [t_0_slots_v]) (cs := []) [(1, 0)] rfl Try.call57 rfl (slices_Clone_int_int_57_ok  t_0.slots_ t_0_slots_v hr139) (showsX_view 1 rfl views_ro showsX_nil) rfl (.inl rfl)) ?_
               rintro v140 _ ⟨_, ⟨_, rfl, rfl⟩, rfl⟩
               refine oy rfl rfl (y_move rfl) ?_
               refine ot rfl rfl (t_lit [.int .i64 x128] Try.runUnderlying22 Try.sizeOf3 Try.zeroValue3 rfl (by decide) (by decide) rfl (by simp [Value.cells, boxP])) ?_
               rintro v141 _ ⟨rfl, _⟩
               refine ops_turn (retell 7 (g := row v141 1 (([x128] : List Int).map (eInt .i64))) rfl rfl) ?_
               obtain ⟨hr143, h⟩ := need_some h
               refine ot rfl rfl (t_append (es := 1) 6 rfl Try.runUnderlying22 rfl Try.runUnderlying22 (.inr ⟨_, rfl⟩) Try.typeInfo3 rfl (by decide) Try.zeroValue3 rfl rfl rfl rfl (src_reads 7 rfl reads_row (map_ok (eInt_ok _) _)) (map_room hr143 (by decide)) (map_fit hr143)) ?_
               rintro v142 _ rfl
               refine ops_turn (retell 6 (g := row v142 1 ((r138 ++ ([x128] : List Int)).map (eInt .i64))) rfl (congrArg (row _ _) List.map_append.symm)) ?_
               refine oy rfl rfl (y_fieldAddr_box (sz := 0) Try.runUnderlying71 rfl Try.sizeOf22 rfl) ?_
               refine ops_slc 6 rfl reads_row (fun hs144 hs144o => ?_)
               refine ot rfl rfl (t_store 0 Try.sizeOf22 rfl rfl rfl (by rw [hs144]; rfl) (by simp [Value.cells, boxP]) (by rw [hs144]; exact allL_cons hs144o (allL_nil))) ?_
               rintro _ _ ⟨rfl, rfl⟩
               refine ops_turn (retell 0 (g := box b1 [(subS t_0_stack_v 1 ((0 : Int).toNat) (((IntKind.i64.wrap ((t_0.stack_.length : Int) - 1))).toNat)), v142, t_0_loops_v]) rfl (by rw [hs144]; rfl)) ?_
               refine ops_nil ?_
               refine goes_turn (Go.Abs.freeze 6 rfl) ?_
               obtain rfl := some_eq h
               exact goes_cut hL135 ((r138 ++ ([x128] : List Int)), v142) [0, 5, 6, 2, 3, 4] (qv4 rfl rfl rfl rfl) (by decide) rfl rfl
              ·replace h := cond_f h hc137
               refine run_skip ?_
               obtain rfl := some_eq h
               exact goes_cut hL135 (t_0.slots_, t_0_slots_v) [0, 5, 1, 2, 3, 4] (qv4 rfl rfl rfl rfl) (by decide) rfl rfl
             rintro ⟨x_131, v132⟩ hj
             obtain rfl : o133 = _ := hj
             replace h := after_go ho134
             clear ho134
             change Run _ _ _ (VF.of [(3, boxP b1 0), (4, boxP b2 0), (6, boxP b3 0), (14, .int .i64 x128)]) [box b1 [(subS t_0_stack_v 1 ((0 : Int).toNat) (((IntKind.i64.wrap ((t_0.stack_.length : Int) - 1))).toNat)), v132, t_0_loops_v], ro (subS t_0_stack_v 1 ((0 : Int).toNat) (((IntKind.i64.wrap ((t_0.stack_.length : Int) - 1))).toNat)) 1 ((t_0.stack_.take (((IntKind.i64.wrap ((t_0.stack_.length : Int) - 1))).toNat)).map (eInt .i64)), ro v132 1 (x_131.map (eInt .i64)), ro t_0_loops_v 1 (t_0.loops_.map (eInt .i64)), box b2 [.int .i64 x_1.Op, .int .i64 x_1.A, .string (bs x_1.S)], box b3 [.slice none 0 0, .slice none 0 0, .slice none 0 0]]
             refine run_seq ?_
             refine run_drawany [box b1 [(subS t_0_stack_v 1 ((0 : Int).toNat) (((IntKind.i64.wrap ((t_0.stack_.length : Int) - 1))).toNat)), v132, t_0_loops_v], ro (subS t_0_stack_v 1 ((0 : Int).toNat) (((IntKind.i64.wrap ((t_0.stack_.length : Int) - 1))).toNat)) 1 ((t_0.stack_.take (((IntKind.i64.wrap ((t_0.stack_.length : Int) - 1))).toNat)).map (eInt .i64)), ro v132 1 (x_131.map (eInt .i64)), ro t_0_loops_v 1 (t_0.loops_.map (eInt .i64)), box b2 [.int .i64 x_1.Op, .int .i64 x_1.A, .string (bs x_1.S)], HA.emp] (by kernel_rfl) ?_
             refine any_y 0 rfl (by kernel_rfl) (by kernel_rfl) (by kernel_rfl) (ss (ss (ss (ss (ss (se (sn))))))) (wn rfl) rfl (y_load_boxagg (c := [(subS t_0_stack_v 1 ((0 : Int).toNat) (((IntKind.i64.wrap ((t_0.stack_.length : Int) - 1))).toNat)), v132, t_0_loops_v]) 0 Try.isAgg71 Try.sizeOf71 rfl rfl rfl) ?_
             refine any_y 1 rfl (by kernel_rfl) (by kernel_rfl) (by kernel_rfl) (ss (ss (ss (ss (ss (se (sn))))))) (wn rfl) rfl (y_fieldAddr_box (sz := 0) Try.runUnderlying71 rfl Try.sizeOf22 rfl) ?_
             refine any_y 2 rfl (by kernel_rfl) (by kernel_rfl) (by kernel_rfl) (ss (ss (ss (ss (ss (se (sn))))))) (wn rfl) rfl (y_load_box 0 Try.isAgg22 rfl rfl rfl) ?_
             refine any_y 3 rfl (by kernel_rfl) (by kernel_rfl) (by kernel_rfl) (ss (ss (ss (ss (ss (se (sn))))))) (wn rfl) rfl (y_fieldAddr_box (sz := 0) Try.runUnderlying55 rfl Try.sizeOf3 rfl) ?_
             refine any_y 4 rfl (by kernel_rfl) (by kernel_rfl) (by kernel_rfl) (ss (ss (ss (ss (ss (se (sn))))))) (wn rfl) rfl (y_load_box 4 Try.isAgg3 rfl rfl rfl) ?_
             obtain ⟨x145, hzx145, hlx145, hxx145, h⟩ := idx_some h
             refine any_y 5 rfl (by kernel_rfl) (by kernel_rfl) (by kernel_rfl) (ss (ss (ss (ss (ss (se (sn))))))) (wn rfl) rfl (y_indexAddrI (kd := .i64) (i := x_1.A) 2 Try.runUnderlying22 Try.sizeOf3 rfl rfl rfl reads_ro hzx145 (map_lt hlx145)) ?_
             refine any_y 6 rfl (by kernel_rfl) (by kernel_rfl) (by kernel_rfl) (ss (ss (ss (ss (ss (se (sn))))))) (wn rfl) rfl (y_load_elem (i := (x_1.A).toNat) 2 Try.isAgg3 rfl rfl reads_ro (map_get hxx145)) ?_
             refine any_y 7 rfl (by kernel_rfl) (by kernel_rfl) (by kernel_rfl) (ss (ss (ss (ss (ss (se (sn))))))) (wn rfl) rfl (y_move rfl) ?_
             refine any_y 8 rfl (by kernel_rfl) (by kernel_rfl) (by kernel_rfl) (ss (ss (ss (ss (ss (se (sn))))))) (wn rfl) rfl (y_eql rfl rfl) ?_
             refine any_all [9] (by kernel_rfl) rfl (anyo_cons ?_ anyo_nil)
             refine anyo_slc 1 rfl reads_ro (fun hs146 hs146o => ?_)
             refine anyo_slc 2 rfl reads_ro (fun hs147 hs147o => ?_)
             refine anyo_slc 3 rfl reads_ro (fun hs148 hs148o => ?_)
             refine any_t rfl (wn rfl) rfl (t_store 5 Try.sizeOf71 rfl rfl rfl rfl (by simp [Value.cells, boxP]) (allL_cons hs146o (allL_cons hs147o (allL_cons hs148o (allL_nil))))) ?_
             rintro _ _ ⟨rfl, rfl⟩
             refine ⟨(ss (ss (ss (ss (ss (se (sn))))))), ?_⟩
             refine any_turn (retell 5 (g := box b3 [(subS t_0_stack_v 1 ((0 : Int).toNat) (((IntKind.i64.wrap ((t_0.stack_.length : Int) - 1))).toNat)), v132, t_0_loops_v]) rfl rfl) ?_
             refine any_y 10 rfl (by kernel_rfl) (by kernel_rfl) (by kernel_rfl) (ss (ss (ss (ss (ss (se (sn))))))) (wn rfl) rfl (y_assign rfl) ?_
             refine any_nil (by kernel_rfl) ?_
             refine goes_code ?_
             refine run_ret ?_
             obtain rfl := some_eq h
             refine fin_res [.cell 6 71, .tmp 7] [.agg #[(subS t_0_stack_v 1 ((0 : Int).toNat) (((IntKind.i64.wrap ((t_0.stack_.length : Int) - 1))).toNat)), v132, t_0_loops_v], .bool (decide (x145 = x128))] [1, 2, 3] [ro (subS t_0_stack_v 1 ((0 : Int).toNat) (((IntKind.i64.wrap ((t_0.stack_.length : Int) - 1))).toNat)) 1 ((t_0.stack_.take (((IntKind.i64.wrap ((t_0.stack_.length : Int) - 1))).toNat)).map (eInt .i64)), ro v132 1 (x_131.map (eInt .i64)), ro t_0_loops_v 1 (t_0.loops_.map (eInt .i64))] Try.results32 rfl (rescons (res_box 5 Try.isAgg71 Try.sizeOf71 rfl rfl rfl) (rescons (res_tmp rfl) resnil)) (by decide) rfl ?_
             exact ⟨_, _, _, rfl, rfl⟩
           ·replace h := cond_f h hc114
            refine run_skip ?_
            refine goes_blk ?_
            refine goes_code ?_
            refine run_seq ?_
            refine run_weak [(3, boxP b1 0), (6, boxP b3 0)] [0, 1, 2, 3, 5] [box b1 [t_0_stack_v, t_0_slots_v, t_0_loops_v], ro t_0_stack_v 1 (t_0.stack_.map (eInt .i64)), ro t_0_slots_v 1 (t_0.slots_.map (eInt .i64)), ro t_0_loops_v 1 (t_0.loops_.map (eInt .i64)), box b3 [.slice none 0 0, .slice none 0 0, .slice none 0 0]] (qv2 rfl rfl) (by decide) rfl ?_
            refine run_region' ?_
            refine oy rfl rfl (y_load_boxagg (c := [t_0_stack_v, t_0_slots_v, t_0_loops_v]) 0 Try.isAgg71 Try.sizeOf71 rfl rfl rfl) ?_
            refine ops_slc 1 rfl reads_ro (fun hs149 hs149o => ?_)
            refine ops_slc 2 rfl reads_ro (fun hs150 hs150o => ?_)
            refine ops_slc 3 rfl reads_ro (fun hs151 hs151o => ?_)
            refine ot rfl rfl (t_store 4 Try.sizeOf71 rfl rfl rfl rfl (by simp [Value.cells, boxP]) (allL_cons hs149o (allL_cons hs150o (allL_cons hs151o (allL_nil))))) ?_
            rintro _ _ ⟨rfl, rfl⟩
            refine ops_turn (retell 4 (g := box b3 [t_0_stack_v, t_0_slots_v, t_0_loops_v]) rfl rfl) ?_
            refine oy rfl rfl (y_assign rfl) ?_
            refine ops_nil ?_
            refine goes_code ?_
            refine run_ret ?_
            obtain rfl := some_eq h
            refine fin_res [.cell 6 71, .tmp 7] [.agg #[t_0_stack_v, t_0_slots_v, t_0_loops_v], .bool false] [1, 2, 3] [ro t_0_stack_v 1 (t_0.stack_.map (eInt .i64)), ro t_0_slots_v 1 (t_0.slots_.map (eInt .i64)), ro t_0_loops_v 1 (t_0.loops_.map (eInt .i64))] Try.results32 rfl (rescons (res_box 4 Try.isAgg71 Try.sizeOf71 rfl rfl rfl) (rescons (res_tmp rfl) resnil)) (by decide) rfl ?_
            exact ⟨_, _, _, rfl, rfl⟩

def slices_Equal_int_int_54_L1 (s1_0 : (List Int)) (s2_1 : (List Int)) : (Int) → Option (Lp (Int) (Lp (Unit) (Bool))) :=
 fun s_6 =>
  cond (decide (s_6 < (s1_0.length : Int)))
   (idx s1_0 s_6 fun x12 =>
   idx s2_1 s_6 fun x13 =>
   cond (decide (x12 ≠ x13))
    (some (.stop (.stop false)))
    (some (.go (IntKind.i64.wrap (s_6 + 1)))))
   (some (.stop (.go ())))
def slices_Equal_int_int_54 (n : Nat) (s1_0 : (List Int)) (s2_1 : (List Int)) : Option (Bool) :=
 cond (decide ((s1_0.length : Int) ≠ (s2_1.length : Int)))
  (some false)
  (bindJ (S := Unit)
   (iter (slices_Equal_int_int_54_L1 s1_0 s2_1) n 0)
  (fun _ =>
   some true))
theorem slices_Equal_int_int_54_ok (n : Nat) (s1_0 : (List Int)) (s2_1 : (List Int)) (s1_0v : Value) (s2_1v : Value) {r : Bool} (h : slices_Equal_int_int_54 n s1_0 s2_1 = some r) :
  Meets Try.prog 54 [s1_0v, s2_1v] [ro s1_0v 1 (s1_0.map (eInt .i64)), ro s2_1v 1 (s2_1.map (eInt .i64))] (fun v G => v = .bool r ∧ G = []) := by
 refine fn_of_run Try.func54 rfl Try.ntmps54 rfl (fun w0 o0 => ?_)
 refine run_seq ?_
 refine run_region' ?_
 refine oy rfl rfl (y_assign rfl) ?_
 refine ops_nil ?_
 refine goes_code ?_
 refine run_seq ?_
 refine run_seq ?_
 refine run_region' ?_
 refine oy rfl rfl (y_move rfl) ?_
 refine oy rfl rfl ((y_len 0 rfl Try.runUnderlying22 rfl rfl reads_ro).to (v_len (eInt .i64) _)) ?_
 refine oy rfl rfl (y_move rfl) ?_
 refine oy rfl rfl ((y_len 1 rfl Try.runUnderlying22 rfl rfl reads_ro).to (v_len (eInt .i64) _)) ?_
 refine oy rfl rfl (y_neq rfl rfl) ?_
 refine ops_nil ?_
 refine goes_code ?_
 refine run_cond (decide ((s1_0.length : Int) ≠ (s2_1.length : Int))) rfl (fun hc1 => ?_) (fun hc1 => ?_)
 ·replace h := cond_t h hc1
  refine run_seq ?_
  refine run_region' ?_
  refine oy rfl rfl (y_assign rfl) ?_
  refine ops_nil ?_
  refine goes_code ?_
  refine run_ret ?_
  obtain rfl := some_eq h
  refine fin_slots [4] [.bool false] [] [] Try.results54 rfl (by decide) rfl ?_
  exact ⟨rfl, rfl⟩
 ·replace h := cond_f h hc1
  refine run_skip ?_
  refine goes_code ?_
  obtain ⟨o2, h, ho3⟩ := bindJ_some h
  refine run_cut ((Unit) × (Unit)) (fun σ => []) (fun σ => []) (fun σ => o2 = .go σ.1) (fun L5 hL4 => ?_) ?_
  ·
   refine run_seq ?_
   refine run_region' ?_
   refine oy rfl rfl (y_move rfl) ?_
   refine oy rfl rfl ((y_len 0 rfl Try.runUnderlying22 rfl rfl reads_ro).to (v_len (eInt .i64) _)) ?_
   refine oy rfl rfl (y_move rfl) ?_
   refine ops_nil ?_
   refine goes_code ?_
   refine run_block ?_
   refine run_iter (step := slices_Equal_int_int_54_L1 s1_0 s2_1) (n := n) (s0 := 0) h (G := Unit) () (fun σ γ => [(13, .int .i64 σ), (0, s1_0v), (1, s2_1v), (12, .int .i64 (s1_0.length : Int))]) (fun σ γ => [ro s1_0v 1 (s1_0.map (eInt .i64)), ro s2_1v 1 (s2_1.map (eInt .i64))]) [0, 1] (qv4 rfl rfl rfl rfl) (by decide) rfl ?_
   rintro s_6 _ o7 h L10 hgo8 hstop9
   change Run _ _ _ (VF.of [(13, .int .i64 s_6), (0, s1_0v), (1, s2_1v), (12, .int .i64 (s1_0.length : Int))]) [ro s1_0v 1 (s1_0.map (eInt .i64)), ro s2_1v 1 (s2_1.map (eInt .i64))]
   refine run_seq ?_
   refine run_region' ?_
   refine oy rfl rfl (y_lss rfl rfl) ?_
   refine ops_nil ?_
   refine goes_code ?_
   refine run_seq ?_
   refine run_cond (decide (s_6 < (s1_0.length : Int))) rfl (fun hc11 => ?_) (fun hc11 => ?_)
   ·replace h := cond_t h hc11
    refine run_skip ?_
    refine goes_code ?_
    refine run_seq ?_
    refine run_block ?_
    refine run_seq ?_
    refine run_region' ?_
    refine oy rfl rfl (y_move rfl) ?_
    refine oy rfl rfl (y_assign rfl) ?_
    refine ops_nil ?_
    refine goes_code ?_
    refine run_seq ?_
    refine run_draw (by kernel_rfl) (by kernel_rfl) ?_
    refine sy rfl rfl (y_move rfl) ?_
    refine sy rfl rfl (y_move rfl) ?_
    obtain ⟨x12, hzx12, hlx12, hxx12, h⟩ := idx_some h
    refine sy rfl rfl (y_indexAddrI (kd := .i64) (i := s_6) 0 Try.runUnderlying22 Try.sizeOf3 rfl rfl rfl reads_ro hzx12 (map_lt hlx12)) ?_
    refine sy rfl rfl (y_load_elem (i := s_6.toNat) 0 Try.isAgg3 rfl rfl reads_ro (map_get hxx12)) ?_
    refine sy rfl rfl (y_move rfl) ?_
    refine sy rfl rfl (y_move rfl) ?_
    obtain ⟨x13, hzx13, hlx13, hxx13, h⟩ := idx_some h
    refine sy rfl rfl (y_indexAddrI (kd := .i64) (i := s_6) 1 Try.runUnderlying22 Try.sizeOf3 rfl rfl rfl reads_ro hzx13 (map_lt hlx13)) ?_
    refine sy rfl rfl (y_load_elem (i := s_6.toNat) 1 Try.isAgg3 rfl rfl reads_ro (map_get hxx13)) ?_
    refine sy rfl rfl (y_neq rfl rfl) ?_
    refine still_nil ?_
    refine goes_code ?_
    refine run_cond (decide (x12 ≠ x13)) rfl (fun hc14 => ?_) (fun hc14 => ?_)
    ·replace h := cond_t h hc14
     refine run_seq ?_
     refine run_weak [] [] [] vnil (by decide) rfl ?_
     refine run_region' ?_
     refine oy rfl rfl (y_assign rfl) ?_
     refine ops_nil ?_
     refine goes_code ?_
     refine run_ret ?_
     obtain rfl := some_eq h
     obtain rfl := hstop9 _ rfl
     skip
     obtain rfl := after_stop ho3
     refine fin_slots [4] [.bool false] [] [] Try.results54 rfl (by decide) rfl ?_
     exact ⟨rfl, rfl⟩
    ·replace h := cond_f h hc14
     refine run_skip ?_
     refine goes_blk ?_
     refine goes_code ?_
     refine run_weak [(13, .int .i64 s_6), (0, s1_0v), (1, s2_1v), (12, .int .i64 (s1_0.length : Int))] [0, 1] [ro s1_0v 1 (s1_0.map (eInt .i64)), ro s2_1v 1 (s2_1.map (eInt .i64))] (qv4 rfl rfl rfl rfl) (by decide) rfl ?_
     refine run_region' ?_
     refine oy rfl rfl (y_add rfl rfl) ?_
     refine oy rfl rfl (y_move rfl) ?_
     refine ops_nil ?_
     obtain rfl := some_eq h
     exact goes_iter hgo8 (IntKind.i64.wrap (s_6 + 1)) () [0, 1] rfl (qv4 rfl rfl rfl rfl) (by decide) rfl
   ·replace h := cond_f h hc11
    refine run_exit _ rfl ?_
    obtain rfl := some_eq h
    obtain rfl := hstop9 _ rfl
    exact goes_cut hL4 ((), ()) [] vnil (by decide) rfl rfl
  rintro ⟨_, _⟩ hj
  obtain rfl : o2 = _ := hj
  replace h := after_go ho3
  clear ho3
  change Run _ _ _ (VF.of []) []
  refine run_seq ?_
  refine run_region' ?_
  refine oy rfl rfl (y_assign rfl) ?_
  refine ops_nil ?_
  refine goes_code ?_
  refine run_ret ?_
  obtain rfl := some_eq h
  refine fin_slots [4] [.bool true] [] [] Try.results54 rfl (by decide) rfl ?_
  exact ⟨rfl, rfl⟩

def compile_same (n : Nat) (a_0 : S_compile_types) (b_1 : S_compile_types) : Option (Bool) :=
 obind (slices_Equal_int_int_54 n a_0.loops_ b_1.loops_) fun r3 =>
 bindJ (S := Bool)
  (cond r3
   (obind (slices_Equal_int_int_54 n a_0.stack_ b_1.stack_) fun r11 =>
   some (.go r11))
   (some (.go false)))
 (fun b5 =>
  bindJ (S := Bool)
   (cond b5
    (obind (slices_Equal_int_int_54 n a_0.slots_ b_1.slots_) fun r19 =>
    some (.go r19))
    (some (.go false)))
  (fun b13 =>
   some b13))
theorem compile_same_ok (n : Nat) (a_0 : S_compile_types) (b_1 : S_compile_types) (a_0_stack_v : Value) (a_0_slots_v : Value) (a_0_loops_v : Value) (b_1_stack_v : Value) (b_1_slots_v : Value) (b_1_loops_v : Value) {r : Bool} (h : compile_same n a_0 b_1 = some r) :
  Meets Try.prog 31 [.agg #[a_0_stack_v, a_0_slots_v, a_0_loops_v], .agg #[b_1_stack_v, b_1_slots_v, b_1_loops_v]] [ro a_0_stack_v 1 (a_0.stack_.map (eInt .i64)), ro a_0_slots_v 1 (a_0.slots_.map (eInt .i64)), ro a_0_loops_v 1 (a_0.loops_.map (eInt .i64)), ro b_1_stack_v 1 (b_1.stack_.map (eInt .i64)), ro b_1_slots_v 1 (b_1.slots_.map (eInt .i64)), ro b_1_loops_v 1 (b_1.loops_.map (eInt .i64))] (fun v G => v = .bool r ∧ G = []) := by
 refine fn_of_run Try.func31 rfl Try.ntmps31 rfl (fun w0 o0 => ?_)
 refine run_seq ?_
 refine run_region' ?_
 refine ot rfl rfl (t_box rfl) ?_
 rintro _ _ ⟨b1, rfl, rfl⟩
 refine ot rfl rfl (t_box rfl) ?_
 rintro _ _ ⟨b2, rfl, rfl⟩
 refine oy rfl rfl (y_assign rfl) ?_
 refine ops_nil ?_
 refine goes_code ?_
 refine run_seq ?_
 refine run_region' ?_
 refine oy rfl rfl (y_fieldAddr_box (sz := 0) Try.runUnderlying71 rfl Try.sizeOf22 rfl) ?_
 refine oy rfl rfl (y_load_box 6 Try.isAgg22 rfl rfl rfl) ?_
 refine oy rfl rfl (y_fieldAddr_box (sz := 0) Try.runUnderlying71 rfl Try.sizeOf22 rfl) ?_
 refine oy rfl rfl (y_load_box 7 Try.isAgg22 rfl rfl rfl) ?_
 obtain ⟨r3, hr4, h⟩ := obind_some h
 refine ot rfl rfl (t_callx (vs := [a_0_loops_v, b_1_loops_v]) (cs := []) [(2, 0), (5, 0)] rfl Try.call54 rfl (slices_Equal_int_int_54_ok n  a_0.loops_ b_1.loops_ a_0_loops_v b_1_loops_v hr4) (showsX_view 2 rfl views_ro (showsX_view 5 rfl views_ro showsX_nil)) rfl (.inl rfl)) ?_
 rintro _ _ ⟨_, ⟨rfl, rfl⟩, rfl⟩
 refine oy rfl rfl (y_move rfl) ?_
 obtain ⟨o6, h, ho7⟩ := bindJ_some h
 refine ops_cut 6 (Bool) (fun σ => [(2, boxP b1 0), (3, boxP b2 0), (16, .bool σ)]) (fun σ => [ro a_0_stack_v 1 (a_0.stack_.map (eInt .i64)), ro a_0_slots_v 1 (a_0.slots_.map (eInt .i64)), ro a_0_loops_v 1 (a_0.loops_.map (eInt .i64)), ro b_1_stack_v 1 (b_1.stack_.map (eInt .i64)), ro b_1_slots_v 1 (b_1.slots_.map (eInt .i64)), ro b_1_loops_v 1 (b_1.loops_.map (eInt .i64)), box b1 [a_0_stack_v, a_0_slots_v, a_0_loops_v], box b2 [b_1_stack_v, b_1_slots_v, b_1_loops_v]]) (fun σ => o6 = .go σ) (fun L8 hL9 => ?_) ?_
 ·refine ops_split 10 r3 rfl (fun hg10 => ?_) (fun hg10 => ?_)
  ·replace h := cond_t h hg10
   refine ops_y (wg 5 true 10 rfl rfl rfl rfl) rfl (y_fieldAddr_box (sz := 0) Try.runUnderlying71 rfl Try.sizeOf22 rfl) ?_
   refine ops_y (wg 5 true 10 rfl rfl rfl rfl) rfl (y_load_box 6 Try.isAgg22 rfl rfl rfl) ?_
   refine ops_y (wg 5 true 10 rfl rfl rfl rfl) rfl (y_fieldAddr_box (sz := 0) Try.runUnderlying71 rfl Try.sizeOf22 rfl) ?_
   refine ops_y (wg 5 true 10 rfl rfl rfl rfl) rfl (y_load_box 7 Try.isAgg22 rfl rfl rfl) ?_
   obtain ⟨r11, hr12, h⟩ := obind_some h
   refine ops_t (wg 5 true 10 rfl rfl rfl rfl) rfl (t_callx (vs := [a_0_stack_v, b_1_stack_v]) (cs := []) [(0, 0), (3, 0)] rfl Try.call54 rfl (slices_Equal_int_int_54_ok n  a_0.stack_ b_1.stack_ a_0_stack_v b_1_stack_v hr12) (showsX_view 0 rfl views_ro (showsX_view 3 rfl views_ro showsX_nil)) rfl (.inl rfl)) ?_
   rintro _ _ ⟨_, ⟨rfl, rfl⟩, rfl⟩
   refine oy rfl rfl (y_pick (b := true) rfl rfl) ?_
   refine ops_nil ?_
   obtain rfl := some_eq h
   exact goes_cut hL9 r11 [0, 1, 2, 3, 4, 5, 6, 7] (qv3 rfl rfl rfl) (by decide) rfl rfl
  ·replace h := cond_f h hg10
   refine ops_no 5 true 10 rfl rfl rfl rfl rfl ?_
   refine ops_no 5 true 10 rfl rfl rfl rfl rfl ?_
   refine ops_no 5 true 10 rfl rfl rfl rfl rfl ?_
   refine ops_no 5 true 10 rfl rfl rfl rfl rfl ?_
   refine ops_no 5 true 10 rfl rfl rfl rfl rfl ?_
   refine oy rfl rfl (y_pick (b := false) rfl rfl) ?_
   refine ops_nil ?_
   obtain rfl := some_eq h
   exact goes_cut hL9 false [0, 1, 2, 3, 4, 5, 6, 7] (qv3 rfl rfl rfl) (by decide) rfl rfl
 rintro b5 hj
 obtain rfl : o6 = _ := hj
 replace h := after_go ho7
 clear ho7
 refine oy rfl rfl (y_move rfl) ?_
 obtain ⟨o14, h, ho15⟩ := bindJ_some h
 refine ops_cut 6 (Bool) (fun σ => [(23, .bool σ)]) (fun σ => []) (fun σ => o14 = .go σ) (fun L16 hL17 => ?_) ?_
 ·refine ops_split 17 b5 rfl (fun hg18 => ?_) (fun hg18 => ?_)
  ·replace h := cond_t h hg18
   refine ops_y (wg 12 true 17 rfl rfl rfl rfl) rfl (y_fieldAddr_box (sz := 0) Try.runUnderlying71 rfl Try.sizeOf22 rfl) ?_
   refine ops_y (wg 12 true 17 rfl rfl rfl rfl) rfl (y_load_box 6 Try.isAgg22 rfl rfl rfl) ?_
   refine ops_y (wg 12 true 17 rfl rfl rfl rfl) rfl (y_fieldAddr_box (sz := 0) Try.runUnderlying71 rfl Try.sizeOf22 rfl) ?_
   refine ops_y (wg 12 true 17 rfl rfl rfl rfl) rfl (y_load_box 7 Try.isAgg22 rfl rfl rfl) ?_
   obtain ⟨r19, hr20, h⟩ := obind_some h
   refine ops_t (wg 12 true 17 rfl rfl rfl rfl) rfl (t_callx (vs := [a_0_slots_v, b_1_slots_v]) (cs := []) [(1, 0), (4, 0)] rfl Try.call54 rfl (slices_Equal_int_int_54_ok n  a_0.slots_ b_1.slots_ a_0_slots_v b_1_slots_v hr20) (showsX_view 1 rfl views_ro (showsX_view 4 rfl views_ro showsX_nil)) rfl (.inl rfl)) ?_
   rintro _ _ ⟨_, ⟨rfl, rfl⟩, rfl⟩
   refine oy rfl rfl (y_pick (b := true) rfl rfl) ?_
   refine ops_nil ?_
   obtain rfl := some_eq h
   exact goes_cut hL17 r19 [] (qv1 rfl) (by decide) rfl rfl
  ·replace h := cond_f h hg18
   refine ops_no 12 true 17 rfl rfl rfl rfl rfl ?_
   refine ops_no 12 true 17 rfl rfl rfl rfl rfl ?_
   refine ops_no 12 true 17 rfl rfl rfl rfl rfl ?_
   refine ops_no 12 true 17 rfl rfl rfl rfl rfl ?_
   refine ops_no 12 true 17 rfl rfl rfl rfl rfl ?_
   refine oy rfl rfl (y_pick (b := false) rfl rfl) ?_
   refine ops_nil ?_
   obtain rfl := some_eq h
   exact goes_cut hL17 false [] (qv1 rfl) (by decide) rfl rfl
 rintro b13 hj
 obtain rfl : o14 = _ := hj
 replace h := after_go ho15
 clear ho15
 refine oy rfl rfl (y_assign rfl) ?_
 refine ops_nil ?_
 refine goes_code ?_
 refine run_ret ?_
 obtain rfl := some_eq h
 refine fin_slots [4] [.bool b13] [] [] Try.results31 rfl (by decide) rfl ?_
 exact ⟨rfl, rfl⟩

def compile_Check_1_30 (n : Nat) (at_0 : Int) (t_1 : S_compile_types) (a_2 : (List (Int × S_compile_types))) : Option (Bool × (List (Int × S_compile_types))) :=
 cond ((mget a_2 at_0).isSome)
  (obind (compile_same n t_1 (S_compile_types.mk (((mget a_2 at_0).getD (S_compile_types.mk [] [] [])).stack_) (((mget a_2 at_0).getD (S_compile_types.mk [] [] [])).slots_) (((mget a_2 at_0).getD (S_compile_types.mk [] [] [])).loops_))) fun r10 =>
  some (r10, a_2))
  (some (true, (mput a_2 at_0 t_1)))
theorem compile_Check_1_30_ok (n : Nat) (at_0 : Int) (t_1 : S_compile_types) (a_2 : (List (Int × S_compile_types))) (t_1_stack_v : Value) (t_1_slots_v : Value) (t_1_loops_v : Value) (a_2b : Nat) (a_2r : Nat) {r : Bool × (List (Int × S_compile_types))} (h : compile_Check_1_30 n at_0 t_1 a_2 = some r) :
  Meets Try.prog 30 [.int .i64 at_0, .agg #[t_1_stack_v, t_1_slots_v, t_1_loops_v], boxP a_2b 0] [ro t_1_stack_v 1 (t_1.stack_.map (eInt .i64)), ro t_1_slots_v 1 (t_1.slots_.map (eInt .i64)), ro t_1_loops_v 1 (t_1.loops_.map (eInt .i64)), nmap a_2r (fun n : Int => Value.int .i64 n) NC_compile_types_71 a_2, box a_2b [.map (some a_2r)]] (fun v G => v = .bool r.1 ∧ G = [nmap a_2r (fun n : Int => Value.int .i64 n) NC_compile_types_71 r.2, box a_2b [.map (some a_2r)]]) := by
 refine fn_of_run Try.func30 rfl Try.ntmps30 rfl (fun w0 o0 => ?_)
 refine run_seq ?_
 refine run_region' ?_
 refine ot rfl rfl (t_box rfl) ?_
 rintro _ _ ⟨b1, rfl, rfl⟩
 refine oy rfl rfl (y_assign rfl) ?_
 refine ops_nil ?_
 refine goes_code ?_
 refine run_seq ?_
 refine run_seq ?_
 refine run_region' ?_
 refine oy rfl rfl (y_load_box 4 Try.isAgg72 rfl rfl rfl) ?_
 refine oy rfl rfl (y_move rfl) ?_
 refine ot rfl rfl (t_nlookup2 (C := NC_compile_types_71) (k := at_0) (z0 := (S_compile_types.mk [] [] [])) (q := ((mget a_2 at_0).getD (S_compile_types.mk [] [] []))) (g0 := ((.slice none 0 0), (.slice none 0 0), (.slice none 0 0))) 3 (key_int .i64) Try.runUnderlying72 Try.runUnderlying3 Try.zeroValue71 (has_all (has_true nil_ro_any (has_true nil_ro_any (has_true nil_ro_any has_nil)))) rfl rfl rfl rfl) ?_
 rintro _ _ ⟨⟨g2, g3, g4⟩, rfl, rfl⟩
 refine oy rfl rfl (y_move rfl) ?_
 refine oy rfl rfl (y_extract rfl rfl) ?_
 refine oy rfl rfl (y_extract rfl rfl) ?_
 refine ot rfl rfl (t_alloc Try.zeroValue71) ?_
 rintro _ _ ⟨b5, rfl, rfl⟩
 refine ops_slc 6 rfl reads_ro (fun hs6 hs6o => ?_)
 refine ops_slc 7 rfl reads_ro (fun hs7 hs7o => ?_)
 refine ops_slc 8 rfl reads_ro (fun hs8 hs8o => ?_)
 refine ot rfl rfl (t_store 9 Try.sizeOf71 rfl rfl rfl rfl (by simp [Value.cells, boxP]) (allL_cons hs6o (allL_cons hs7o (allL_cons hs8o (allL_nil))))) ?_
 rintro _ _ ⟨rfl, rfl⟩
 refine ops_turn (retell 9 (g := box b5 [g2, g3, g4]) rfl rfl) ?_
 refine oy rfl rfl (y_assign rfl) ?_
 refine ops_nil ?_
 refine goes_code ?_
 refine run_seq ?_
 refine run_weak [(0, .int .i64 at_0), (2, boxP a_2b 0), (4, boxP b1 0), (6, boxP b5 0), (7, .bool ((mget a_2 at_0).isSome))] [0, 1, 2, 3, 4, 5, 6, 7, 8, 9] [ro t_1_stack_v 1 (t_1.stack_.map (eInt .i64)), ro t_1_slots_v 1 (t_1.slots_.map (eInt .i64)), ro t_1_loops_v 1 (t_1.loops_.map (eInt .i64)), nmap a_2r (fun n : Int => Value.int .i64 n) NC_compile_types_71 a_2, box a_2b [.map (some a_2r)], box b1 [t_1_stack_v, t_1_slots_v, t_1_loops_v], ro g2 1 ((((mget a_2 at_0).getD (S_compile_types.mk [] [] [])).stack_).map (eInt .i64)), ro g3 1 ((((mget a_2 at_0).getD (S_compile_types.mk [] [] [])).slots_).map (eInt .i64)), ro g4 1 ((((mget a_2 at_0).getD (S_compile_types.mk [] [] [])).loops_).map (eInt .i64)), box b5 [g2, g3, g4]] (qv5 rfl rfl rfl rfl rfl) (by decide) rfl ?_
 refine run_region' ?_
 refine oy rfl rfl (y_move rfl) ?_
 refine ops_nil ?_
 refine goes_code ?_
 refine run_cond ((mget a_2 at_0).isSome) rfl (fun hc9 => ?_) (fun hc9 => ?_)
 ·replace h := cond_t h hc9
  refine run_seq ?_
  refine run_region' ?_
  refine oy rfl rfl (y_load_boxagg (c := [t_1_stack_v, t_1_slots_v, t_1_loops_v]) 5 Try.isAgg71 Try.sizeOf71 rfl rfl rfl) ?_
  refine oy rfl rfl (y_load_boxagg (c := [g2, g3, g4]) 9 Try.isAgg71 Try.sizeOf71 rfl rfl rfl) ?_
  obtain ⟨r10, hr11, h⟩ := obind_some h
  refine ot rfl rfl (t_callx (vs := [.agg #[t_1_stack_v, t_1_slots_v, t_1_loops_v], .agg #[g2, g3, g4]]) (cs := []) [(0, 0), (1, 0), (2, 0), (6, 0), (7, 0), (8, 0)] rfl Try.call31 rfl (compile_same_ok n  t_1 (S_compile_types.mk (((mget a_2 at_0).getD (S_compile_types.mk [] [] [])).stack_) (((mget a_2 at_0).getD (S_compile_types.mk [] [] [])).slots_) (((mget a_2 at_0).getD (S_compile_types.mk [] [] [])).loops_)) t_1_stack_v t_1_slots_v t_1_loops_v g2 g3 g4 hr11) (showsX_view 0 rfl views_ro (showsX_view 1 rfl views_ro (showsX_view 2 rfl views_ro (showsX_view 6 rfl views_ro (showsX_view 7 rfl views_ro (showsX_view 8 rfl views_ro showsX_nil)))))) rfl (.inl rfl)) ?_
  rintro _ _ ⟨_, ⟨rfl, rfl⟩, rfl⟩
  refine oy rfl rfl (y_assign rfl) ?_
  refine ops_nil ?_
  refine goes_code ?_
  refine run_ret ?_
  obtain rfl := some_eq h
  refine fin_slots [5] [.bool r10] [3, 4] [nmap a_2r (fun n : Int => Value.int .i64 n) NC_compile_types_71 a_2, box a_2b [.map (some a_2r)]] Try.results30 rfl (by decide) rfl ?_
  exact ⟨rfl, rfl⟩
 ·replace h := cond_f h hc9
  refine run_skip ?_
  refine goes_code ?_
  refine run_seq ?_
  refine run_region' ?_
  refine oy rfl rfl (y_load_box 4 Try.isAgg72 rfl rfl rfl) ?_
  refine oy rfl rfl (y_move rfl) ?_
  refine oy rfl rfl (y_load_boxagg (c := [t_1_stack_v, t_1_slots_v, t_1_loops_v]) 5 Try.isAgg71 Try.sizeOf71 rfl rfl rfl) ?_
  refine ot rfl rfl (t_nput (C := NC_compile_types_71) (k := at_0) (v := t_1) (t_1_stack_v, t_1_slots_v, t_1_loops_v) 3 (key_int .i64) Try.runUnderlying72 Try.runUnderlying3 rfl rfl rfl rfl (has_cons 0 rfl (has_cons 1 rfl (has_cons 2 rfl has_nil))) false) ?_
  rintro _ _ ⟨rfl, rfl⟩
  refine ops_nil ?_
  refine goes_code ?_
  refine run_seq ?_
  refine run_region' ?_
  refine oy rfl rfl (y_assign rfl) ?_
  refine ops_nil ?_
  refine goes_code ?_
  refine run_ret ?_
  obtain rfl := some_eq h
  refine fin_slots [5] [.bool true] [3, 4] [nmap a_2r (fun n : Int => Value.int .i64 n) NC_compile_types_71 (mput a_2 at_0 t_1), box a_2b [.map (some a_2r)]] Try.results30 rfl (by decide) rfl ?_
  exact ⟨rfl, rfl⟩

end Go.Proofs.Ytgjdaamkfpbgpaa
