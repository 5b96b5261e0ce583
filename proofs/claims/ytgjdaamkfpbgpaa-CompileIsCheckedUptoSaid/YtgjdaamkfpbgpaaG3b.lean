/-
  Functions that the law CompileMakesAsSpecified needs, lifted.
-/
import Derived.Test.YtgjdaamkfpbgpaaG3a
namespace Go.Proofs.Ytgjdaamkfpbgpaa
open Go.Abs
set_option linter.unusedVariables false
set_option linter.unusedSimpArgs false
set_option maxRecDepth 20000
set_option maxHeartbeats 4000000

def ref20_RightExpr_L1 (x_0 : S_api_TExpr) (vars_1 : (List Int)) (deep_2 : Int) (rec_ref20_RightExpr : S_api_TExpr → (List Int) → Int → Option (Bool)) : ((List Int) × Int) → Option (Lp ((List Int) × Int) (Lp ((List Int)) (Bool))) :=
 fun (kinds_62, k_63) =>
  cond (decide (k_63 < (x_0.Args.length : Int)))
   (idx x_0.Args k_63 fun x70 =>
   obind (rec_ref20_RightExpr x70 vars_1 (IntKind.i64.wrap (deep_2 + 1))) fun r72 =>
   cond (!r72)
    (some (.stop (.stop false)))
    (need (kinds_62.length + ([x70.Type_] : List Int).length ≤ 4294967296) (
    some (.go ((kinds_62 ++ ([x70.Type_] : List Int)), (IntKind.i64.wrap (k_63 + 1)))))))
   (some (.stop (.go kinds_62)))
def ref20_RightExpr_body (n : Nat) (rec_ref20_RightExpr : S_api_TExpr → (List Int) → Int → Option (Bool)) (x_0 : S_api_TExpr) (vars_1 : (List Int)) (deep_2 : Int) : Option (Bool) :=
 cond (decide (200 < deep_2))
  (some false)
  (cond (((decide (x_0.Op ≠ 1) && decide (x_0.N ≠ 0)) || (decide (x_0.Op ≠ 3) && decide (x_0.Slot ≠ 0))) || ((decide (x_0.Op ≠ 2) && decide (x_0.Op ≠ 6)) && decide (0 < (x_0.S.length : Int))))
   (some false)
   (cond (decide (1 ≤ x_0.Op) && decide (x_0.Op ≤ 7))
    (obind (ref20_leaf x_0 vars_1) fun r26 =>
    some ((decide ((x_0.Args.length : Int) = 0) && decide (r26 ≠ 0)) && decide (x_0.Type_ = r26)))
    (cond ((((decide (x_0.Op = 8) || decide (x_0.Op = 9)) && decide ((x_0.Args.length : Int) ≠ 1)) || ((!(decide (x_0.Op = 8) || decide (x_0.Op = 9))) && decide ((x_0.Args.length : Int) < 2))) || (((!(decide (x_0.Op = 8) || decide (x_0.Op = 9))) && decide (2 < (x_0.Args.length : Int))) && decide (x_0.Op ≠ 23)))
     (some false)
     (bindJ (S := (List Int))
      (iter (ref20_RightExpr_L1 x_0 vars_1 deep_2 rec_ref20_RightExpr) n (([] : List Int), 0))
     (fun kinds_56 =>
      obind (ref20_result n x_0.Op kinds_56) fun r79 =>
      some (decide (r79 ≠ 0) && decide (x_0.Type_ = r79)))))))
theorem ref20_RightExpr_body_ok (n : Nat) (rec_ref20_RightExpr : S_api_TExpr → (List Int) → Int → Option (Bool)) (hrec_ref20_RightExpr : ∀ (x_0 : S_api_TExpr) (vars_1 : (List Int)) (deep_2 : Int) (x_0_Argsv : Value) (vars_1v : Value) {r : Bool}, rec_ref20_RightExpr x_0 vars_1 deep_2 = some r → Meets Try.prog 34 [.agg #[.int .i64 x_0.Op, .int .i64 x_0.Type_, .int .i64 x_0.N, .int .i64 x_0.Slot, .string (bs x_0.S), x_0_Argsv], vars_1v, .int .i64 deep_2] [nro x_0_Argsv NC_api_TExpr_48 x_0.Args, ro vars_1v 1 (vars_1.map (eInt .i64))] (fun v G => v = .bool r ∧ G = [])) (x_0 : S_api_TExpr) (vars_1 : (List Int)) (deep_2 : Int) (x_0_Argsv : Value) (vars_1v : Value) {r : Bool} (h : ref20_RightExpr_body n rec_ref20_RightExpr x_0 vars_1 deep_2 = some r) :
  Meets Try.prog 34 [.agg #[.int .i64 x_0.Op, .int .i64 x_0.Type_, .int .i64 x_0.N, .int .i64 x_0.Slot, .string (bs x_0.S), x_0_Argsv], vars_1v, .int .i64 deep_2] [nro x_0_Argsv NC_api_TExpr_48 x_0.Args, ro vars_1v 1 (vars_1.map (eInt .i64))] (fun v G => v = .bool r ∧ G = []) := by
 refine fn_of_run Try.func34 rfl Try.ntmps34 rfl (fun w0 o0 => ?_)
 refine run_seq ?_
 refine run_region' ?_
 refine ot rfl rfl (t_box rfl) ?_
 rintro _ _ ⟨b1, rfl, rfl⟩
 refine oy rfl rfl (y_assign rfl) ?_
 refine ops_nil ?_
 refine goes_code ?_
 refine run_seq ?_
 refine run_seq ?_
 refine run_region' ?_
 refine oy rfl rfl (y_move rfl) ?_
 refine oy rfl rfl (y_gtr rfl rfl) ?_
 refine ops_nil ?_
 refine goes_code ?_
 refine run_cond (decide (200 < deep_2)) rfl (fun hc2 => ?_) (fun hc2 => ?_)
 ·replace h := cond_t h hc2
  refine run_seq ?_
  refine run_region' ?_
  refine oy rfl rfl (y_assign rfl) ?_
  refine ops_nil ?_
  refine goes_code ?_
  refine run_ret ?_
  obtain rfl := some_eq h
  refine fin_slots [6] [.bool false] [] [] Try.results34 rfl (by decide) rfl ?_
  exact ⟨rfl, rfl⟩
 ·replace h := cond_f h hc2
  refine run_skip ?_
  refine goes_code ?_
  refine run_seq ?_
  refine run_seq ?_
  refine run_region' ?_
  refine oy rfl rfl (y_fieldAddr_box (sz := 0) Try.runUnderlying48 rfl Try.sizeOf3 rfl) ?_
  refine oy rfl rfl (y_load_box 2 Try.isAgg3 rfl rfl rfl) ?_
  refine oy rfl rfl (y_neq rfl rfl) ?_
  refine oy rfl rfl (y_move rfl) ?_
  refine ops_cut 4 (Bool) (fun σ => [(1, vars_1v), (2, .int .i64 deep_2), (3, boxP b1 0), (23, .bool σ)]) (fun σ => [nro x_0_Argsv NC_api_TExpr_48 x_0.Args, ro vars_1v 1 (vars_1.map (eInt .i64)), box b1 [.int .i64 x_0.Op, .int .i64 x_0.Type_, .int .i64 x_0.N, .int .i64 x_0.Slot, .string (bs x_0.S), x_0_Argsv]]) (fun σ => σ = (decide (x_0.Op ≠ 1) && decide (x_0.N ≠ 0))) (fun L3 hL4 => ?_) ?_
  ·refine ops_split 19 (decide (x_0.Op ≠ 1)) rfl (fun hg5 => ?_) (fun hg5 => ?_)
   ·skip
    refine ops_y (wg 3 true 19 rfl rfl rfl rfl) rfl (y_fieldAddr_box (sz := 0) Try.runUnderlying48 rfl Try.sizeOf3 rfl) ?_
    refine ops_y (wg 3 true 19 rfl rfl rfl rfl) rfl (y_load_box 2 Try.isAgg3 rfl rfl rfl) ?_
    refine ops_y (wg 3 true 19 rfl rfl rfl rfl) rfl (y_neq rfl rfl) ?_
    refine oy rfl rfl (y_pick (b := true) rfl rfl) ?_
    refine ops_nil ?_
    exact goes_cut hL4 (decide (x_0.N ≠ 0)) [0, 1, 2] (qv4 rfl rfl rfl rfl) (by decide) rfl (by rw [hg5]; simp)
   ·skip
    refine ops_no 3 true 19 rfl rfl rfl rfl rfl ?_
    refine ops_no 3 true 19 rfl rfl rfl rfl rfl ?_
    refine ops_no 3 true 19 rfl rfl rfl rfl rfl ?_
    refine oy rfl rfl (y_pick (b := false) rfl rfl) ?_
    refine ops_nil ?_
    exact goes_cut hL4 false [0, 1, 2] (qv4 rfl rfl rfl rfl) (by decide) rfl (by rw [hg5]; simp)
  rintro _ rfl
  refine oy rfl rfl (y_move rfl) ?_
  refine ops_cut 9 (Bool) (fun σ => [(1, vars_1v), (2, .int .i64 deep_2), (3, boxP b1 0), (33, .bool σ)]) (fun σ => [nro x_0_Argsv NC_api_TExpr_48 x_0.Args, ro vars_1v 1 (vars_1.map (eInt .i64)), box b1 [.int .i64 x_0.Op, .int .i64 x_0.Type_, .int .i64 x_0.N, .int .i64 x_0.Slot, .string (bs x_0.S), x_0_Argsv]]) (fun σ => σ = ((decide (x_0.Op ≠ 1) && decide (x_0.N ≠ 0)) || (decide (x_0.Op ≠ 3) && decide (x_0.Slot ≠ 0)))) (fun L6 hL7 => ?_) ?_
  ·refine ops_split 24 (decide (x_0.Op ≠ 1) && decide (x_0.N ≠ 0)) rfl (fun hg8 => ?_) (fun hg8 => ?_)
   ·skip
    refine ops_no 8 false 24 rfl rfl rfl rfl rfl ?_
    refine ops_no 8 false 24 rfl rfl rfl rfl rfl ?_
    refine ops_no 8 false 24 rfl rfl rfl rfl rfl ?_
    refine ops_no 8 false 24 rfl rfl rfl rfl rfl ?_
    refine ops_un 12 true 28 rfl rfl rfl rfl rfl ?_
    refine ops_un 12 true 28 rfl rfl rfl rfl rfl ?_
    refine ops_un 12 true 28 rfl rfl rfl rfl rfl ?_
    refine ops_no 8 false 24 rfl rfl rfl rfl rfl ?_
    refine oy rfl rfl (y_pick (b := true) rfl rfl) ?_
    refine ops_nil ?_
    exact goes_cut hL7 true [0, 1, 2] (qv4 rfl rfl rfl rfl) (by decide) rfl (by rw [hg8]; simp)
   ·skip
    refine ops_y (wg 8 false 24 rfl rfl rfl rfl) rfl (y_fieldAddr_box (sz := 0) Try.runUnderlying48 rfl Try.sizeOf3 rfl) ?_
    refine ops_y (wg 8 false 24 rfl rfl rfl rfl) rfl (y_load_box 2 Try.isAgg3 rfl rfl rfl) ?_
    refine ops_y (wg 8 false 24 rfl rfl rfl rfl) rfl (y_neq rfl rfl) ?_
    refine ops_y (wg 8 false 24 rfl rfl rfl rfl) rfl (y_move rfl) ?_
    refine ops_cut 4 (Bool) (fun σ => [(1, vars_1v), (2, .int .i64 deep_2), (3, boxP b1 0), (24, .bool false), (32, .bool σ)]) (fun σ => [nro x_0_Argsv NC_api_TExpr_48 x_0.Args, ro vars_1v 1 (vars_1.map (eInt .i64)), box b1 [.int .i64 x_0.Op, .int .i64 x_0.Type_, .int .i64 x_0.N, .int .i64 x_0.Slot, .string (bs x_0.S), x_0_Argsv]]) (fun σ => σ = (decide (x_0.Op ≠ 3) && decide (x_0.Slot ≠ 0))) (fun L9 hL10 => ?_) ?_
    ·refine ops_split 28 (decide (x_0.Op ≠ 3)) rfl (fun hg11 => ?_) (fun hg11 => ?_)
     ·skip
      refine ops_y (wg 12 true 28 rfl rfl rfl rfl) rfl (y_fieldAddr_box (sz := 0) Try.runUnderlying48 rfl Try.sizeOf3 rfl) ?_
      refine ops_y (wg 12 true 28 rfl rfl rfl rfl) rfl (y_load_box 2 Try.isAgg3 rfl rfl rfl) ?_
      refine ops_y (wg 12 true 28 rfl rfl rfl rfl) rfl (y_neq rfl rfl) ?_
      refine ops_y (wg 8 false 24 rfl rfl rfl rfl) rfl (y_pick (b := true) rfl rfl) ?_
      refine ops_nil ?_
      exact goes_cut hL10 (decide (x_0.Slot ≠ 0)) [0, 1, 2] (qv5 rfl rfl rfl rfl rfl) (by decide) rfl (by rw [hg11]; simp)
     ·skip
      refine ops_no 12 true 28 rfl rfl rfl rfl rfl ?_
      refine ops_no 12 true 28 rfl rfl rfl rfl rfl ?_
      refine ops_no 12 true 28 rfl rfl rfl rfl rfl ?_
      refine ops_y (wg 8 false 24 rfl rfl rfl rfl) rfl (y_pick (b := false) rfl rfl) ?_
      refine ops_nil ?_
      exact goes_cut hL10 false [0, 1, 2] (qv5 rfl rfl rfl rfl rfl) (by decide) rfl (by rw [hg11]; simp)
    rintro _ rfl
    refine oy rfl rfl (y_pick (b := false) rfl rfl) ?_
    refine ops_nil ?_
    exact goes_cut hL7 (decide (x_0.Op ≠ 3) && decide (x_0.Slot ≠ 0)) [0, 1, 2] (qv4 rfl rfl rfl rfl) (by decide) rfl (by rw [hg8]; simp)
  rintro _ rfl
  refine oy rfl rfl (y_move rfl) ?_
  refine ops_cut 15 (Bool) (fun σ => [(1, vars_1v), (2, .int .i64 deep_2), (3, boxP b1 0), (49, .bool σ)]) (fun σ => [nro x_0_Argsv NC_api_TExpr_48 x_0.Args, ro vars_1v 1 (vars_1.map (eInt .i64)), box b1 [.int .i64 x_0.Op, .int .i64 x_0.Type_, .int .i64 x_0.N, .int .i64 x_0.Slot, .string (bs x_0.S), x_0_Argsv]]) (fun σ => σ = (((decide (x_0.Op ≠ 1) && decide (x_0.N ≠ 0)) || (decide (x_0.Op ≠ 3) && decide (x_0.Slot ≠ 0))) || ((decide (x_0.Op ≠ 2) && decide (x_0.Op ≠ 6)) && decide (0 < (x_0.S.length : Int))))) (fun L12 hL13 => ?_) ?_
  ·refine ops_split 34 ((decide (x_0.Op ≠ 1) && decide (x_0.N ≠ 0)) || (decide (x_0.Op ≠ 3) && decide (x_0.Slot ≠ 0))) rfl (fun hg14 => ?_) (fun hg14 => ?_)
   ·skip
    refine ops_no 18 false 34 rfl rfl rfl rfl rfl ?_
    refine ops_no 18 false 34 rfl rfl rfl rfl rfl ?_
    refine ops_no 18 false 34 rfl rfl rfl rfl rfl ?_
    refine ops_no 18 false 34 rfl rfl rfl rfl rfl ?_
    refine ops_un 22 true 38 rfl rfl rfl rfl rfl ?_
    refine ops_un 22 true 38 rfl rfl rfl rfl rfl ?_
    refine ops_un 22 true 38 rfl rfl rfl rfl rfl ?_
    refine ops_no 18 false 34 rfl rfl rfl rfl rfl ?_
    refine ops_no 18 false 34 rfl rfl rfl rfl rfl ?_
    refine ops_un 27 true 43 rfl rfl rfl rfl rfl ?_
    refine ops_un 27 true 43 rfl rfl rfl rfl rfl ?_
    refine ops_un 27 true 43 rfl rfl rfl rfl rfl ?_
    refine ops_un 27 true 43 rfl rfl rfl rfl rfl ?_
    refine ops_no 18 false 34 rfl rfl rfl rfl rfl ?_
    refine ops_weak [(1, vars_1v), (2, .int .i64 deep_2), (3, boxP b1 0), (34, .bool true), (48, undef)] [0, 1, 2] [nro x_0_Argsv NC_api_TExpr_48 x_0.Args, ro vars_1v 1 (vars_1.map (eInt .i64)), box b1 [.int .i64 x_0.Op, .int .i64 x_0.Type_, .int .i64 x_0.N, .int .i64 x_0.Slot, .string (bs x_0.S), x_0_Argsv]] (qv5 rfl rfl rfl rfl rfl) (by decide) rfl ?_
    refine oy rfl rfl (y_pick (b := true) rfl rfl) ?_
    refine ops_nil ?_
    exact goes_cut hL13 true [0, 1, 2] (qv4 rfl rfl rfl rfl) (by decide) rfl (by rw [hg14]; simp)
   ·skip
    refine ops_y (wg 18 false 34 rfl rfl rfl rfl) rfl (y_fieldAddr_box (sz := 0) Try.runUnderlying48 rfl Try.sizeOf3 rfl) ?_
    refine ops_y (wg 18 false 34 rfl rfl rfl rfl) rfl (y_load_box 2 Try.isAgg3 rfl rfl rfl) ?_
    refine ops_y (wg 18 false 34 rfl rfl rfl rfl) rfl (y_neq rfl rfl) ?_
    refine ops_y (wg 18 false 34 rfl rfl rfl rfl) rfl (y_move rfl) ?_
    refine ops_cut 4 (Bool) (fun σ => [(1, vars_1v), (2, .int .i64 deep_2), (3, boxP b1 0), (34, .bool false), (42, .bool σ)]) (fun σ => [nro x_0_Argsv NC_api_TExpr_48 x_0.Args, ro vars_1v 1 (vars_1.map (eInt .i64)), box b1 [.int .i64 x_0.Op, .int .i64 x_0.Type_, .int .i64 x_0.N, .int .i64 x_0.Slot, .string (bs x_0.S), x_0_Argsv]]) (fun σ => σ = (decide (x_0.Op ≠ 2) && decide (x_0.Op ≠ 6))) (fun L15 hL16 => ?_) ?_
    ·refine ops_split 38 (decide (x_0.Op ≠ 2)) rfl (fun hg17 => ?_) (fun hg17 => ?_)
     ·skip
      refine ops_y (wg 22 true 38 rfl rfl rfl rfl) rfl (y_fieldAddr_box (sz := 0) Try.runUnderlying48 rfl Try.sizeOf3 rfl) ?_
      refine ops_y (wg 22 true 38 rfl rfl rfl rfl) rfl (y_load_box 2 Try.isAgg3 rfl rfl rfl) ?_
      refine ops_y (wg 22 true 38 rfl rfl rfl rfl) rfl (y_neq rfl rfl) ?_
      refine ops_y (wg 18 false 34 rfl rfl rfl rfl) rfl (y_pick (b := true) rfl rfl) ?_
      refine ops_nil ?_
      exact goes_cut hL16 (decide (x_0.Op ≠ 6)) [0, 1, 2] (qv5 rfl rfl rfl rfl rfl) (by decide) rfl (by rw [hg17]; simp)
     ·skip
      refine ops_no 22 true 38 rfl rfl rfl rfl rfl ?_
      refine ops_no 22 true 38 rfl rfl rfl rfl rfl ?_
      refine ops_no 22 true 38 rfl rfl rfl rfl rfl ?_
      refine ops_y (wg 18 false 34 rfl rfl rfl rfl) rfl (y_pick (b := false) rfl rfl) ?_
      refine ops_nil ?_
      exact goes_cut hL16 false [0, 1, 2] (qv5 rfl rfl rfl rfl rfl) (by decide) rfl (by rw [hg17]; simp)
    rintro _ rfl
    refine ops_y (wg 18 false 34 rfl rfl rfl rfl) rfl (y_move rfl) ?_
    refine ops_cut 5 (Bool) (fun σ => [(1, vars_1v), (2, .int .i64 deep_2), (3, boxP b1 0), (34, .bool false), (48, .bool σ)]) (fun σ => [nro x_0_Argsv NC_api_TExpr_48 x_0.Args, ro vars_1v 1 (vars_1.map (eInt .i64)), box b1 [.int .i64 x_0.Op, .int .i64 x_0.Type_, .int .i64 x_0.N, .int .i64 x_0.Slot, .string (bs x_0.S), x_0_Argsv]]) (fun σ => σ = ((decide (x_0.Op ≠ 2) && decide (x_0.Op ≠ 6)) && decide (0 < (x_0.S.length : Int)))) (fun L18 hL19 => ?_) ?_
    ·refine ops_split 43 (decide (x_0.Op ≠ 2) && decide (x_0.Op ≠ 6)) rfl (fun hg20 => ?_) (fun hg20 => ?_)
     ·skip
      refine ops_y (wg 27 true 43 rfl rfl rfl rfl) rfl (y_fieldAddr_box (sz := 0) Try.runUnderlying48 rfl Try.sizeOf9 rfl) ?_
      refine ops_y (wg 27 true 43 rfl rfl rfl rfl) rfl (y_load_box 2 Try.isAgg9 rfl rfl rfl) ?_
      refine ops_y (wg 27 true 43 rfl rfl rfl rfl) rfl (y_len_str rfl Try.runUnderlying9 rfl) ?_
      refine ops_y (wg 27 true 43 rfl rfl rfl rfl) rfl (y_gtr rfl rfl) ?_
      refine ops_y (wg 18 false 34 rfl rfl rfl rfl) rfl (y_pick (b := true) rfl rfl) ?_
      refine ops_nil ?_
      exact goes_cut hL19 (decide (0 < (x_0.S.length : Int))) [0, 1, 2] (qv5 rfl rfl rfl rfl rfl) (by decide) rfl (by rw [hg20]; simp)
     ·skip
      refine ops_no 27 true 43 rfl rfl rfl rfl rfl ?_
      refine ops_no 27 true 43 rfl rfl rfl rfl rfl ?_
      refine ops_no 27 true 43 rfl rfl rfl rfl rfl ?_
      refine ops_no 27 true 43 rfl rfl rfl rfl rfl ?_
      refine ops_y (wg 18 false 34 rfl rfl rfl rfl) rfl (y_pick (b := false) rfl rfl) ?_
      refine ops_nil ?_
      exact goes_cut hL19 false [0, 1, 2] (qv5 rfl rfl rfl rfl rfl) (by decide) rfl (by rw [hg20]; simp)
    rintro _ rfl
    refine oy rfl rfl (y_pick (b := false) rfl rfl) ?_
    refine ops_nil ?_
    exact goes_cut hL13 ((decide (x_0.Op ≠ 2) && decide (x_0.Op ≠ 6)) && decide (0 < (x_0.S.length : Int))) [0, 1, 2] (qv4 rfl rfl rfl rfl) (by decide) rfl (by rw [hg14]; simp)
  rintro _ rfl
  refine ops_nil ?_
  refine goes_code ?_
  refine run_cond (((decide (x_0.Op ≠ 1) && decide (x_0.N ≠ 0)) || (decide (x_0.Op ≠ 3) && decide (x_0.Slot ≠ 0))) || ((decide (x_0.Op ≠ 2) && decide (x_0.Op ≠ 6)) && decide (0 < (x_0.S.length : Int)))) rfl (fun hc21 => ?_) (fun hc21 => ?_)
  ·replace h := cond_t h hc21
   refine run_seq ?_
   refine run_region' ?_
   refine oy rfl rfl (y_assign rfl) ?_
   refine ops_nil ?_
   refine goes_code ?_
   refine run_ret ?_
   obtain rfl := some_eq h
   refine fin_slots [6] [.bool false] [] [] Try.results34 rfl (by decide) rfl ?_
   exact ⟨rfl, rfl⟩
  ·replace h := cond_f h hc21
   refine run_skip ?_
   refine goes_code ?_
   refine run_seq ?_
   refine run_seq ?_
   refine run_region' ?_
   refine oy rfl rfl (y_fieldAddr_box (sz := 0) Try.runUnderlying48 rfl Try.sizeOf3 rfl) ?_
   refine oy rfl rfl (y_load_box 2 Try.isAgg3 rfl rfl rfl) ?_
   refine oy rfl rfl (y_geq rfl rfl) ?_
   refine oy rfl rfl (y_move rfl) ?_
   refine ops_cut 4 (Bool) (fun σ => [(1, vars_1v), (2, .int .i64 deep_2), (3, boxP b1 0), (57, .bool σ)]) (fun σ => [nro x_0_Argsv NC_api_TExpr_48 x_0.Args, ro vars_1v 1 (vars_1.map (eInt .i64)), box b1 [.int .i64 x_0.Op, .int .i64 x_0.Type_, .int .i64 x_0.N, .int .i64 x_0.Slot, .string (bs x_0.S), x_0_Argsv]]) (fun σ => σ = (decide (1 ≤ x_0.Op) && decide (x_0.Op ≤ 7))) (fun L22 hL23 => ?_) ?_
   ·refine ops_split 53 (decide (1 ≤ x_0.Op)) rfl (fun hg24 => ?_) (fun hg24 => ?_)
    ·skip
     refine ops_y (wg 3 true 53 rfl rfl rfl rfl) rfl (y_fieldAddr_box (sz := 0) Try.runUnderlying48 rfl Try.sizeOf3 rfl) ?_
     refine ops_y (wg 3 true 53 rfl rfl rfl rfl) rfl (y_load_box 2 Try.isAgg3 rfl rfl rfl) ?_
     refine ops_y (wg 3 true 53 rfl rfl rfl rfl) rfl (y_leq rfl rfl) ?_
     refine oy rfl rfl (y_pick (b := true) rfl rfl) ?_
     refine ops_nil ?_
     exact goes_cut hL23 (decide (x_0.Op ≤ 7)) [0, 1, 2] (qv4 rfl rfl rfl rfl) (by decide) rfl (by rw [hg24]; simp)
    ·skip
     refine ops_no 3 true 53 rfl rfl rfl rfl rfl ?_
     refine ops_no 3 true 53 rfl rfl rfl rfl rfl ?_
     refine ops_no 3 true 53 rfl rfl rfl rfl rfl ?_
     refine oy rfl rfl (y_pick (b := false) rfl rfl) ?_
     refine ops_nil ?_
     exact goes_cut hL23 false [0, 1, 2] (qv4 rfl rfl rfl rfl) (by decide) rfl (by rw [hg24]; simp)
   rintro _ rfl
   refine ops_nil ?_
   refine goes_code ?_
   refine run_cond (decide (1 ≤ x_0.Op) && decide (x_0.Op ≤ 7)) rfl (fun hc25 => ?_) (fun hc25 => ?_)
   ·replace h := cond_t h hc25
    refine run_seq ?_
    refine run_region' ?_
    refine oy rfl rfl (y_load_boxagg (c := [.int .i64 x_0.Op, .int .i64 x_0.Type_, .int .i64 x_0.N, .int .i64 x_0.Slot, .string (bs x_0.S), x_0_Argsv]) 2 Try.isAgg48 Try.sizeOf48 rfl rfl rfl) ?_
    refine oy rfl rfl (y_move rfl) ?_
    obtain ⟨r26, hr27, h⟩ := obind_some h
    refine ot rfl rfl (t_callx (vs := [.agg #[.int .i64 x_0.Op, .int .i64 x_0.Type_, .int .i64 x_0.N, .int .i64 x_0.Slot, .string (bs x_0.S), x_0_Argsv], vars_1v]) (cs := []) [(0, 0), (1, 0)] rfl Try.call58 rfl (ref20_leaf_ok  x_0 vars_1 x_0_Argsv vars_1v hr27) (showsX_view 0 rfl views_nro (showsX_view 1 rfl views_ro showsX_nil)) rfl (.inl rfl)) ?_
    rintro _ _ ⟨_, ⟨rfl, rfl⟩, rfl⟩
    refine oy rfl rfl (y_assign rfl) ?_
    refine ops_nil ?_
    refine goes_code ?_
    refine run_seq ?_
    refine run_region' ?_
    refine oy rfl rfl (y_fieldAddr_box (sz := 0) Try.runUnderlying48 rfl Try.sizeOf46 rfl) ?_
    refine oy rfl rfl (y_load_box 2 Try.isAgg46 rfl rfl rfl) ?_
    refine oy rfl rfl (y_lenN 0 rfl Try.runUnderlying46 rfl rfl readsN_ro) ?_
    refine oy rfl rfl (y_eql rfl rfl) ?_
    refine oy rfl rfl (y_move rfl) ?_
    refine ops_cut 3 (Bool) (fun σ => [(3, boxP b1 0), (7, .int .i64 r26), (68, .bool σ)]) (fun σ => [nro x_0_Argsv NC_api_TExpr_48 x_0.Args, box b1 [.int .i64 x_0.Op, .int .i64 x_0.Type_, .int .i64 x_0.N, .int .i64 x_0.Slot, .string (bs x_0.S), x_0_Argsv]]) (fun σ => σ = (decide ((x_0.Args.length : Int) = 0) && decide (r26 ≠ 0))) (fun L28 hL29 => ?_) ?_
    ·refine ops_split 65 (decide ((x_0.Args.length : Int) = 0)) rfl (fun hg30 => ?_) (fun hg30 => ?_)
     ·skip
      refine ops_y (wg 4 true 65 rfl rfl rfl rfl) rfl (y_move rfl) ?_
      refine ops_y (wg 4 true 65 rfl rfl rfl rfl) rfl (y_neq rfl rfl) ?_
      refine oy rfl rfl (y_pick (b := true) rfl rfl) ?_
      refine ops_nil ?_
      exact goes_cut hL29 (decide (r26 ≠ 0)) [0, 2] (qv3 rfl rfl rfl) (by decide) rfl (by rw [hg30]; simp)
     ·skip
      refine ops_no 4 true 65 rfl rfl rfl rfl rfl ?_
      refine ops_no 4 true 65 rfl rfl rfl rfl rfl ?_
      refine oy rfl rfl (y_pick (b := false) rfl rfl) ?_
      refine ops_nil ?_
      exact goes_cut hL29 false [0, 2] (qv3 rfl rfl rfl) (by decide) rfl (by rw [hg30]; simp)
    rintro _ rfl
    refine oy rfl rfl (y_move rfl) ?_
    refine ops_cut 5 (Bool) (fun σ => [(74, .bool σ)]) (fun σ => []) (fun σ => σ = ((decide ((x_0.Args.length : Int) = 0) && decide (r26 ≠ 0)) && decide (x_0.Type_ = r26))) (fun L31 hL32 => ?_) ?_
    ·refine ops_split 69 (decide ((x_0.Args.length : Int) = 0) && decide (r26 ≠ 0)) rfl (fun hg33 => ?_) (fun hg33 => ?_)
     ·skip
      refine ops_y (wg 8 true 69 rfl rfl rfl rfl) rfl (y_fieldAddr_box (sz := 0) Try.runUnderlying48 rfl Try.sizeOf3 rfl) ?_
      refine ops_y (wg 8 true 69 rfl rfl rfl rfl) rfl (y_load_box 1 Try.isAgg3 rfl rfl rfl) ?_
      refine ops_y (wg 8 true 69 rfl rfl rfl rfl) rfl (y_move rfl) ?_
      refine ops_y (wg 8 true 69 rfl rfl rfl rfl) rfl (y_eql rfl rfl) ?_
      refine oy rfl rfl (y_pick (b := true) rfl rfl) ?_
      refine ops_nil ?_
      exact goes_cut hL32 (decide (x_0.Type_ = r26)) [] (qv1 rfl) (by decide) rfl (by rw [hg33]; simp)
     ·skip
      refine ops_no 8 true 69 rfl rfl rfl rfl rfl ?_
      refine ops_no 8 true 69 rfl rfl rfl rfl rfl ?_
      refine ops_no 8 true 69 rfl rfl rfl rfl rfl ?_
      refine ops_no 8 true 69 rfl rfl rfl rfl rfl ?_
      refine oy rfl rfl (y_pick (b := false) rfl rfl) ?_
      refine ops_nil ?_
      exact goes_cut hL32 false [] (qv1 rfl) (by decide) rfl (by rw [hg33]; simp)
    rintro _ rfl
    refine oy rfl rfl (y_assign rfl) ?_
    refine ops_nil ?_
    refine goes_code ?_
    refine run_ret ?_
    obtain rfl := some_eq h
    refine fin_slots [6] [.bool ((decide ((x_0.Args.length : Int) = 0) && decide (r26 ≠ 0)) && decide (x_0.Type_ = r26))] [] [] Try.results34 rfl (by decide) rfl ?_
    exact ⟨rfl, rfl⟩
   ·replace h := cond_f h hc25
    refine run_skip ?_
    refine goes_code ?_
    refine run_seq ?_
    refine run_region' ?_
    refine oy rfl rfl (y_fieldAddr_box (sz := 0) Try.runUnderlying48 rfl Try.sizeOf46 rfl) ?_
    refine oy rfl rfl (y_load_box 2 Try.isAgg46 rfl rfl rfl) ?_
    refine oy rfl rfl (y_lenN 0 rfl Try.runUnderlying46 rfl rfl readsN_ro) ?_
    refine oy rfl rfl (y_assign rfl) ?_
    refine ops_nil ?_
    refine goes_code ?_
    refine run_seq ?_
    refine run_region' ?_
    refine oy rfl rfl (y_fieldAddr_box (sz := 0) Try.runUnderlying48 rfl Try.sizeOf3 rfl) ?_
    refine oy rfl rfl (y_load_box 2 Try.isAgg3 rfl rfl rfl) ?_
    refine oy rfl rfl (y_eql rfl rfl) ?_
    refine oy rfl rfl (y_move rfl) ?_
    refine ops_cut 4 (Bool) (fun σ => [(1, vars_1v), (2, .int .i64 deep_2), (3, boxP b1 0), (8, .int .i64 (x_0.Args.length : Int)), (85, .bool σ)]) (fun σ => [nro x_0_Argsv NC_api_TExpr_48 x_0.Args, ro vars_1v 1 (vars_1.map (eInt .i64)), box b1 [.int .i64 x_0.Op, .int .i64 x_0.Type_, .int .i64 x_0.N, .int .i64 x_0.Slot, .string (bs x_0.S), x_0_Argsv]]) (fun σ => σ = (decide (x_0.Op = 8) || decide (x_0.Op = 9))) (fun L34 hL35 => ?_) ?_
    ·refine ops_split 81 (decide (x_0.Op = 8)) rfl (fun hg36 => ?_) (fun hg36 => ?_)
     ·skip
      refine ops_no 3 false 81 rfl rfl rfl rfl rfl ?_
      refine ops_no 3 false 81 rfl rfl rfl rfl rfl ?_
      refine ops_no 3 false 81 rfl rfl rfl rfl rfl ?_
      refine oy rfl rfl (y_pick (b := true) rfl rfl) ?_
      refine ops_nil ?_
      exact goes_cut hL35 true [0, 1, 2] (qv5 rfl rfl rfl rfl rfl) (by decide) rfl (by rw [hg36]; simp)
     ·skip
      refine ops_y (wg 3 false 81 rfl rfl rfl rfl) rfl (y_fieldAddr_box (sz := 0) Try.runUnderlying48 rfl Try.sizeOf3 rfl) ?_
      refine ops_y (wg 3 false 81 rfl rfl rfl rfl) rfl (y_load_box 2 Try.isAgg3 rfl rfl rfl) ?_
      refine ops_y (wg 3 false 81 rfl rfl rfl rfl) rfl (y_eql rfl rfl) ?_
      refine oy rfl rfl (y_pick (b := false) rfl rfl) ?_
      refine ops_nil ?_
      exact goes_cut hL35 (decide (x_0.Op = 9)) [0, 1, 2] (qv5 rfl rfl rfl rfl rfl) (by decide) rfl (by rw [hg36]; simp)
    rintro _ rfl
    refine oy rfl rfl (y_assign rfl) ?_
    refine ops_nil ?_
    refine goes_code ?_
    refine run_seq ?_
    refine run_seq ?_
    refine run_region' ?_
    refine oy rfl rfl (y_move rfl) ?_
    refine oy rfl rfl (y_move rfl) ?_
    refine ops_cut 3 (Bool) (fun σ => [(1, vars_1v), (2, .int .i64 deep_2), (3, boxP b1 0), (8, .int .i64 (x_0.Args.length : Int)), (9, .bool (decide (x_0.Op = 8) || decide (x_0.Op = 9))), (90, .bool σ)]) (fun σ => [nro x_0_Argsv NC_api_TExpr_48 x_0.Args, ro vars_1v 1 (vars_1.map (eInt .i64)), box b1 [.int .i64 x_0.Op, .int .i64 x_0.Type_, .int .i64 x_0.N, .int .i64 x_0.Slot, .string (bs x_0.S), x_0_Argsv]]) (fun σ => σ = ((decide (x_0.Op = 8) || decide (x_0.Op = 9)) && decide ((x_0.Args.length : Int) ≠ 1))) (fun L37 hL38 => ?_) ?_
    ·refine ops_split 87 (decide (x_0.Op = 8) || decide (x_0.Op = 9)) rfl (fun hg39 => ?_) (fun hg39 => ?_)
     ·skip
      refine ops_y (wg 1 true 87 rfl rfl rfl rfl) rfl (y_move rfl) ?_
      refine ops_y (wg 1 true 87 rfl rfl rfl rfl) rfl (y_neq rfl rfl) ?_
      refine oy rfl rfl (y_pick (b := true) rfl rfl) ?_
      refine ops_nil ?_
      exact goes_cut hL38 (decide ((x_0.Args.length : Int) ≠ 1)) [0, 1, 2] (qv6 rfl rfl rfl rfl rfl rfl) (by decide) rfl (by rw [hg39]; simp)
     ·skip
      refine ops_no 1 true 87 rfl rfl rfl rfl rfl ?_
      refine ops_no 1 true 87 rfl rfl rfl rfl rfl ?_
      refine oy rfl rfl (y_pick (b := false) rfl rfl) ?_
      refine ops_nil ?_
      exact goes_cut hL38 false [0, 1, 2] (qv6 rfl rfl rfl rfl rfl rfl) (by decide) rfl (by rw [hg39]; simp)
    rintro _ rfl
    refine oy rfl rfl (y_move rfl) ?_
    refine ops_cut 7 (Bool) (fun σ => [(1, vars_1v), (2, .int .i64 deep_2), (3, boxP b1 0), (8, .int .i64 (x_0.Args.length : Int)), (9, .bool (decide (x_0.Op = 8) || decide (x_0.Op = 9))), (98, .bool σ)]) (fun σ => [nro x_0_Argsv NC_api_TExpr_48 x_0.Args, ro vars_1v 1 (vars_1.map (eInt .i64)), box b1 [.int .i64 x_0.Op, .int .i64 x_0.Type_, .int .i64 x_0.N, .int .i64 x_0.Slot, .string (bs x_0.S), x_0_Argsv]]) (fun σ => σ = (((decide (x_0.Op = 8) || decide (x_0.Op = 9)) && decide ((x_0.Args.length : Int) ≠ 1)) || ((!(decide (x_0.Op = 8) || decide (x_0.Op = 9))) && decide ((x_0.Args.length : Int) < 2)))) (fun L40 hL41 => ?_) ?_
    ·refine ops_split 91 ((decide (x_0.Op = 8) || decide (x_0.Op = 9)) && decide ((x_0.Args.length : Int) ≠ 1)) rfl (fun hg42 => ?_) (fun hg42 => ?_)
     ·skip
      refine ops_no 5 false 91 rfl rfl rfl rfl rfl ?_
      refine ops_no 5 false 91 rfl rfl rfl rfl rfl ?_
      refine ops_no 5 false 91 rfl rfl rfl rfl rfl ?_
      refine ops_un 8 true 94 rfl rfl rfl rfl rfl ?_
      refine ops_un 8 true 94 rfl rfl rfl rfl rfl ?_
      refine ops_no 5 false 91 rfl rfl rfl rfl rfl ?_
      refine oy rfl rfl (y_pick (b := true) rfl rfl) ?_
      refine ops_nil ?_
      exact goes_cut hL41 true [0, 1, 2] (qv6 rfl rfl rfl rfl rfl rfl) (by decide) rfl (by rw [hg42]; simp)
     ·skip
      refine ops_y (wg 5 false 91 rfl rfl rfl rfl) rfl (y_move rfl) ?_
      refine ops_y (wg 5 false 91 rfl rfl rfl rfl) rfl (y_not rfl) ?_
      refine ops_y (wg 5 false 91 rfl rfl rfl rfl) rfl (y_move rfl) ?_
      refine ops_cut 3 (Bool) (fun σ => [(1, vars_1v), (2, .int .i64 deep_2), (3, boxP b1 0), (8, .int .i64 (x_0.Args.length : Int)), (9, .bool (decide (x_0.Op = 8) || decide (x_0.Op = 9))), (91, .bool false), (97, .bool σ)]) (fun σ => [nro x_0_Argsv NC_api_TExpr_48 x_0.Args, ro vars_1v 1 (vars_1.map (eInt .i64)), box b1 [.int .i64 x_0.Op, .int .i64 x_0.Type_, .int .i64 x_0.N, .int .i64 x_0.Slot, .string (bs x_0.S), x_0_Argsv]]) (fun σ => σ = ((!(decide (x_0.Op = 8) || decide (x_0.Op = 9))) && decide ((x_0.Args.length : Int) < 2))) (fun L43 hL44 => ?_) ?_
      ·refine ops_split 94 (!(decide (x_0.Op = 8) || decide (x_0.Op = 9))) rfl (fun hg45 => ?_) (fun hg45 => ?_)
       ·skip
        refine ops_y (wg 8 true 94 rfl rfl rfl rfl) rfl (y_move rfl) ?_
        refine ops_y (wg 8 true 94 rfl rfl rfl rfl) rfl (y_lss rfl rfl) ?_
        refine ops_y (wg 5 false 91 rfl rfl rfl rfl) rfl (y_pick (b := true) rfl rfl) ?_
        refine ops_nil ?_
        exact goes_cut hL44 (decide ((x_0.Args.length : Int) < 2)) [0, 1, 2] (qv7 rfl rfl rfl rfl rfl rfl rfl) (by decide) rfl (by rw [hg45]; simp)
       ·skip
        refine ops_no 8 true 94 rfl rfl rfl rfl rfl ?_
        refine ops_no 8 true 94 rfl rfl rfl rfl rfl ?_
        refine ops_y (wg 5 false 91 rfl rfl rfl rfl) rfl (y_pick (b := false) rfl rfl) ?_
        refine ops_nil ?_
        exact goes_cut hL44 false [0, 1, 2] (qv7 rfl rfl rfl rfl rfl rfl rfl) (by decide) rfl (by rw [hg45]; simp)
      rintro _ rfl
      refine oy rfl rfl (y_pick (b := false) rfl rfl) ?_
      refine ops_nil ?_
      exact goes_cut hL41 ((!(decide (x_0.Op = 8) || decide (x_0.Op = 9))) && decide ((x_0.Args.length : Int) < 2)) [0, 1, 2] (qv6 rfl rfl rfl rfl rfl rfl) (by decide) rfl (by rw [hg42]; simp)
    rintro _ rfl
    refine oy rfl rfl (y_move rfl) ?_
    refine ops_cut 12 (Bool) (fun σ => [(1, vars_1v), (2, .int .i64 deep_2), (3, boxP b1 0), (8, .int .i64 (x_0.Args.length : Int)), (111, .bool σ)]) (fun σ => [nro x_0_Argsv NC_api_TExpr_48 x_0.Args, ro vars_1v 1 (vars_1.map (eInt .i64)), box b1 [.int .i64 x_0.Op, .int .i64 x_0.Type_, .int .i64 x_0.N, .int .i64 x_0.Slot, .string (bs x_0.S), x_0_Argsv]]) (fun σ => σ = ((((decide (x_0.Op = 8) || decide (x_0.Op = 9)) && decide ((x_0.Args.length : Int) ≠ 1)) || ((!(decide (x_0.Op = 8) || decide (x_0.Op = 9))) && decide ((x_0.Args.length : Int) < 2))) || (((!(decide (x_0.Op = 8) || decide (x_0.Op = 9))) && decide (2 < (x_0.Args.length : Int))) && decide (x_0.Op ≠ 23)))) (fun L46 hL47 => ?_) ?_
    ·refine ops_split 99 (((decide (x_0.Op = 8) || decide (x_0.Op = 9)) && decide ((x_0.Args.length : Int) ≠ 1)) || ((!(decide (x_0.Op = 8) || decide (x_0.Op = 9))) && decide ((x_0.Args.length : Int) < 2))) rfl (fun hg48 => ?_) (fun hg48 => ?_)
     ·skip
      refine ops_no 13 false 99 rfl rfl rfl rfl rfl ?_
      refine ops_no 13 false 99 rfl rfl rfl rfl rfl ?_
      refine ops_no 13 false 99 rfl rfl rfl rfl rfl ?_
      refine ops_un 16 true 102 rfl rfl rfl rfl rfl ?_
      refine ops_un 16 true 102 rfl rfl rfl rfl rfl ?_
      refine ops_no 13 false 99 rfl rfl rfl rfl rfl ?_
      refine ops_no 13 false 99 rfl rfl rfl rfl rfl ?_
      refine ops_un 20 true 106 rfl rfl rfl rfl rfl ?_
      refine ops_un 20 true 106 rfl rfl rfl rfl rfl ?_
      refine ops_un 20 true 106 rfl rfl rfl rfl rfl ?_
      refine ops_no 13 false 99 rfl rfl rfl rfl rfl ?_
      refine oy rfl rfl (y_pick (b := true) rfl rfl) ?_
      refine ops_nil ?_
      exact goes_cut hL47 true [0, 1, 2] (qv5 rfl rfl rfl rfl rfl) (by decide) rfl (by rw [hg48]; simp)
     ·skip
      refine ops_y (wg 13 false 99 rfl rfl rfl rfl) rfl (y_move rfl) ?_
      refine ops_y (wg 13 false 99 rfl rfl rfl rfl) rfl (y_not rfl) ?_
      refine ops_y (wg 13 false 99 rfl rfl rfl rfl) rfl (y_move rfl) ?_
      refine ops_cut 3 (Bool) (fun σ => [(1, vars_1v), (2, .int .i64 deep_2), (3, boxP b1 0), (8, .int .i64 (x_0.Args.length : Int)), (99, .bool false), (105, .bool σ)]) (fun σ => [nro x_0_Argsv NC_api_TExpr_48 x_0.Args, ro vars_1v 1 (vars_1.map (eInt .i64)), box b1 [.int .i64 x_0.Op, .int .i64 x_0.Type_, .int .i64 x_0.N, .int .i64 x_0.Slot, .string (bs x_0.S), x_0_Argsv]]) (fun σ => σ = ((!(decide (x_0.Op = 8) || decide (x_0.Op = 9))) && decide (2 < (x_0.Args.length : Int)))) (fun L49 hL50 => ?_) ?_
      ·refine ops_split 102 (!(decide (x_0.Op = 8) || decide (x_0.Op = 9))) rfl (fun hg51 => ?_) (fun hg51 => ?_)
       ·skip
        refine ops_y (wg 16 true 102 rfl rfl rfl rfl) rfl (y_move rfl) ?_
        refine ops_y (wg 16 true 102 rfl rfl rfl rfl) rfl (y_gtr rfl rfl) ?_
        refine ops_y (wg 13 false 99 rfl rfl rfl rfl) rfl (y_pick (b := true) rfl rfl) ?_
        refine ops_nil ?_
        exact goes_cut hL50 (decide (2 < (x_0.Args.length : Int))) [0, 1, 2] (qv6 rfl rfl rfl rfl rfl rfl) (by decide) rfl (by rw [hg51]; simp)
       ·skip
        refine ops_no 16 true 102 rfl rfl rfl rfl rfl ?_
        refine ops_no 16 true 102 rfl rfl rfl rfl rfl ?_
        refine ops_y (wg 13 false 99 rfl rfl rfl rfl) rfl (y_pick (b := false) rfl rfl) ?_
        refine ops_nil ?_
        exact goes_cut hL50 false [0, 1, 2] (qv6 rfl rfl rfl rfl rfl rfl) (by decide) rfl (by rw [hg51]; simp)
      rintro _ rfl
      refine ops_y (wg 13 false 99 rfl rfl rfl rfl) rfl (y_move rfl) ?_
      refine ops_cut 4 (Bool) (fun σ => [(1, vars_1v), (2, .int .i64 deep_2), (3, boxP b1 0), (8, .int .i64 (x_0.Args.length : Int)), (99, .bool false), (110, .bool σ)]) (fun σ => [nro x_0_Argsv NC_api_TExpr_48 x_0.Args, ro vars_1v 1 (vars_1.map (eInt .i64)), box b1 [.int .i64 x_0.Op, .int .i64 x_0.Type_, .int .i64 x_0.N, .int .i64 x_0.Slot, .string (bs x_0.S), x_0_Argsv]]) (fun σ => σ = (((!(decide (x_0.Op = 8) || decide (x_0.Op = 9))) && decide (2 < (x_0.Args.length : Int))) && decide (x_0.Op ≠ 23))) (fun L52 hL53 => ?_) ?_
      ·refine ops_split 106 ((!(decide (x_0.Op = 8) || decide (x_0.Op = 9))) && decide (2 < (x_0.Args.length : Int))) rfl (fun hg54 => ?_) (fun hg54 => ?_)
       ·skip
        refine ops_y (wg 20 true 106 rfl rfl rfl rfl) rfl (y_fieldAddr_box (sz := 0) Try.runUnderlying48 rfl Try.sizeOf3 rfl) ?_
        refine ops_y (wg 20 true 106 rfl rfl rfl rfl) rfl (y_load_box 2 Try.isAgg3 rfl rfl rfl) ?_
        refine ops_y (wg 20 true 106 rfl rfl rfl rfl) rfl (y_neq rfl rfl) ?_
        refine ops_y (wg 13 false 99 rfl rfl rfl rfl) rfl (y_pick (b := true) rfl rfl) ?_
        refine ops_nil ?_
        exact goes_cut hL53 (decide (x_0.Op ≠ 23)) [0, 1, 2] (qv6 rfl rfl rfl rfl rfl rfl) (by decide) rfl (by rw [hg54]; simp)
       ·skip
        refine ops_no 20 true 106 rfl rfl rfl rfl rfl ?_
        refine ops_no 20 true 106 rfl rfl rfl rfl rfl ?_
        refine ops_no 20 true 106 rfl rfl rfl rfl rfl ?_
        refine ops_y (wg 13 false 99 rfl rfl rfl rfl) rfl (y_pick (b := false) rfl rfl) ?_
        refine ops_nil ?_
        exact goes_cut hL53 false [0, 1, 2] (qv6 rfl rfl rfl rfl rfl rfl) (by decide) rfl (by rw [hg54]; simp)
      rintro _ rfl
      refine oy rfl rfl (y_pick (b := false) rfl rfl) ?_
      refine ops_nil ?_
      exact goes_cut hL47 (((!(decide (x_0.Op = 8) || decide (x_0.Op = 9))) && decide (2 < (x_0.Args.length : Int))) && decide (x_0.Op ≠ 23)) [0, 1, 2] (qv5 rfl rfl rfl rfl rfl) (by decide) rfl (by rw [hg48]; simp)
    rintro _ rfl
    refine ops_nil ?_
    refine goes_code ?_
    refine run_cond ((((decide (x_0.Op = 8) || decide (x_0.Op = 9)) && decide ((x_0.Args.length : Int) ≠ 1)) || ((!(decide (x_0.Op = 8) || decide (x_0.Op = 9))) && decide ((x_0.Args.length : Int) < 2))) || (((!(decide (x_0.Op = 8) || decide (x_0.Op = 9))) && decide (2 < (x_0.Args.length : Int))) && decide (x_0.Op ≠ 23))) rfl (fun hc55 => ?_) (fun hc55 => ?_)
    ·replace h := cond_t h hc55
     refine run_seq ?_
     refine run_region' ?_
     refine oy rfl rfl (y_assign rfl) ?_
     refine ops_nil ?_
     refine goes_code ?_
     refine run_ret ?_
     obtain rfl := some_eq h
     refine fin_slots [6] [.bool false] [] [] Try.results34 rfl (by decide) rfl ?_
     exact ⟨rfl, rfl⟩
    ·replace h := cond_f h hc55
     refine run_skip ?_
     refine goes_code ?_
     refine run_seq ?_
     refine run_region' ?_
     refine oy rfl rfl (y_assign rfl) ?_
     refine ops_nil ?_
     refine goes_code ?_
     obtain ⟨o58, h, ho59⟩ := bindJ_some h
     refine run_cut (((List Int)) × (Value)) (fun σ => [(10, σ.2), (3, boxP b1 0)]) (fun σ => [row σ.2 1 (σ.1.map (eInt .i64)), box b1 [.int .i64 x_0.Op, .int .i64 x_0.Type_, .int .i64 x_0.N, .int .i64 x_0.Slot, .string (bs x_0.S), x_0_Argsv], nro x_0_Argsv NC_api_TExpr_48 x_0.Args]) (fun σ => o58 = .go σ.1) (fun L61 hL60 => ?_) ?_
     ·
      refine run_seq ?_
      refine run_region' ?_
      refine oy rfl rfl (y_assign rfl) ?_
      refine ops_nil ?_
      refine goes_code ?_
      refine run_block ?_
      refine run_turn (nilrow 1) ?_
      refine run_turn (retell 3 (g := row (.slice none 0 0) 1 (([] : List Int).map (eInt .i64))) rfl rfl) ?_
      refine run_iter (step := ref20_RightExpr_L1 x_0 vars_1 deep_2 rec_ref20_RightExpr) (n := n) (s0 := (([] : List Int), 0)) h (G := Value) (.slice none 0 0) (fun σ γ => [(10, γ), (11, .int .i64 σ.2), (1, vars_1v), (2, .int .i64 deep_2), (3, boxP b1 0), (8, .int .i64 (x_0.Args.length : Int))]) (fun σ γ => [row γ 1 (σ.1.map (eInt .i64)), ro vars_1v 1 (vars_1.map (eInt .i64)), box b1 [.int .i64 x_0.Op, .int .i64 x_0.Type_, .int .i64 x_0.N, .int .i64 x_0.Slot, .string (bs x_0.S), x_0_Argsv], nro x_0_Argsv NC_api_TExpr_48 x_0.Args]) [3, 1, 2, 0] (qv6 rfl rfl rfl rfl rfl rfl) (by decide) rfl ?_
      rintro ⟨kinds_62, k_63⟩ v64 o65 h L68 hgo66 hstop67
      change Run _ _ _ (VF.of [(10, v64), (11, .int .i64 k_63), (1, vars_1v), (2, .int .i64 deep_2), (3, boxP b1 0), (8, .int .i64 (x_0.Args.length : Int))]) [row v64 1 (kinds_62.map (eInt .i64)), ro vars_1v 1 (vars_1.map (eInt .i64)), box b1 [.int .i64 x_0.Op, .int .i64 x_0.Type_, .int .i64 x_0.N, .int .i64 x_0.Slot, .string (bs x_0.S), x_0_Argsv], nro x_0_Argsv NC_api_TExpr_48 x_0.Args]
      refine run_seq ?_
      refine run_seq ?_
      refine run_region' ?_
      refine oy rfl rfl (y_move rfl) ?_
      refine oy rfl rfl (y_move rfl) ?_
      refine oy rfl rfl (y_lss rfl rfl) ?_
      refine ops_nil ?_
      refine goes_code ?_
      refine run_cond (decide (k_63 < (x_0.Args.length : Int))) rfl (fun hc69 => ?_) (fun hc69 => ?_)
      ·replace h := cond_t h hc69
       refine run_skip ?_
       refine goes_code ?_
       refine run_seq ?_
       refine run_block ?_
       refine run_seq ?_
       refine run_region' ?_
       refine oy rfl rfl (y_fieldAddr_box (sz := 0) Try.runUnderlying48 rfl Try.sizeOf46 rfl) ?_
       refine oy rfl rfl (y_load_box 2 Try.isAgg46 rfl rfl rfl) ?_
       refine oy rfl rfl (y_move rfl) ?_
       obtain ⟨x70, hzx70, hlx70, hxx70, h⟩ := idx_some h
       refine oy rfl rfl (y_indexAddrN (kd := .i64) (i := k_63) 3 Try.runUnderlying46 Try.sizeOf48 rfl rfl rfl readsN_ro hzx70 hlx70) ?_
       refine ops_ex (exAtT (T := T_api_TExpr_48) (i := k_63.toNat) 3 rfl hxx70) ?_
       rintro g71
       refine oy rfl rfl (y_load_atagg (n := k_63.toNat * 6) (j := 0) (c := [.int .i64 x70.Op, .int .i64 x70.Type_, .int .i64 x70.N, .int .i64 x70.Slot, .string (bs x70.S), g71]) 4 Try.isAgg48 Try.sizeOf48 rfl rfl rfl) ?_
       refine oy rfl rfl (y_move rfl) ?_
       refine oy rfl rfl (y_move rfl) ?_
       refine oy rfl rfl (y_add rfl rfl) ?_
       obtain ⟨r72, hr73, h⟩ := obind_some h
       refine ot rfl rfl (t_callx (vs := [.agg #[.int .i64 x70.Op, .int .i64 x70.Type_, .int .i64 x70.N, .int .i64 x70.Slot, .string (bs x70.S), g71], vars_1v, .int .i64 (IntKind.i64.wrap (deep_2 + 1))]) (cs := []) [(5, 0), (1, 0)] rfl Try.call34 rfl (hrec_ref20_RightExpr  x70 vars_1 (IntKind.i64.wrap (deep_2 + 1)) g71 vars_1v hr73) (showsX_view 5 rfl views_nro (showsX_view 1 rfl views_ro showsX_nil)) rfl (.inl rfl)) ?_
       rintro _ _ ⟨_, ⟨rfl, rfl⟩, rfl⟩
       refine oy rfl rfl (y_assign rfl) ?_
       refine ops_nil ?_
       refine goes_code ?_
       refine run_seq ?_
       refine run_seq ?_
       refine run_weak [(10, v64), (11, .int .i64 k_63), (1, vars_1v), (2, .int .i64 deep_2), (3, boxP b1 0), (8, .int .i64 (x_0.Args.length : Int)), (12, .bool r72)] [0, 1, 2, 3] [row v64 1 (kinds_62.map (eInt .i64)), ro vars_1v 1 (vars_1.map (eInt .i64)), box b1 [.int .i64 x_0.Op, .int .i64 x_0.Type_, .int .i64 x_0.N, .int .i64 x_0.Slot, .string (bs x_0.S), x_0_Argsv], nro x_0_Argsv NC_api_TExpr_48 x_0.Args] (qv7 rfl rfl rfl rfl rfl rfl rfl) (by decide) rfl ?_
       refine run_region' ?_
       refine oy rfl rfl (y_move rfl) ?_
       refine oy rfl rfl (y_not rfl) ?_
       refine ops_nil ?_
       refine goes_code ?_
       refine run_cond (!r72) rfl (fun hc74 => ?_) (fun hc74 => ?_)
       ·replace h := cond_t h hc74
        refine run_seq ?_
        refine run_region' ?_
        refine oy rfl rfl (y_assign rfl) ?_
        refine ops_nil ?_
        refine goes_code ?_
        refine run_ret ?_
        obtain rfl := some_eq h
        obtain rfl := hstop67 _ rfl
        skip
        obtain rfl := after_stop ho59
        refine fin_slots [6] [.bool false] [] [] Try.results34 rfl (by decide) rfl ?_
        exact ⟨rfl, rfl⟩
       ·replace h := cond_f h hc74
        refine run_skip ?_
        refine goes_code ?_
        refine run_region' ?_
        refine oy rfl rfl (y_move rfl) ?_
        refine oy rfl rfl (y_fieldAddr_box (sz := 0) Try.runUnderlying48 rfl Try.sizeOf46 rfl) ?_
        refine oy rfl rfl (y_load_box 2 Try.isAgg46 rfl rfl rfl) ?_
        refine oy rfl rfl (y_move rfl) ?_
        refine oy rfl rfl (y_indexAddrN (kd := .i64) (i := k_63) 3 Try.runUnderlying46 Try.sizeOf48 rfl rfl rfl readsN_ro hzx70 hlx70) ?_
        refine ops_ex (exAtT (T := T_api_TExpr_48) (i := k_63.toNat) 3 rfl hxx70) ?_
        rintro g75
        refine oy rfl rfl (y_fieldAddr_elem (sz := 0) Try.runUnderlying48 rfl Try.sizeOf3 rfl) ?_
        refine oy rfl rfl (y_load_at (n := k_63.toNat * 6) (j := 1) 4 Try.isAgg3 rfl rfl rfl) ?_
        refine ot rfl rfl (t_lit [.int .i64 x70.Type_] Try.runUnderlying22 Try.sizeOf3 Try.zeroValue3 rfl (by decide) (by decide) rfl (by simp [Value.cells, boxP])) ?_
        rintro v76 _ ⟨rfl, _⟩
        refine ops_turn (retell 6 (g := row v76 1 (([x70.Type_] : List Int).map (eInt .i64))) rfl rfl) ?_
        obtain ⟨hr78, h⟩ := need_some h
        refine ot rfl rfl (t_append (es := 1) 0 rfl Try.runUnderlying22 rfl Try.runUnderlying22 (.inr ⟨_, rfl⟩) Try.typeInfo3 rfl (by decide) Try.zeroValue3 rfl rfl rfl rfl (src_reads 6 rfl reads_row (map_ok (eInt_ok _) _)) (map_room hr78 (by decide)) (map_fit hr78)) ?_
        rintro v77 _ rfl
        refine ops_turn (retell 0 (g := row v77 1 ((kinds_62 ++ ([x70.Type_] : List Int)).map (eInt .i64))) rfl (congrArg (row _ _) List.map_append.symm)) ?_
        refine oy rfl rfl (y_assign rfl) ?_
        refine ops_nil ?_
        refine goes_blk ?_
        refine goes_code ?_
        refine run_weak [(10, v77), (11, .int .i64 k_63), (1, vars_1v), (2, .int .i64 deep_2), (3, boxP b1 0), (8, .int .i64 (x_0.Args.length : Int))] [0, 1, 2, 3] [row v77 1 ((kinds_62 ++ ([x70.Type_] : List Int)).map (eInt .i64)), ro vars_1v 1 (vars_1.map (eInt .i64)), box b1 [.int .i64 x_0.Op, .int .i64 x_0.Type_, .int .i64 x_0.N, .int .i64 x_0.Slot, .string (bs x_0.S), x_0_Argsv], nro x_0_Argsv NC_api_TExpr_48 x_0.Args] (qv6 rfl rfl rfl rfl rfl rfl) (by decide) rfl ?_
        refine run_region' ?_
        refine oy rfl rfl (y_move rfl) ?_
        refine oy rfl rfl (y_add rfl rfl) ?_
        refine oy rfl rfl (y_assign rfl) ?_
        refine ops_nil ?_
        obtain rfl := some_eq h
        exact goes_iter hgo66 ((kinds_62 ++ ([x70.Type_] : List Int)), (IntKind.i64.wrap (k_63 + 1))) v77 [0, 1, 2, 3] rfl (qv6 rfl rfl rfl rfl rfl rfl) (by decide) rfl
      ·replace h := cond_f h hc69
       refine run_exit _ rfl ?_
       obtain rfl := some_eq h
       obtain rfl := hstop67 _ rfl
       exact goes_cut hL60 (kinds_62, v64) [0, 2, 3] (qv2 rfl rfl) (by decide) rfl rfl
     rintro ⟨kinds_56, v57⟩ hj
     obtain rfl : o58 = _ := hj
     replace h := after_go ho59
     clear ho59
     change Run _ _ _ (VF.of [(10, v57), (3, boxP b1 0)]) [row v57 1 (kinds_56.map (eInt .i64)), box b1 [.int .i64 x_0.Op, .int .i64 x_0.Type_, .int .i64 x_0.N, .int .i64 x_0.Slot, .string (bs x_0.S), x_0_Argsv], nro x_0_Argsv NC_api_TExpr_48 x_0.Args]
     refine run_seq ?_
     refine run_region' ?_
     refine oy rfl rfl (y_fieldAddr_box (sz := 0) Try.runUnderlying48 rfl Try.sizeOf3 rfl) ?_
     refine oy rfl rfl (y_load_box 1 Try.isAgg3 rfl rfl rfl) ?_
     refine oy rfl rfl (y_move rfl) ?_
     obtain ⟨r79, hr80, h⟩ := obind_some h
     refine ot rfl rfl (t_callx (vs := [.int .i64 x_0.Op, v57]) (cs := []) [(0, 1)] rfl Try.call59 rfl (ref20_result_ok n  x_0.Op kinds_56 v57 hr80) (showsX_look 0 rfl views_row showsX_nil) rfl (.inr (by rintro _ _ ⟨rfl, rfl⟩ g hg; first | (cases hg; done) | (simp only [List.mem_cons, List.not_mem_nil, or_false] at hg; first | (subst hg; first | exact strict_row | exact strict_box) | (rcases hg with rfl | rfl <;> first | exact strict_row | exact strict_box) | (rcases hg with rfl | rfl | rfl <;> first | exact strict_row | exact strict_box))))) ?_
     rintro _ _ ⟨_, ⟨rfl, rfl⟩, rfl⟩
     refine oy rfl rfl (y_assign rfl) ?_
     refine ops_nil ?_
     refine goes_code ?_
     refine run_seq ?_
     refine run_region' ?_
     refine oy rfl rfl (y_move rfl) ?_
     refine oy rfl rfl (y_neq rfl rfl) ?_
     refine oy rfl rfl (y_move rfl) ?_
     refine ops_cut 5 (Bool) (fun σ => [(148, .bool σ)]) (fun σ => []) (fun σ => σ = (decide (r79 ≠ 0) && decide (x_0.Type_ = r79))) (fun L81 hL82 => ?_) ?_
     ·refine ops_split 143 (decide (r79 ≠ 0)) rfl (fun hg83 => ?_) (fun hg83 => ?_)
      ·skip
       refine ops_y (wg 2 true 143 rfl rfl rfl rfl) rfl (y_fieldAddr_box (sz := 0) Try.runUnderlying48 rfl Try.sizeOf3 rfl) ?_
       refine ops_y (wg 2 true 143 rfl rfl rfl rfl) rfl (y_load_box 1 Try.isAgg3 rfl rfl rfl) ?_
       refine ops_y (wg 2 true 143 rfl rfl rfl rfl) rfl (y_move rfl) ?_
       refine ops_y (wg 2 true 143 rfl rfl rfl rfl) rfl (y_eql rfl rfl) ?_
       refine oy rfl rfl (y_pick (b := true) rfl rfl) ?_
       refine ops_nil ?_
       exact goes_cut hL82 (decide (x_0.Type_ = r79)) [] (qv1 rfl) (by decide) rfl (by rw [hg83]; simp)
      ·skip
       refine ops_no 2 true 143 rfl rfl rfl rfl rfl ?_
       refine ops_no 2 true 143 rfl rfl rfl rfl rfl ?_
       refine ops_no 2 true 143 rfl rfl rfl rfl rfl ?_
       refine ops_no 2 true 143 rfl rfl rfl rfl rfl ?_
       refine oy rfl rfl (y_pick (b := false) rfl rfl) ?_
       refine ops_nil ?_
       exact goes_cut hL82 false [] (qv1 rfl) (by decide) rfl (by rw [hg83]; simp)
     rintro _ rfl
     refine oy rfl rfl (y_assign rfl) ?_
     refine ops_nil ?_
     refine goes_code ?_
     refine run_ret ?_
     obtain rfl := some_eq h
     refine fin_slots [6] [.bool (decide (r79 ≠ 0) && decide (x_0.Type_ = r79))] [] [] Try.results34 rfl (by decide) rfl ?_
     exact ⟨rfl, rfl⟩
def ref20_RightExpr : Nat → S_api_TExpr → (List Int) → Int → Option (Bool)
 | 0 => fun _ _ _ => none
 | n + 1 => ref20_RightExpr_body n  (ref20_RightExpr n )
theorem ref20_RightExpr_ok (n : Nat)  : ∀ (x_0 : S_api_TExpr) (vars_1 : (List Int)) (deep_2 : Int) (x_0_Argsv : Value) (vars_1v : Value) {r : Bool}, ref20_RightExpr n  x_0 vars_1 deep_2 = some r → Meets Try.prog 34 [.agg #[.int .i64 x_0.Op, .int .i64 x_0.Type_, .int .i64 x_0.N, .int .i64 x_0.Slot, .string (bs x_0.S), x_0_Argsv], vars_1v, .int .i64 deep_2] [nro x_0_Argsv NC_api_TExpr_48 x_0.Args, ro vars_1v 1 (vars_1.map (eInt .i64))] (fun v G => v = .bool r ∧ G = []) := by
 induction n with
 | zero => intro x_0 vars_1 deep_2 x_0_Argsv vars_1v r h; cases h
 | succ n ih => intro x_0 vars_1 deep_2 x_0_Argsv vars_1v r h; exact ref20_RightExpr_body_ok n   (ref20_RightExpr n ) (fun x_0 vars_1 deep_2 x_0_Argsv vars_1v r h => ih x_0 vars_1 deep_2 x_0_Argsv vars_1v h) x_0 vars_1 deep_2 x_0_Argsv vars_1v h

def ref20_Wants (kind_0 : Int) : Option (Int) :=
 cond (decide (kind_0 = 4))
  (some 1)
  (cond (decide (kind_0 = 5))
   (some 3)
   (some 2))
theorem ref20_Wants_ok (kind_0 : Int)  {r : Int} (h : ref20_Wants kind_0 = some r) :
  Meets Try.prog 35 [.int .i64 kind_0] [] (fun v G => v = .int .i64 r ∧ G = []) := by
 refine fn_of_run Try.func35 rfl Try.ntmps35 rfl (fun w0 o0 => ?_)
 refine run_seq ?_
 refine run_region' ?_
 refine oy rfl rfl (y_assign rfl) ?_
 refine ops_nil ?_
 refine goes_code ?_
 refine run_seq ?_
 refine run_seq ?_
 refine run_region' ?_
 refine oy rfl rfl (y_move rfl) ?_
 refine oy rfl rfl (y_eql rfl rfl) ?_
 refine ops_nil ?_
 refine goes_code ?_
 refine run_cond (decide (kind_0 = 4)) rfl (fun hc1 => ?_) (fun hc1 => ?_)
 ·replace h := cond_t h hc1
  refine run_seq ?_
  refine run_region' ?_
  refine oy rfl rfl (y_assign rfl) ?_
  refine ops_nil ?_
  refine goes_code ?_
  refine run_ret ?_
  obtain rfl := some_eq h
  refine fin_slots [2] [.int .i64 1] [] [] Try.results35 rfl (by decide) rfl ?_
  exact ⟨rfl, rfl⟩
 ·replace h := cond_f h hc1
  refine run_skip ?_
  refine goes_code ?_
  refine run_seq ?_
  refine run_seq ?_
  refine run_region' ?_
  refine oy rfl rfl (y_move rfl) ?_
  refine oy rfl rfl (y_eql rfl rfl) ?_
  refine ops_nil ?_
  refine goes_code ?_
  refine run_cond (decide (kind_0 = 5)) rfl (fun hc2 => ?_) (fun hc2 => ?_)
  ·replace h := cond_t h hc2
   refine run_seq ?_
   refine run_region' ?_
   refine oy rfl rfl (y_assign rfl) ?_
   refine ops_nil ?_
   refine goes_code ?_
   refine run_ret ?_
   obtain rfl := some_eq h
   refine fin_slots [2] [.int .i64 3] [] [] Try.results35 rfl (by decide) rfl ?_
   exact ⟨rfl, rfl⟩
  ·replace h := cond_f h hc2
   refine run_skip ?_
   refine goes_code ?_
   refine run_seq ?_
   refine run_region' ?_
   refine oy rfl rfl (y_assign rfl) ?_
   refine ops_nil ?_
   refine goes_code ?_
   refine run_ret ?_
   obtain rfl := some_eq h
   refine fin_slots [2] [.int .i64 2] [] [] Try.results35 rfl (by decide) rfl ?_
   exact ⟨rfl, rfl⟩

end Go.Proofs.Ytgjdaamkfpbgpaa
