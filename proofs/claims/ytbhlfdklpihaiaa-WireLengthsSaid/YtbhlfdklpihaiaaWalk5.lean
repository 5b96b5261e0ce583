/-
  The walks of the laws.
-/
import Derived.Test.YtbhlfdklpihaiaaWireSane
import Derived.Test.YtbhlfdklpihaiaaWalk4
namespace Go.Proofs.Ytbhlfdklpihaiaa
open Go.Abs
set_option linter.unusedVariables false
set_option linter.unusedSimpArgs false
set_option maxRecDepth 20000

set_option maxHeartbeats 1000000 in
theorem sanity  :
    Meets Try.prog 12 [] [] (fun v G => v = .bool true ∧ G = []) := by
  refine fn_of_run Try.func12 rfl Try.ntmps12 rfl (fun w0 o0 => ?_)
  refine run_seq ?_
  refine run_region' ?_
  refine ops_y (wn rfl) rfl (y_assign rfl) ?_
  refine ops_nil ?_
  refine goes_code ?_
  refine run_seq ?_
  refine run_region' ?_
  refine ops_t (wn rfl) rfl (t_lit [.int .u8 128, .int .u8 1, .int .u8 9] Try.runUnderlying28 Try.sizeOf5 Try.zeroValue5 rfl (by decide) (by decide) rfl (by simp [Value.cells])) ?_
  rintro v1 _ ⟨rfl, _⟩
  refine ops_turn (retell 0 (g := row v1 1 (u8c [128, 1, 9])) rfl rfl) ?_
  refine ops_t (wn rfl) rfl (t_call (vs := [v1]) (cs := []) [⟨0, true⟩] rfl Try.call24 rfl (getInt_p v1 _ (by first | omega | (simp only [List.length_drop, List.length_take, List.length_append]; omega) | (simp; done))) (shows_cons 0 true rfl views_row shows_nil) (.inr (by rintro _ _ ⟨rfl, rfl⟩ g hg; first | (cases hg; done) | (simp only [List.mem_cons, List.not_mem_nil, or_false] at hg; first | (subst hg; first | exact strict_row | exact strict_box) | (rcases hg with rfl | rfl <;> first | exact strict_row | exact strict_box))))) ?_
  rintro _ _ ⟨_, ⟨rfl, rfl⟩, rfl⟩
  have hg2 := getI_any [128, 1, 9]
  refine ops_y (wn rfl) rfl (y_move rfl) ?_
  refine ops_y (wn rfl) rfl (OpY.to (v' := .int .i64 64) (y_extract rfl rfl) (congrArg (fun n : Int => Value.int .i64 n) (by decide +kernel))) ?_
  refine ops_y (wn rfl) rfl (OpY.to (v' := .int .i64 2) (y_extract rfl rfl) (congrArg (fun n : Int => Value.int .i64 n) (by decide +kernel))) ?_
  refine ops_y (wn rfl) rfl (OpY.to (v' := .int .i64 0) (y_extract rfl rfl) (congrArg (fun n : Int => Value.int .i64 n) (by decide +kernel))) ?_
  refine ops_y (wn rfl) rfl (y_assign rfl) ?_
  refine ops_y (wn rfl) rfl (y_assign rfl) ?_
  refine ops_y (wn rfl) rfl (y_assign rfl) ?_
  refine ops_nil ?_
  refine goes_code ?_
  refine run_seq ?_
  refine run_weak [(0, .bool false), (1, .int .i64 64), (2, .int .i64 2), (3, .int .i64 0)] [] [] (vcons rfl (vcons rfl (vcons rfl (vcons rfl (vnil))))) (by decide) rfl ?_
  refine run_region' ?_
  refine ops_t (wn rfl) rfl (t_lit [.int .u8 128] Try.runUnderlying28 Try.sizeOf5 Try.zeroValue5 rfl (by decide) (by decide) rfl (by simp [Value.cells])) ?_
  rintro v3 _ ⟨rfl, _⟩
  refine ops_turn (retell 0 (g := row v3 1 (u8c [128])) rfl rfl) ?_
  refine ops_t (wn rfl) rfl (t_call (vs := [v3]) (cs := []) [⟨0, true⟩] rfl Try.call24 rfl (getInt_p v3 _ (by first | omega | (simp only [List.length_drop, List.length_take, List.length_append]; omega) | (simp; done))) (shows_cons 0 true rfl views_row shows_nil) (.inr (by rintro _ _ ⟨rfl, rfl⟩ g hg; first | (cases hg; done) | (simp only [List.mem_cons, List.not_mem_nil, or_false] at hg; first | (subst hg; first | exact strict_row | exact strict_box) | (rcases hg with rfl | rfl <;> first | exact strict_row | exact strict_box))))) ?_
  rintro _ _ ⟨_, ⟨rfl, rfl⟩, rfl⟩
  have hg4 := getI_any [128]
  refine ops_y (wn rfl) rfl (y_move rfl) ?_
  refine ops_y (wn rfl) rfl (y_extract rfl rfl) ?_
  refine ops_y (wn rfl) rfl (y_extract rfl rfl) ?_
  refine ops_y (wn rfl) rfl (OpY.to (v' := .int .i64 10) (y_extract rfl rfl) (congrArg (fun n : Int => Value.int .i64 n) (by decide +kernel))) ?_
  refine ops_y (wn rfl) rfl (y_assign rfl) ?_
  refine ops_y (wn rfl) rfl (y_assign rfl) ?_
  refine ops_y (wn rfl) rfl (y_assign rfl) ?_
  refine ops_nil ?_
  refine goes_code ?_
  refine run_seq ?_
  refine run_region' ?_
  refine ops_t (wn rfl) rfl (t_lit [.int .u8 128, .int .u8 0] Try.runUnderlying28 Try.sizeOf5 Try.zeroValue5 rfl (by decide) (by decide) rfl (by simp [Value.cells])) ?_
  rintro v5 _ ⟨rfl, _⟩
  refine ops_turn (retell 1 (g := row v5 1 (u8c [128, 0])) rfl rfl) ?_
  refine ops_t (wn rfl) rfl (t_call (vs := [v5]) (cs := []) [⟨1, true⟩] rfl Try.call24 rfl (getInt_p v5 _ (by first | omega | (simp only [List.length_drop, List.length_take, List.length_append]; omega) | (simp; done))) (shows_cons 1 true rfl views_row shows_nil) (.inr (by rintro _ _ ⟨rfl, rfl⟩ g hg; first | (cases hg; done) | (simp only [List.mem_cons, List.not_mem_nil, or_false] at hg; first | (subst hg; first | exact strict_row | exact strict_box) | (rcases hg with rfl | rfl <;> first | exact strict_row | exact strict_box))))) ?_
  rintro _ _ ⟨_, ⟨rfl, rfl⟩, rfl⟩
  have hg6 := getI_any [128, 0]
  refine ops_y (wn rfl) rfl (y_move rfl) ?_
  refine ops_y (wn rfl) rfl (y_extract rfl rfl) ?_
  refine ops_y (wn rfl) rfl (y_extract rfl rfl) ?_
  refine ops_y (wn rfl) rfl (OpY.to (v' := .int .i64 11) (y_extract rfl rfl) (congrArg (fun n : Int => Value.int .i64 n) (by decide +kernel))) ?_
  refine ops_y (wn rfl) rfl (y_assign rfl) ?_
  refine ops_weak [(0, .bool false), (1, .int .i64 64), (2, .int .i64 2), (3, .int .i64 0), (6, .int .i64 10), (40, .int .i64 (((getI [128, 0]).2.1 : Nat) : Int)), (41, .int .i64 11)] [] [] (vcons rfl (vcons rfl (vcons rfl (vcons rfl (vcons rfl (vcons rfl (vcons rfl (vnil)))))))) (by decide) rfl ?_
  refine ops_y (wn rfl) rfl (y_assign rfl) ?_
  refine ops_y (wn rfl) rfl (y_assign rfl) ?_
  refine ops_nil ?_
  refine goes_code ?_
  refine run_seq ?_
  refine run_region' ?_
  refine ops_t (wn rfl) rfl (t_lit [.int .u8 4, .int .u8 97, .int .u8 98, .int .u8 7] Try.runUnderlying28 Try.sizeOf5 Try.zeroValue5 rfl (by decide) (by decide) rfl (by simp [Value.cells])) ?_
  rintro v7 _ ⟨rfl, _⟩
  refine ops_turn (retell 0 (g := row v7 1 (u8c [4, 97, 98, 7])) rfl rfl) ?_
  refine ops_t (wn rfl) rfl (t_call (vs := [v7]) (cs := []) [⟨0, true⟩] rfl Try.call26 rfl (getS_p v7 _ (by first | omega | (simp only [List.length_drop, List.length_take, List.length_append]; omega) | (simp; done))) (shows_cons 0 true rfl views_row shows_nil) (.inr (by rintro _ _ ⟨rfl, rfl⟩ g hg; first | (cases hg; done) | (simp only [List.mem_cons, List.not_mem_nil, or_false] at hg; first | (subst hg; first | exact strict_row | exact strict_box) | (rcases hg with rfl | rfl <;> first | exact strict_row | exact strict_box))))) ?_
  rintro _ _ ⟨_, ⟨rfl, rfl⟩, rfl⟩
  have hg8 := getS_any [4, 97, 98, 7]
  refine ops_y (wn rfl) rfl (y_move rfl) ?_
  refine ops_y (wn rfl) rfl (OpY.to (v' := .string (bs [97, 98])) (y_extract rfl rfl) (congrArg (fun l => Value.string (bs l)) (by decide +kernel))) ?_
  refine ops_y (wn rfl) rfl (OpY.to (v' := .int .i64 3) (y_extract rfl rfl) (congrArg (fun n : Int => Value.int .i64 n) (by decide +kernel))) ?_
  refine ops_y (wn rfl) rfl (OpY.to (v' := .int .i64 0) (y_extract rfl rfl) (congrArg (fun n : Int => Value.int .i64 n) (by decide +kernel))) ?_
  refine ops_y (wn rfl) rfl (y_assign rfl) ?_
  refine ops_y (wn rfl) rfl (y_assign rfl) ?_
  refine ops_y (wn rfl) rfl (y_assign rfl) ?_
  refine ops_nil ?_
  refine goes_code ?_
  refine run_seq ?_
  refine run_weak [(0, .bool false), (1, .int .i64 64), (2, .int .i64 2), (3, .int .i64 0), (6, .int .i64 10), (9, .int .i64 11), (10, .string (bs [97, 98])), (11, .int .i64 3), (12, .int .i64 0)] [] [] (vcons rfl (vcons rfl (vcons rfl (vcons rfl (vcons rfl (vcons rfl (vcons rfl (vcons rfl (vcons rfl (vnil)))))))))) (by decide) rfl ?_
  refine run_region' ?_
  refine ops_t (wn rfl) rfl (t_lit [.int .u8 4, .int .u8 2, .int .u8 1] Try.runUnderlying28 Try.sizeOf5 Try.zeroValue5 rfl (by decide) (by decide) rfl (by simp [Value.cells])) ?_
  rintro v9 _ ⟨rfl, _⟩
  refine ops_turn (retell 0 (g := row v9 1 (u8c [4, 2, 1])) rfl rfl) ?_
  refine ops_t (wn rfl) rfl (t_call (vs := [v9]) (cs := []) [⟨0, true⟩] rfl Try.call28 rfl (getInts_p v9 _ (by first | omega | (simp only [List.length_drop, List.length_take, List.length_append]; omega) | (simp; done))) (shows_cons 0 true rfl views_row shows_nil) (.inr (by rintro _ _ ⟨_, rfl, rfl⟩ g hg; first | (cases hg; done) | (simp only [List.mem_cons, List.not_mem_nil, or_false] at hg; first | (subst hg; first | exact strict_row | exact strict_box) | (rcases hg with rfl | rfl <;> first | exact strict_row | exact strict_box))))) ?_
  rintro _ _ ⟨_, ⟨v11, rfl, rfl⟩, rfl⟩
  have hd10 := getLI_any [4, 2, 1]
  refine ops_y (wn rfl) rfl (y_move rfl) ?_
  refine ops_y (wn rfl) rfl (y_extract rfl rfl) ?_
  refine ops_turn (retell 1 (g := row v11 1 (i64c [1, (-1)])) rfl (congrArg (fun l => row v11 1 (i64c l)) (by decide +kernel))) ?_
  refine ops_y (wn rfl) rfl (OpY.to (v' := .int .i64 3) (y_extract rfl rfl) (congrArg (fun n : Int => Value.int .i64 n) (by decide +kernel))) ?_
  refine ops_y (wn rfl) rfl (OpY.to (v' := .int .i64 0) (y_extract rfl rfl) (congrArg (fun n : Int => Value.int .i64 n) (by decide +kernel))) ?_
  refine ops_y (wn rfl) rfl (y_assign rfl) ?_
  refine ops_y (wn rfl) rfl (y_assign rfl) ?_
  refine ops_y (wn rfl) rfl (y_assign rfl) ?_
  refine ops_nil ?_
  refine goes_code ?_
  refine run_seq ?_
  refine run_region' ?_
  refine ops_y (wn rfl) rfl (y_build_arr (cells := (arr8 [1, 2, 0, 0, 0, 0, 0, 0, 0, 0, 0, 0, 0, 0, 0, 0]).toArray) [(0, .int .u8 1), (1, .int .u8 2)] Try.zeroValue57 Try.runUnderlying57 Try.sizeOf5 rfl rfl) ?_
  refine ops_t (wn rfl) rfl (t_alloc Try.zeroValue57) ?_
  rintro _ _ ⟨b12, rfl, rfl⟩
  refine ops_t (wn rfl) rfl (t_store_all (c := arr8 [1, 2, 0, 0, 0, 0, 0, 0, 0, 0, 0, 0, 0, 0, 0, 0]) 2 Try.sizeOf57 rfl rfl rfl (by rw [arr8_len]; exact san_d) (by first | rfl | (rw [arr8_len]; exact rfl)) (arr8_one _)) ?_
  rintro _ _ ⟨rfl, rfl⟩
  refine ops_nil ?_
  refine goes_code ?_
  refine run_seq ?_
  refine run_weak [(0, .bool false), (1, .int .i64 64), (2, .int .i64 2), (3, .int .i64 0), (6, .int .i64 10), (9, .int .i64 11), (10, .string (bs [97, 98])), (11, .int .i64 3), (12, .int .i64 0), (13, v11), (14, .int .i64 3), (15, .int .i64 0), (16, boxP b12 0)] [1, 2] [row v11 1 (i64c [1, (-1)]), box b12 (arr8 [1, 2, 0, 0, 0, 0, 0, 0, 0, 0, 0, 0, 0, 0, 0, 0])] (vcons rfl (vcons rfl (vcons rfl (vcons rfl (vcons rfl (vcons rfl (vcons rfl (vcons rfl (vcons rfl (vcons rfl (vcons rfl (vcons rfl (vcons rfl (vnil)))))))))))))) (by decide) rfl ?_
  refine run_region' ?_
  refine ops_y (wn rfl) rfl (y_load_all 1 Try.isAgg57 Try.sizeOf57 rfl rfl (by rw [arr8_len]; exact san_d)) ?_
  refine ops_t (wn rfl) rfl (t_lit [.agg (arr8 [1, 2, 0, 0, 0, 0, 0, 0, 0, 0, 0, 0, 0, 0, 0, 0]).toArray] Try.runUnderlying24 Try.sizeOf57 Try.zeroValue57 rfl (by decide) (by decide) rfl (by simp [Value.cells, arr8_len, san_d])) ?_
  rintro v13 _ ⟨rfl, _⟩
  refine ops_turn (retell 2 (g := row v13 16 (arrc [[1, 2, 0, 0, 0, 0, 0, 0, 0, 0, 0, 0, 0, 0, 0, 0]])) rfl rfl) ?_
  refine ops_t (wn rfl) rfl (t_call (vs := [v13]) (cs := []) [⟨2, true⟩] rfl Try.call22 rfl (digs_p v13 [[1, 2, 0, 0, 0, 0, 0, 0, 0, 0, 0, 0, 0, 0, 0, 0]] (by first | omega | (simp; done)) (by simp [san_d]) (by rw [san_digs]; decide)) (shows_cons 2 true rfl views_row shows_nil) (.inr (by rintro _ _ rfl g hg; first | (cases hg; done) | (simp only [List.mem_cons, List.not_mem_nil, or_false] at hg; first | (subst hg; first | exact strict_row | exact strict_box) | (rcases hg with rfl | rfl <;> first | exact strict_row | exact strict_box))))) ?_
  rintro v14 _ ⟨_, rfl, rfl⟩
  refine ops_turn (retell 3 (g := row v14 1 (u8c [2, 1, 2, 0, 0, 0, 0, 0, 0, 0, 0, 0, 0, 0, 0, 0, 0])) rfl (congrArg (fun l => row v14 1 (u8c l)) san_digs)) ?_
  refine ops_t (wn rfl) rfl (t_call (vs := [v14]) (cs := []) [⟨3, true⟩] rfl Try.call34 rfl (getDigs_p v14 _ (by first | omega | (simp only [List.length_drop, List.length_take, List.length_append]; omega) | (simp; done))) (shows_cons 3 true rfl views_row shows_nil) (.inr (by rintro _ _ ⟨_, rfl, rfl⟩ g hg; first | (cases hg; done) | (simp only [List.mem_cons, List.not_mem_nil, or_false] at hg; first | (subst hg; first | exact strict_row | exact strict_box) | (rcases hg with rfl | rfl <;> first | exact strict_row | exact strict_box))))) ?_
  rintro _ _ ⟨_, ⟨v16, rfl, rfl⟩, rfl⟩
  have hd15 := getLD_any [2, 1, 2, 0, 0, 0, 0, 0, 0, 0, 0, 0, 0, 0, 0, 0, 0]
  refine ops_y (wn rfl) rfl (y_move rfl) ?_
  refine ops_y (wn rfl) rfl (y_extract rfl rfl) ?_
  refine ops_turn (retell 4 (g := row v16 16 (arrc [[1, 2, 0, 0, 0, 0, 0, 0, 0, 0, 0, 0, 0, 0, 0, 0]])) rfl (congrArg (fun l => row v16 16 (arrc l)) (by decide +kernel))) ?_
  refine ops_y (wn rfl) rfl (OpY.to (v' := .int .i64 17) (y_extract rfl rfl) (congrArg (fun n : Int => Value.int .i64 n) (by decide +kernel))) ?_
  refine ops_y (wn rfl) rfl (OpY.to (v' := .int .i64 0) (y_extract rfl rfl) (congrArg (fun n : Int => Value.int .i64 n) (by decide +kernel))) ?_
  refine ops_y (wn rfl) rfl (y_assign rfl) ?_
  refine ops_y (wn rfl) rfl (y_assign rfl) ?_
  refine ops_y (wn rfl) rfl (y_assign rfl) ?_
  refine ops_nil ?_
  refine goes_code ?_
  refine run_seq ?_
  refine run_weak [(0, .bool false), (1, .int .i64 64), (2, .int .i64 2), (3, .int .i64 0), (6, .int .i64 10), (9, .int .i64 11), (10, .string (bs [97, 98])), (11, .int .i64 3), (12, .int .i64 0), (13, v11), (14, .int .i64 3), (15, .int .i64 0), (16, boxP b12 0), (17, v16), (18, .int .i64 17), (19, .int .i64 0)] [0, 1, 4] [row v11 1 (i64c [1, (-1)]), box b12 (arr8 [1, 2, 0, 0, 0, 0, 0, 0, 0, 0, 0, 0, 0, 0, 0, 0]), row v16 16 (arrc [[1, 2, 0, 0, 0, 0, 0, 0, 0, 0, 0, 0, 0, 0, 0, 0]])] (vcons rfl (vcons rfl (vcons rfl (vcons rfl (vcons rfl (vcons rfl (vcons rfl (vcons rfl (vcons rfl (vcons rfl (vcons rfl (vcons rfl (vcons rfl (vcons rfl (vcons rfl (vcons rfl (vnil))))))))))))))))) (by decide) rfl ?_
  refine run_region' ?_
  refine ops_t (wn rfl) rfl (t_lit [.int .u8 4, .int .u8 0, .int .u8 2, .int .u8 97, .int .u8 5] Try.runUnderlying28 Try.sizeOf5 Try.zeroValue5 rfl (by decide) (by decide) rfl (by simp [Value.cells])) ?_
  rintro v17 _ ⟨rfl, _⟩
  refine ops_turn (retell 3 (g := row v17 1 (u8c [4, 0, 2, 97, 5])) rfl rfl) ?_
  refine ops_t (wn rfl) rfl (t_call (vs := [v17]) (cs := []) [⟨3, true⟩] rfl Try.call31 rfl (getStrs_p v17 _ (by first | omega | (simp only [List.length_drop, List.length_take, List.length_append]; omega) | (simp; done))) (shows_cons 3 true rfl views_row shows_nil) (.inr (by rintro _ _ ⟨_, rfl, rfl⟩ g hg; first | (cases hg; done) | (simp only [List.mem_cons, List.not_mem_nil, or_false] at hg; first | (subst hg; first | exact strict_row | exact strict_box) | (rcases hg with rfl | rfl <;> first | exact strict_row | exact strict_box))))) ?_
  rintro _ _ ⟨_, ⟨v19, rfl, rfl⟩, rfl⟩
  have hd18 := getLS_any [4, 0, 2, 97, 5]
  refine ops_y (wn rfl) rfl (y_move rfl) ?_
  refine ops_y (wn rfl) rfl (y_extract rfl rfl) ?_
  refine ops_turn (retell 4 (g := row v19 1 (strc [[], [97]])) rfl (congrArg (fun l => row v19 1 (strc l)) (by decide +kernel))) ?_
  refine ops_y (wn rfl) rfl (OpY.to (v' := .int .i64 4) (y_extract rfl rfl) (congrArg (fun n : Int => Value.int .i64 n) (by decide +kernel))) ?_
  refine ops_y (wn rfl) rfl (OpY.to (v' := .int .i64 0) (y_extract rfl rfl) (congrArg (fun n : Int => Value.int .i64 n) (by decide +kernel))) ?_
  refine ops_y (wn rfl) rfl (y_assign rfl) ?_
  refine ops_y (wn rfl) rfl (y_assign rfl) ?_
  refine ops_y (wn rfl) rfl (y_assign rfl) ?_
  refine ops_nil ?_
  refine goes_code ?_
  refine run_seq ?_
  refine run_region' ?_
  refine ops_y (wn rfl) rfl (y_move rfl) ?_
  refine ops_t (wn rfl) rfl (t_lit [.string (bs []), .string (bs [97])] Try.runUnderlying23 Try.sizeOf9 Try.zeroValue9 rfl (by decide) (by decide) rfl (by simp [Value.cells])) ?_
  rintro v20 _ ⟨rfl, _⟩
  refine ops_turn (retell 5 (g := row v20 1 (strc [[], [97]])) rfl rfl) ?_
  refine ops_t (wn rfl) rfl (t_call (vs := [v19, v20]) (cs := []) [⟨4, true⟩, ⟨5, true⟩] rfl Try.call33 rfl (sameTexts v19 v20 _ _ (by first | omega | (simp only [List.length_drop, List.length_take, List.length_append]; omega) | (simp; done))) (shows_cons 4 true rfl views_row (shows_cons 5 true rfl views_row shows_nil)) (.inr (by rintro _ _ ⟨rfl, rfl⟩ g hg; first | (cases hg; done) | (simp only [List.mem_cons, List.not_mem_nil, or_false] at hg; first | (subst hg; first | exact strict_row | exact strict_box) | (rcases hg with rfl | rfl <;> first | exact strict_row | exact strict_box))))) ?_
  rintro _ _ ⟨_, ⟨rfl, rfl⟩, rfl⟩
  refine ops_as 71 _ (.bool true) rfl (congrArg Value.bool (decide_eq_true rfl)) ?_
  refine ops_y (wn rfl) rfl (y_move rfl) ?_
  refine ops_y (wg 3 true 72 rfl rfl rfl rfl) rfl (y_move rfl) ?_
  refine ops_y (wg 3 true 72 rfl rfl rfl rfl) rfl (OpY.to (v' := .bool true) (y_eql rfl rfl) rfl) ?_
  refine ops_y (wn rfl) rfl (y_pick (b := true) rfl rfl) ?_
  refine ops_weak [(0, .bool false), (1, .int .i64 64), (2, .int .i64 2), (3, .int .i64 0), (6, .int .i64 10), (9, .int .i64 11), (10, .string (bs [97, 98])), (11, .int .i64 3), (12, .int .i64 0), (13, v11), (14, .int .i64 3), (15, .int .i64 0), (16, boxP b12 0), (17, v16), (18, .int .i64 17), (19, .int .i64 0), (22, .int .i64 0), (75, .bool true)] [0, 1, 2] [row v11 1 (i64c [1, (-1)]), box b12 (arr8 [1, 2, 0, 0, 0, 0, 0, 0, 0, 0, 0, 0, 0, 0, 0, 0]), row v16 16 (arrc [[1, 2, 0, 0, 0, 0, 0, 0, 0, 0, 0, 0, 0, 0, 0, 0]])] (vcons rfl (vcons rfl (vcons rfl (vcons rfl (vcons rfl (vcons rfl (vcons rfl (vcons rfl (vcons rfl (vcons rfl (vcons rfl (vcons rfl (vcons rfl (vcons rfl (vcons rfl (vcons rfl (vcons rfl (vcons rfl (vnil))))))))))))))))))) (by decide) rfl ?_
  refine ops_y (wn rfl) rfl (y_move rfl) ?_
  refine ops_y (wg 7 true 76 rfl rfl rfl rfl) rfl (y_move rfl) ?_
  refine ops_y (wg 7 true 76 rfl rfl rfl rfl) rfl (OpY.to (v' := .bool true) (y_eql rfl rfl) rfl) ?_
  refine ops_y (wn rfl) rfl (y_pick (b := true) rfl rfl) ?_
  refine ops_y (wn rfl) rfl (y_move rfl) ?_
  refine ops_t (wg 11 true 80 rfl rfl rfl rfl) rfl (t_lit [.string (bs []), .string (bs [97])] Try.runUnderlying23 Try.sizeOf9 Try.zeroValue9 rfl (by decide) (by decide) rfl (by simp [Value.cells])) ?_
  rintro v21 _ ⟨rfl, _⟩
  refine ops_turn (retell 3 (g := row v21 1 (strc [[], [97]])) rfl rfl) ?_
  refine ops_t (wg 11 true 80 rfl rfl rfl rfl) rfl (t_call (vs := [v21]) (cs := []) [⟨3, true⟩] rfl Try.call20 rfl (strs_p v21 [[], [97]] (by first | omega | (simp; done)) (by simp) (by rw [san_strs]; decide)) (shows_cons 3 true rfl views_row shows_nil) (.inr (by rintro _ _ rfl g hg; first | (cases hg; done) | (simp only [List.mem_cons, List.not_mem_nil, or_false] at hg; first | (subst hg; first | exact strict_row | exact strict_box) | (rcases hg with rfl | rfl <;> first | exact strict_row | exact strict_box))))) ?_
  rintro v22 _ ⟨_, rfl, rfl⟩
  refine ops_turn (retell 4 (g := row v22 1 (u8c [4, 0, 2, 97])) rfl (congrArg (fun l => row v22 1 (u8c l)) san_strs)) ?_
  refine ops_t (wg 11 true 80 rfl rfl rfl rfl) rfl (t_lit [.int .u8 4, .int .u8 0, .int .u8 2, .int .u8 97] Try.runUnderlying28 Try.sizeOf5 Try.zeroValue5 rfl (by decide) (by decide) rfl (by simp [Value.cells])) ?_
  rintro v23 _ ⟨rfl, _⟩
  refine ops_turn (retell 5 (g := row v23 1 (u8c [4, 0, 2, 97])) rfl rfl) ?_
  refine ops_t (wg 11 true 80 rfl rfl rfl rfl) rfl (t_call (vs := [v22, v23]) (cs := []) [⟨4, true⟩, ⟨5, true⟩] rfl Try.call13 rfl (same_r v22 v23 _ _) (shows_cons 4 true rfl views_row (shows_cons 5 true rfl views_row shows_nil)) (.inr (by rintro _ _ ⟨rfl, rfl⟩ g hg; first | (cases hg; done) | (simp only [List.mem_cons, List.not_mem_nil, or_false] at hg; first | (subst hg; first | exact strict_row | exact strict_box) | (rcases hg with rfl | rfl <;> first | exact strict_row | exact strict_box))))) ?_
  rintro _ _ ⟨_, ⟨rfl, rfl⟩, rfl⟩
  refine ops_as 84 _ (.bool true) rfl (congrArg Value.bool (decide_eq_true rfl)) ?_
  refine ops_y (wn rfl) rfl (y_pick (b := true) rfl rfl) ?_
  refine ops_y (wn rfl) rfl (y_assign rfl) ?_
  refine ops_nil ?_
  refine goes_code ?_
  refine run_seq ?_
  refine run_weak [(0, .bool false), (1, .int .i64 64), (2, .int .i64 2), (3, .int .i64 0), (6, .int .i64 10), (9, .int .i64 11), (10, .string (bs [97, 98])), (11, .int .i64 3), (12, .int .i64 0), (13, v11), (14, .int .i64 3), (15, .int .i64 0), (16, boxP b12 0), (17, v16), (18, .int .i64 17), (19, .int .i64 0), (23, .bool true)] [0, 1, 2] [row v11 1 (i64c [1, (-1)]), box b12 (arr8 [1, 2, 0, 0, 0, 0, 0, 0, 0, 0, 0, 0, 0, 0, 0, 0]), row v16 16 (arrc [[1, 2, 0, 0, 0, 0, 0, 0, 0, 0, 0, 0, 0, 0, 0, 0]])] (vcons rfl (vcons rfl (vcons rfl (vcons rfl (vcons rfl (vcons rfl (vcons rfl (vcons rfl (vcons rfl (vcons rfl (vcons rfl (vcons rfl (vcons rfl (vcons rfl (vcons rfl (vcons rfl (vcons rfl (vnil)))))))))))))))))) (by decide) rfl ?_
  refine run_region' ?_
  refine ops_y (wn rfl) rfl (y_move rfl) ?_
  refine ops_y (wn rfl) rfl (y_move rfl) ?_
  refine ops_t (wg 1 true 87 rfl rfl rfl rfl) rfl (t_call (vs := [.int .i64 (-65)]) (cs := []) [] rfl Try.call14 rfl (int_p (-65) (by first | omega | decide) (by first | omega | decide)) shows_nil (.inl rfl)) ?_
  rintro v24 _ ⟨_, rfl, rfl⟩
  refine ops_turn (retell 3 (g := row v24 1 (u8c [129, 1])) rfl (congrArg (fun l => row v24 1 (u8c l)) enc_m65)) ?_
  refine ops_t (wg 1 true 87 rfl rfl rfl rfl) rfl (t_lit [.int .u8 129, .int .u8 1] Try.runUnderlying28 Try.sizeOf5 Try.zeroValue5 rfl (by decide) (by decide) rfl (by simp [Value.cells])) ?_
  rintro v25 _ ⟨rfl, _⟩
  refine ops_turn (retell 4 (g := row v25 1 (u8c [129, 1])) rfl rfl) ?_
  refine ops_t (wg 1 true 87 rfl rfl rfl rfl) rfl (t_call (vs := [v24, v25]) (cs := []) [⟨3, true⟩, ⟨4, true⟩] rfl Try.call13 rfl (same_r v24 v25 _ _) (shows_cons 3 true rfl views_row (shows_cons 4 true rfl views_row shows_nil)) (.inr (by rintro _ _ ⟨rfl, rfl⟩ g hg; first | (cases hg; done) | (simp only [List.mem_cons, List.not_mem_nil, or_false] at hg; first | (subst hg; first | exact strict_row | exact strict_box) | (rcases hg with rfl | rfl <;> first | exact strict_row | exact strict_box))))) ?_
  rintro _ _ ⟨_, ⟨rfl, rfl⟩, rfl⟩
  refine ops_as 90 _ (.bool true) rfl (congrArg Value.bool (decide_eq_true rfl)) ?_
  refine ops_y (wn rfl) rfl (y_pick (b := true) rfl rfl) ?_
  refine ops_y (wn rfl) rfl (y_move rfl) ?_
  refine ops_y (wg 6 true 92 rfl rfl rfl rfl) rfl (y_move rfl) ?_
  refine ops_y (wg 6 true 92 rfl rfl rfl rfl) rfl (OpY.to (v' := .bool true) (y_eql rfl rfl) rfl) ?_
  refine ops_y (wn rfl) rfl (y_pick (b := true) rfl rfl) ?_
  refine ops_y (wn rfl) rfl (y_move rfl) ?_
  refine ops_y (wg 10 true 96 rfl rfl rfl rfl) rfl (y_move rfl) ?_
  refine ops_y (wg 10 true 96 rfl rfl rfl rfl) rfl (OpY.to (v' := .bool true) (y_eql rfl rfl) rfl) ?_
  refine ops_y (wn rfl) rfl (y_pick (b := true) rfl rfl) ?_
  refine ops_y (wn rfl) rfl (y_move rfl) ?_
  refine ops_y (wg 14 true 100 rfl rfl rfl rfl) rfl (y_move rfl) ?_
  refine ops_weak [(0, .bool false), (6, .int .i64 10), (9, .int .i64 11), (10, .string (bs [97, 98])), (11, .int .i64 3), (12, .int .i64 0), (13, v11), (14, .int .i64 3), (15, .int .i64 0), (16, boxP b12 0), (17, v16), (18, .int .i64 17), (19, .int .i64 0), (100, .bool true), (101, .int .i64 0)] [0, 1, 2] [row v11 1 (i64c [1, (-1)]), box b12 (arr8 [1, 2, 0, 0, 0, 0, 0, 0, 0, 0, 0, 0, 0, 0, 0, 0]), row v16 16 (arrc [[1, 2, 0, 0, 0, 0, 0, 0, 0, 0, 0, 0, 0, 0, 0, 0]])] (vcons rfl (vcons rfl (vcons rfl (vcons rfl (vcons rfl (vcons rfl (vcons rfl (vcons rfl (vcons rfl (vcons rfl (vcons rfl (vcons rfl (vcons rfl (vcons rfl (vcons rfl (vnil)))))))))))))))) (by decide) rfl ?_
  refine ops_y (wg 14 true 100 rfl rfl rfl rfl) rfl (OpY.to (v' := .bool true) (y_eql rfl rfl) rfl) ?_
  refine ops_y (wn rfl) rfl (y_pick (b := true) rfl rfl) ?_
  refine ops_y (wn rfl) rfl (y_move rfl) ?_
  refine ops_y (wg 18 true 104 rfl rfl rfl rfl) rfl (y_move rfl) ?_
  refine ops_y (wg 18 true 104 rfl rfl rfl rfl) rfl (OpY.to (v' := .bool true) (y_eql rfl rfl) rfl) ?_
  refine ops_y (wn rfl) rfl (y_pick (b := true) rfl rfl) ?_
  refine ops_y (wn rfl) rfl (y_move rfl) ?_
  refine ops_y (wg 22 true 108 rfl rfl rfl rfl) rfl (y_move rfl) ?_
  refine ops_y (wg 22 true 108 rfl rfl rfl rfl) rfl (OpY.to (v' := .bool true) (y_eql rfl rfl) rfl) ?_
  refine ops_y (wn rfl) rfl (y_pick (b := true) rfl rfl) ?_
  refine ops_y (wn rfl) rfl (y_move rfl) ?_
  refine ops_y (wg 26 true 112 rfl rfl rfl rfl) rfl (y_move rfl) ?_
  refine ops_y (wg 26 true 112 rfl rfl rfl rfl) rfl (y_seql rfl rfl) ?_
  refine ops_as 114 _ (.bool true) rfl (congrArg Value.bool (decide_eq_true rfl)) ?_
  refine ops_y (wn rfl) rfl (y_pick (b := true) rfl rfl) ?_
  refine ops_y (wn rfl) rfl (y_move rfl) ?_
  refine ops_y (wg 30 true 116 rfl rfl rfl rfl) rfl (y_move rfl) ?_
  refine ops_weak [(0, .bool false), (12, .int .i64 0), (13, v11), (14, .int .i64 3), (15, .int .i64 0), (16, boxP b12 0), (17, v16), (18, .int .i64 17), (19, .int .i64 0), (116, .bool true), (117, .int .i64 3)] [0, 1, 2] [row v11 1 (i64c [1, (-1)]), box b12 (arr8 [1, 2, 0, 0, 0, 0, 0, 0, 0, 0, 0, 0, 0, 0, 0, 0]), row v16 16 (arrc [[1, 2, 0, 0, 0, 0, 0, 0, 0, 0, 0, 0, 0, 0, 0, 0]])] (vcons rfl (vcons rfl (vcons rfl (vcons rfl (vcons rfl (vcons rfl (vcons rfl (vcons rfl (vcons rfl (vcons rfl (vcons rfl (vnil)))))))))))) (by decide) rfl ?_
  refine ops_y (wg 30 true 116 rfl rfl rfl rfl) rfl (OpY.to (v' := .bool true) (y_eql rfl rfl) rfl) ?_
  refine ops_y (wn rfl) rfl (y_pick (b := true) rfl rfl) ?_
  refine ops_y (wn rfl) rfl (y_move rfl) ?_
  refine ops_y (wg 34 true 120 rfl rfl rfl rfl) rfl (y_move rfl) ?_
  refine ops_y (wg 34 true 120 rfl rfl rfl rfl) rfl (OpY.to (v' := .bool true) (y_eql rfl rfl) rfl) ?_
  refine ops_y (wn rfl) rfl (y_pick (b := true) rfl rfl) ?_
  refine ops_y (wn rfl) rfl (y_move rfl) ?_
  refine ops_y (wg 38 true 124 rfl rfl rfl rfl) rfl (y_move rfl) ?_
  refine ops_t (wg 38 true 124 rfl rfl rfl rfl) rfl (t_lit [.int .i64 1, .int .i64 (-1)] Try.runUnderlying22 Try.sizeOf3 Try.zeroValue3 rfl (by decide) (by decide) rfl (by simp [Value.cells])) ?_
  rintro v26 _ ⟨rfl, _⟩
  refine ops_turn (retell 3 (g := row v26 1 (i64c [1, (-1)])) rfl rfl) ?_
  refine ops_t (wg 38 true 124 rfl rfl rfl rfl) rfl (t_call (vs := [v11, v26]) (cs := []) [⟨0, true⟩, ⟨3, true⟩] rfl Try.call30 rfl (sameInts v11 v26 _ _ (by first | omega | (simp only [List.length_drop, List.length_take, List.length_append]; omega) | (simp; done))) (shows_cons 0 true rfl views_row (shows_cons 3 true rfl views_row shows_nil)) (.inr (by rintro _ _ ⟨rfl, rfl⟩ g hg; first | (cases hg; done) | (simp only [List.mem_cons, List.not_mem_nil, or_false] at hg; first | (subst hg; first | exact strict_row | exact strict_box) | (rcases hg with rfl | rfl <;> first | exact strict_row | exact strict_box))))) ?_
  rintro _ _ ⟨_, ⟨rfl, rfl⟩, rfl⟩
  refine ops_as 127 _ (.bool true) rfl (congrArg Value.bool (decide_eq_true rfl)) ?_
  refine ops_y (wn rfl) rfl (y_pick (b := true) rfl rfl) ?_
  refine ops_y (wn rfl) rfl (y_move rfl) ?_
  refine ops_y (wg 43 true 129 rfl rfl rfl rfl) rfl (y_move rfl) ?_
  refine ops_y (wg 43 true 129 rfl rfl rfl rfl) rfl (OpY.to (v' := .bool true) (y_eql rfl rfl) rfl) ?_
  refine ops_y (wn rfl) rfl (y_pick (b := true) rfl rfl) ?_
  refine ops_y (wn rfl) rfl (y_move rfl) ?_
  refine ops_weak [(0, .bool false), (15, .int .i64 0), (16, boxP b12 0), (17, v16), (18, .int .i64 17), (19, .int .i64 0), (133, .bool true)] [1, 2] [box b12 (arr8 [1, 2, 0, 0, 0, 0, 0, 0, 0, 0, 0, 0, 0, 0, 0, 0]), row v16 16 (arrc [[1, 2, 0, 0, 0, 0, 0, 0, 0, 0, 0, 0, 0, 0, 0, 0]])] (vcons rfl (vcons rfl (vcons rfl (vcons rfl (vcons rfl (vcons rfl (vcons rfl (vnil)))))))) (by decide) rfl ?_
  refine ops_y (wg 47 true 133 rfl rfl rfl rfl) rfl (y_move rfl) ?_
  refine ops_y (wg 47 true 133 rfl rfl rfl rfl) rfl (OpY.to (v' := .bool true) (y_eql rfl rfl) rfl) ?_
  refine ops_y (wn rfl) rfl (y_pick (b := true) rfl rfl) ?_
  refine ops_y (wn rfl) rfl (y_move rfl) ?_
  refine ops_t (wg 51 true 137 rfl rfl rfl rfl) rfl (t_call (vs := [.string (bs [97, 98])]) (cs := []) [] rfl Try.call16 rfl (bytes_p [97, 98] (by first | omega | (simp only [List.length_drop, List.length_take, List.length_append]; omega) | (simp; done))) shows_nil (.inl rfl)) ?_
  rintro v27 _ ⟨_, rfl, rfl⟩
  refine ops_turn (retell 2 (g := row v27 1 (u8c [4, 97, 98])) rfl (congrArg (fun l => row v27 1 (u8c l)) san_s)) ?_
  refine ops_t (wg 51 true 137 rfl rfl rfl rfl) rfl (t_lit [.int .u8 4, .int .u8 97, .int .u8 98] Try.runUnderlying28 Try.sizeOf5 Try.zeroValue5 rfl (by decide) (by decide) rfl (by simp [Value.cells])) ?_
  rintro v28 _ ⟨rfl, _⟩
  refine ops_turn (retell 3 (g := row v28 1 (u8c [4, 97, 98])) rfl rfl) ?_
  refine ops_t (wg 51 true 137 rfl rfl rfl rfl) rfl (t_call (vs := [v27, v28]) (cs := []) [⟨2, true⟩, ⟨3, true⟩] rfl Try.call13 rfl (same_r v27 v28 _ _) (shows_cons 2 true rfl views_row (shows_cons 3 true rfl views_row shows_nil)) (.inr (by rintro _ _ ⟨rfl, rfl⟩ g hg; first | (cases hg; done) | (simp only [List.mem_cons, List.not_mem_nil, or_false] at hg; first | (subst hg; first | exact strict_row | exact strict_box) | (rcases hg with rfl | rfl <;> first | exact strict_row | exact strict_box))))) ?_
  rintro _ _ ⟨_, ⟨rfl, rfl⟩, rfl⟩
  refine ops_as 140 _ (.bool true) rfl (congrArg Value.bool (decide_eq_true rfl)) ?_
  refine ops_y (wn rfl) rfl (y_pick (b := true) rfl rfl) ?_
  refine ops_y (wn rfl) rfl (y_move rfl) ?_
  refine ops_t (wg 56 true 142 rfl rfl rfl rfl) rfl (t_lit [.int .i64 1, .int .i64 (-1)] Try.runUnderlying22 Try.sizeOf3 Try.zeroValue3 rfl (by decide) (by decide) rfl (by simp [Value.cells])) ?_
  rintro v29 _ ⟨rfl, _⟩
  refine ops_turn (retell 4 (g := row v29 1 (i64c [1, (-1)])) rfl rfl) ?_
  refine ops_t (wg 56 true 142 rfl rfl rfl rfl) rfl (t_call (vs := [v29]) (cs := []) [⟨4, true⟩] rfl Try.call18 rfl (ints_p v29 [1, (-1)] (by first | omega | (simp; done)) (by simp) (by rw [san_ints]; decide)) (shows_cons 4 true rfl views_row shows_nil) (.inr (by rintro _ _ rfl g hg; first | (cases hg; done) | (simp only [List.mem_cons, List.not_mem_nil, or_false] at hg; first | (subst hg; first | exact strict_row | exact strict_box) | (rcases hg with rfl | rfl <;> first | exact strict_row | exact strict_box))))) ?_
  rintro v30 _ ⟨_, rfl, rfl⟩
  refine ops_turn (retell 5 (g := row v30 1 (u8c [4, 2, 1])) rfl (congrArg (fun l => row v30 1 (u8c l)) san_ints)) ?_
  refine ops_t (wg 56 true 142 rfl rfl rfl rfl) rfl (t_lit [.int .u8 4, .int .u8 2, .int .u8 1] Try.runUnderlying28 Try.sizeOf5 Try.zeroValue5 rfl (by decide) (by decide) rfl (by simp [Value.cells])) ?_
  rintro v31 _ ⟨rfl, _⟩
  refine ops_turn (retell 6 (g := row v31 1 (u8c [4, 2, 1])) rfl rfl) ?_
  refine ops_t (wg 56 true 142 rfl rfl rfl rfl) rfl (t_call (vs := [v30, v31]) (cs := []) [⟨5, true⟩, ⟨6, true⟩] rfl Try.call13 rfl (same_r v30 v31 _ _) (shows_cons 5 true rfl views_row (shows_cons 6 true rfl views_row shows_nil)) (.inr (by rintro _ _ ⟨rfl, rfl⟩ g hg; first | (cases hg; done) | (simp only [List.mem_cons, List.not_mem_nil, or_false] at hg; first | (subst hg; first | exact strict_row | exact strict_box) | (rcases hg with rfl | rfl <;> first | exact strict_row | exact strict_box))))) ?_
  rintro _ _ ⟨_, ⟨rfl, rfl⟩, rfl⟩
  refine ops_as 146 _ (.bool true) rfl (congrArg Value.bool (decide_eq_true rfl)) ?_
  refine ops_y (wn rfl) rfl (y_pick (b := true) rfl rfl) ?_
  refine ops_y (wn rfl) rfl (y_move rfl) ?_
  refine ops_y (wg 62 true 148 rfl rfl rfl rfl) rfl (y_move rfl) ?_
  refine ops_weak [(0, .bool false), (16, boxP b12 0), (18, .int .i64 17), (19, .int .i64 0), (148, .bool true), (149, v16)] [0, 1] [box b12 (arr8 [1, 2, 0, 0, 0, 0, 0, 0, 0, 0, 0, 0, 0, 0, 0, 0]), row v16 16 (arrc [[1, 2, 0, 0, 0, 0, 0, 0, 0, 0, 0, 0, 0, 0, 0, 0]])] (vcons rfl (vcons rfl (vcons rfl (vcons rfl (vcons rfl (vcons rfl (vnil))))))) (by decide) rfl ?_
  refine ops_y (wg 62 true 148 rfl rfl rfl rfl) rfl (y_load_all 0 Try.isAgg57 Try.sizeOf57 rfl rfl (by rw [arr8_len]; exact san_d)) ?_
  refine ops_t (wg 62 true 148 rfl rfl rfl rfl) rfl (t_lit [.agg (arr8 [1, 2, 0, 0, 0, 0, 0, 0, 0, 0, 0, 0, 0, 0, 0, 0]).toArray] Try.runUnderlying24 Try.sizeOf57 Try.zeroValue57 rfl (by decide) (by decide) rfl (by simp [Value.cells, arr8_len, san_d])) ?_
  rintro v32 _ ⟨rfl, _⟩
  refine ops_turn (retell 2 (g := row v32 16 (arrc [[1, 2, 0, 0, 0, 0, 0, 0, 0, 0, 0, 0, 0, 0, 0, 0]])) rfl rfl) ?_
  refine ops_t (wg 62 true 148 rfl rfl rfl rfl) rfl (t_call (vs := [v16, v32]) (cs := []) [⟨1, true⟩, ⟨2, true⟩] rfl Try.call36 rfl (sameDigs v16 v32 _ _ (by first | omega | (simp only [List.length_drop, List.length_take, List.length_append]; omega) | (simp; done)) (by simp) (by simp [san_d])) (shows_cons 1 true rfl views_row (shows_cons 2 true rfl views_row shows_nil)) (.inr (by rintro _ _ ⟨rfl, rfl⟩ g hg; first | (cases hg; done) | (simp only [List.mem_cons, List.not_mem_nil, or_false] at hg; first | (subst hg; first | exact strict_row | exact strict_box) | (rcases hg with rfl | rfl <;> first | exact strict_row | exact strict_box))))) ?_
  rintro _ _ ⟨_, ⟨rfl, rfl⟩, rfl⟩
  refine ops_as 152 _ (.bool true) rfl (congrArg Value.bool (decide_eq_true rfl)) ?_
  refine ops_y (wn rfl) rfl (y_pick (b := true) rfl rfl) ?_
  refine ops_y (wn rfl) rfl (y_move rfl) ?_
  refine ops_y (wg 68 true 154 rfl rfl rfl rfl) rfl (y_move rfl) ?_
  refine ops_y (wg 68 true 154 rfl rfl rfl rfl) rfl (OpY.to (v' := .bool true) (y_eql rfl rfl) rfl) ?_
  refine ops_y (wn rfl) rfl (y_pick (b := true) rfl rfl) ?_
  refine ops_y (wn rfl) rfl (y_move rfl) ?_
  refine ops_y (wg 72 true 158 rfl rfl rfl rfl) rfl (y_move rfl) ?_
  refine ops_y (wg 72 true 158 rfl rfl rfl rfl) rfl (OpY.to (v' := .bool true) (y_eql rfl rfl) rfl) ?_
  refine ops_y (wn rfl) rfl (y_pick (b := true) rfl rfl) ?_
  refine ops_y (wn rfl) rfl (y_assign rfl) ?_
  refine ops_nil ?_
  refine goes_code ?_
  refine run_ret ?_
  refine fin_slots [0] [.bool true] [] [] Try.results12 rfl (by decide) rfl ?_
  dsimp only [tup]
  exact ⟨rfl, rfl⟩

theorem law_decode (bv : Value) (b : List UInt8) :
    Meets Try.prog 4 [bv] [ro bv 1 (u8c b)] (fun v G => v = .bool true ∧ G = []) := by
  refine fn_of_run Try.func4 rfl Try.ntmps4 rfl (fun w0 o0 => ?_)
  refine run_seq ?_
  refine run_region' ?_
  refine ops_y (wn rfl) rfl (y_assign rfl) ?_
  refine ops_nil ?_
  refine goes_code ?_
  refine run_seq ?_
  refine run_seq ?_
  refine run_region' ?_
  refine ops_y (wn rfl) rfl (y_move rfl) ?_
  refine ops_y (wn rfl) rfl ((y_len 0 rfl Try.runUnderlying28 rfl rfl reads_ro).to (congrArg (fun n : Nat => Value.int .i64 (n : Int)) (u8c_len _))) ?_
  refine ops_y (wn rfl) rfl (y_gtr rfl rfl) ?_
  refine ops_nil ?_
  refine goes_code ?_
  refine run_cond _ rfl (fun hc1 => ?_) (fun hc1 => ?_)
  · -- B1t
    replace hc1 := of_decide_eq_true hc1
    refine run_seq ?_
    refine run_region' ?_
    refine ops_t (wn rfl) rfl (t_call (vs := []) (cs := []) [] rfl Try.call12 rfl (sanity) shows_nil (.inl rfl)) ?_
    rintro _ _ ⟨_, ⟨rfl, rfl⟩, rfl⟩
    refine ops_y (wn rfl) rfl (y_assign rfl) ?_
    refine ops_nil ?_
    refine goes_code ?_
    refine run_ret ?_
    refine fin_slots [2] [.bool true] [] [] Try.results4 rfl (by decide) rfl ?_
    dsimp only [tup]
    exact ⟨rfl, rfl⟩
  · -- B1f
    replace hc1 := of_decide_eq_false hc1
    refine run_skip ?_
    refine goes_code ?_
    refine run_seq ?_
    refine run_region' ?_
    refine ops_y (wn rfl) rfl (y_move rfl) ?_
    refine ops_t (wn rfl) rfl (t_call (vs := [bv]) (cs := []) [⟨0, false⟩] rfl Try.call24 rfl (getInt_p bv _ (by first | omega | (simp only [List.length_drop, List.length_take, List.length_append]; omega) | (simp; done))) (shows_cons 0 false rfl views_ro shows_nil) (.inl rfl)) ?_
    rintro _ _ ⟨_, ⟨rfl, rfl⟩, rfl⟩
    have hg2 := getI_any b
    refine ops_y (wn rfl) rfl (y_move rfl) ?_
    refine ops_y (wn rfl) rfl (y_extract rfl rfl) ?_
    refine ops_y (wn rfl) rfl (y_extract rfl rfl) ?_
    refine ops_y (wn rfl) rfl (y_extract rfl rfl) ?_
    refine ops_y (wn rfl) rfl (y_assign rfl) ?_
    refine ops_y (wn rfl) rfl (y_assign rfl) ?_
    refine ops_y (wn rfl) rfl (y_assign rfl) ?_
    refine ops_nil ?_
    refine goes_code ?_
    refine run_seq ?_
    refine run_weak [(0, bv), (2, .bool false), (3, .int .i64 ((getI b).1)), (4, .int .i64 (((getI b).2.1 : Nat) : Int)), (5, .int .i64 (((getI b).2.2 : Nat) : Int))] [0] [ro bv 1 (u8c b)] (vcons rfl (vcons rfl (vcons rfl (vcons rfl (vcons rfl (vnil)))))) (by decide) rfl ?_
    refine run_region' ?_
    refine ops_y (wn rfl) rfl (y_move rfl) ?_
    refine ops_t (wn rfl) rfl (t_call (vs := [bv]) (cs := []) [⟨0, false⟩] rfl Try.call25 rfl (getInt_r bv _ (by first | omega | (simp only [List.length_drop, List.length_take, List.length_append]; omega) | (simp; done))) (shows_cons 0 false rfl views_ro shows_nil) (.inl rfl)) ?_
    rintro _ _ ⟨_, ⟨rfl, rfl⟩, rfl⟩
    have hg3 := getI_any b
    refine ops_y (wn rfl) rfl (y_move rfl) ?_
    refine ops_y (wn rfl) rfl (y_extract rfl rfl) ?_
    refine ops_y (wn rfl) rfl (y_extract rfl rfl) ?_
    refine ops_y (wn rfl) rfl (y_extract rfl rfl) ?_
    refine ops_y (wn rfl) rfl (y_assign rfl) ?_
    refine ops_y (wn rfl) rfl (y_assign rfl) ?_
    refine ops_y (wn rfl) rfl (y_assign rfl) ?_
    refine ops_nil ?_
    refine goes_code ?_
    refine run_seq ?_
    refine run_seq ?_
    refine run_region' ?_
    refine ops_y (wn rfl) rfl (y_move rfl) ?_
    refine ops_y (wn rfl) rfl (y_move rfl) ?_
    refine ops_y (wn rfl) rfl (y_neq rfl rfl) ?_
    refine ops_as 51 _ (.bool false) rfl (congrArg Value.bool (decide_eq_false (fun h => h rfl))) ?_
    refine ops_y (wn rfl) rfl (y_move rfl) ?_
    refine ops_y (wg 3 false 52 rfl rfl rfl rfl) rfl (y_move rfl) ?_
    refine ops_y (wg 3 false 52 rfl rfl rfl rfl) rfl (y_move rfl) ?_
    refine ops_y (wg 3 false 52 rfl rfl rfl rfl) rfl (y_neq rfl rfl) ?_
    refine ops_as 55 _ (.bool false) rfl (congrArg Value.bool (decide_eq_false (fun h => h rfl))) ?_
    refine ops_weak [(0, bv), (2, .bool false), (5, .int .i64 (((getI b).2.2 : Nat) : Int)), (8, .int .i64 (((getI b).2.2 : Nat) : Int)), (52, .bool false), (55, .bool false)] [0] [ro bv 1 (u8c b)] (vcons rfl (vcons rfl (vcons rfl (vcons rfl (vcons rfl (vcons rfl (vnil))))))) (by decide) rfl ?_
    refine ops_y (wn rfl) rfl (y_pick (b := false) rfl rfl) ?_
    refine ops_y (wn rfl) rfl (y_move rfl) ?_
    refine ops_y (wg 8 false 57 rfl rfl rfl rfl) rfl (y_move rfl) ?_
    refine ops_y (wg 8 false 57 rfl rfl rfl rfl) rfl (y_move rfl) ?_
    refine ops_y (wg 8 false 57 rfl rfl rfl rfl) rfl (y_neq rfl rfl) ?_
    refine ops_as 60 _ (.bool false) rfl (congrArg Value.bool (decide_eq_false (fun h => h rfl))) ?_
    refine ops_y (wn rfl) rfl (y_pick (b := false) rfl rfl) ?_
    refine ops_nil ?_
    refine goes_code ?_
    refine run_cond_f rfl ?_
    refine run_skip ?_
    refine goes_code ?_
    refine run_seq ?_
    refine run_region' ?_
    refine ops_y (wn rfl) rfl (y_move rfl) ?_
    refine ops_t (wn rfl) rfl (t_call (vs := [bv]) (cs := []) [⟨0, false⟩] rfl Try.call26 rfl (getS_p bv _ (by first | omega | (simp only [List.length_drop, List.length_take, List.length_append]; omega) | (simp; done))) (shows_cons 0 false rfl views_ro shows_nil) (.inl rfl)) ?_
    rintro _ _ ⟨_, ⟨rfl, rfl⟩, rfl⟩
    have hg4 := getS_any b
    refine ops_y (wn rfl) rfl (y_move rfl) ?_
    refine ops_y (wn rfl) rfl (y_extract rfl rfl) ?_
    refine ops_y (wn rfl) rfl (y_extract rfl rfl) ?_
    refine ops_y (wn rfl) rfl (y_extract rfl rfl) ?_
    refine ops_y (wn rfl) rfl (y_assign rfl) ?_
    refine ops_y (wn rfl) rfl (y_assign rfl) ?_
    refine ops_y (wn rfl) rfl (y_assign rfl) ?_
    refine ops_nil ?_
    refine goes_code ?_
    refine run_seq ?_
    refine run_weak [(0, bv), (2, .bool false), (9, .string (bs ((getS b).1))), (10, .int .i64 (((getS b).2.1 : Nat) : Int)), (11, .int .i64 (((getS b).2.2 : Nat) : Int))] [0] [ro bv 1 (u8c b)] (vcons rfl (vcons rfl (vcons rfl (vcons rfl (vcons rfl (vnil)))))) (by decide) rfl ?_
    refine run_region' ?_
    refine ops_y (wn rfl) rfl (y_move rfl) ?_
    refine ops_t (wn rfl) rfl (t_call (vs := [bv]) (cs := []) [⟨0, false⟩] rfl Try.call27 rfl (getS_r bv _ (by first | omega | (simp only [List.length_drop, List.length_take, List.length_append]; omega) | (simp; done))) (shows_cons 0 false rfl views_ro shows_nil) (.inl rfl)) ?_
    rintro _ _ ⟨_, ⟨rfl, rfl⟩, rfl⟩
    have hg5 := getS_any b
    refine ops_y (wn rfl) rfl (y_move rfl) ?_
    refine ops_y (wn rfl) rfl (y_extract rfl rfl) ?_
    refine ops_y (wn rfl) rfl (y_extract rfl rfl) ?_
    refine ops_y (wn rfl) rfl (y_extract rfl rfl) ?_
    refine ops_y (wn rfl) rfl (y_assign rfl) ?_
    refine ops_y (wn rfl) rfl (y_assign rfl) ?_
    refine ops_y (wn rfl) rfl (y_assign rfl) ?_
    refine ops_nil ?_
    refine goes_code ?_
    refine run_seq ?_
    refine run_seq ?_
    refine run_region' ?_
    refine ops_y (wn rfl) rfl (y_move rfl) ?_
    refine ops_y (wn rfl) rfl (y_move rfl) ?_
    refine ops_y (wn rfl) rfl (y_sneq rfl rfl) ?_
    refine ops_as 76 _ (.bool false) rfl (congrArg (fun b : Bool => Value.bool (!b)) (decide_eq_true rfl)) ?_
    refine ops_y (wn rfl) rfl (y_move rfl) ?_
    refine ops_y (wg 3 false 77 rfl rfl rfl rfl) rfl (y_move rfl) ?_
    refine ops_y (wg 3 false 77 rfl rfl rfl rfl) rfl (y_move rfl) ?_
    refine ops_y (wg 3 false 77 rfl rfl rfl rfl) rfl (y_neq rfl rfl) ?_
    refine ops_as 80 _ (.bool false) rfl (congrArg Value.bool (decide_eq_false (fun h => h rfl))) ?_
    refine ops_weak [(0, bv), (2, .bool false), (11, .int .i64 (((getS b).2.2 : Nat) : Int)), (14, .int .i64 (((getS b).2.2 : Nat) : Int)), (77, .bool false), (80, .bool false)] [0] [ro bv 1 (u8c b)] (vcons rfl (vcons rfl (vcons rfl (vcons rfl (vcons rfl (vcons rfl (vnil))))))) (by decide) rfl ?_
    refine ops_y (wn rfl) rfl (y_pick (b := false) rfl rfl) ?_
    refine ops_y (wn rfl) rfl (y_move rfl) ?_
    refine ops_y (wg 8 false 82 rfl rfl rfl rfl) rfl (y_move rfl) ?_
    refine ops_y (wg 8 false 82 rfl rfl rfl rfl) rfl (y_move rfl) ?_
    refine ops_y (wg 8 false 82 rfl rfl rfl rfl) rfl (y_neq rfl rfl) ?_
    refine ops_as 85 _ (.bool false) rfl (congrArg Value.bool (decide_eq_false (fun h => h rfl))) ?_
    refine ops_y (wn rfl) rfl (y_pick (b := false) rfl rfl) ?_
    refine ops_nil ?_
    refine goes_code ?_
    refine run_cond_f rfl ?_
    refine run_skip ?_
    refine goes_code ?_
    refine run_seq ?_
    refine run_region' ?_
    refine ops_y (wn rfl) rfl (y_move rfl) ?_
    refine ops_t (wn rfl) rfl (t_call (vs := [bv]) (cs := []) [⟨0, false⟩] rfl Try.call28 rfl (getInts_p bv _ (by first | omega | (simp only [List.length_drop, List.length_take, List.length_append]; omega) | (simp; done))) (shows_cons 0 false rfl views_ro shows_nil) (.inl rfl)) ?_
    rintro _ _ ⟨_, ⟨v7, rfl, rfl⟩, rfl⟩
    have hd6 := getLI_any b
    refine ops_y (wn rfl) rfl (y_move rfl) ?_
    refine ops_y (wn rfl) rfl (y_extract rfl rfl) ?_
    refine ops_y (wn rfl) rfl (y_extract rfl rfl) ?_
    refine ops_y (wn rfl) rfl (y_extract rfl rfl) ?_
    refine ops_y (wn rfl) rfl (y_assign rfl) ?_
    refine ops_y (wn rfl) rfl (y_assign rfl) ?_
    refine ops_y (wn rfl) rfl (y_assign rfl) ?_
    refine ops_nil ?_
    refine goes_code ?_
    refine run_seq ?_
    refine run_weak [(0, bv), (2, .bool false), (15, v7), (16, .int .i64 (((getL getI 1 b).2.1 : Nat) : Int)), (17, .int .i64 (((getL getI 1 b).2.2 : Nat) : Int))] [0, 1] [ro bv 1 (u8c b), row v7 1 (i64c ((getL getI 1 b).1))] (vcons rfl (vcons rfl (vcons rfl (vcons rfl (vcons rfl (vnil)))))) (by decide) rfl ?_
    refine run_region' ?_
    refine ops_y (wn rfl) rfl (y_move rfl) ?_
    refine ops_t (wn rfl) rfl (t_call (vs := [bv]) (cs := []) [⟨0, false⟩] rfl Try.call29 rfl (getInts_r bv _ (by first | omega | (simp only [List.length_drop, List.length_take, List.length_append]; omega) | (simp; done))) (shows_cons 0 false rfl views_ro shows_nil) (.inl rfl)) ?_
    rintro _ _ ⟨_, ⟨v9, rfl, rfl⟩, rfl⟩
    have hd8 := getLI_any b
    refine ops_y (wn rfl) rfl (y_move rfl) ?_
    refine ops_y (wn rfl) rfl (y_extract rfl rfl) ?_
    refine ops_y (wn rfl) rfl (y_extract rfl rfl) ?_
    refine ops_y (wn rfl) rfl (y_extract rfl rfl) ?_
    refine ops_y (wn rfl) rfl (y_assign rfl) ?_
    refine ops_y (wn rfl) rfl (y_assign rfl) ?_
    refine ops_y (wn rfl) rfl (y_assign rfl) ?_
    refine ops_nil ?_
    refine goes_code ?_
    refine run_seq ?_
    refine run_seq ?_
    refine run_region' ?_
    refine ops_y (wn rfl) rfl (y_move rfl) ?_
    refine ops_y (wn rfl) rfl (y_move rfl) ?_
    refine ops_t (wn rfl) rfl (t_call (vs := [v7, v9]) (cs := []) [⟨1, true⟩, ⟨2, true⟩] rfl Try.call30 rfl (sameInts v7 v9 _ _ (by first | omega | (simp only [List.length_drop, List.length_take, List.length_append]; omega) | (simp; done))) (shows_cons 1 true rfl views_row (shows_cons 2 true rfl views_row shows_nil)) (.inr (by rintro _ _ ⟨rfl, rfl⟩ g hg; first | (cases hg; done) | (simp only [List.mem_cons, List.not_mem_nil, or_false] at hg; first | (subst hg; first | exact strict_row | exact strict_box) | (rcases hg with rfl | rfl <;> first | exact strict_row | exact strict_box))))) ?_
    rintro _ _ ⟨_, ⟨rfl, rfl⟩, rfl⟩
    refine ops_as 101 _ (.bool true) rfl (congrArg Value.bool (decide_eq_true rfl)) ?_
    refine ops_y (wn rfl) rfl (y_not rfl) ?_
    refine ops_y (wn rfl) rfl (y_move rfl) ?_
    refine ops_y (wg 4 false 103 rfl rfl rfl rfl) rfl (y_move rfl) ?_
    refine ops_y (wg 4 false 103 rfl rfl rfl rfl) rfl (y_move rfl) ?_
    refine ops_weak [(0, bv), (2, .bool false), (17, .int .i64 (((getL getI 1 b).2.2 : Nat) : Int)), (20, .int .i64 (((getL getI 1 b).2.2 : Nat) : Int)), (103, .bool false), (104, .int .i64 (((getL getI 1 b).2.1 : Nat) : Int)), (105, .int .i64 (((getL getI 1 b).2.1 : Nat) : Int))] [0] [ro bv 1 (u8c b)] (vcons rfl (vcons rfl (vcons rfl (vcons rfl (vcons rfl (vcons rfl (vcons rfl (vnil)))))))) (by decide) rfl ?_
    refine ops_y (wg 4 false 103 rfl rfl rfl rfl) rfl (y_neq rfl rfl) ?_
    refine ops_as 106 _ (.bool false) rfl (congrArg Value.bool (decide_eq_false (fun h => h rfl))) ?_
    refine ops_y (wn rfl) rfl (y_pick (b := false) rfl rfl) ?_
    refine ops_y (wn rfl) rfl (y_move rfl) ?_
    refine ops_y (wg 9 false 108 rfl rfl rfl rfl) rfl (y_move rfl) ?_
    refine ops_y (wg 9 false 108 rfl rfl rfl rfl) rfl (y_move rfl) ?_
    refine ops_y (wg 9 false 108 rfl rfl rfl rfl) rfl (y_neq rfl rfl) ?_
    refine ops_as 111 _ (.bool false) rfl (congrArg Value.bool (decide_eq_false (fun h => h rfl))) ?_
    refine ops_y (wn rfl) rfl (y_pick (b := false) rfl rfl) ?_
    refine ops_nil ?_
    refine goes_code ?_
    refine run_cond_f rfl ?_
    refine run_skip ?_
    refine goes_code ?_
    refine run_seq ?_
    refine run_region' ?_
    refine ops_y (wn rfl) rfl (y_move rfl) ?_
    refine ops_t (wn rfl) rfl (t_call (vs := [bv]) (cs := []) [⟨0, false⟩] rfl Try.call31 rfl (getStrs_p bv _ (by first | omega | (simp only [List.length_drop, List.length_take, List.length_append]; omega) | (simp; done))) (shows_cons 0 false rfl views_ro shows_nil) (.inl rfl)) ?_
    rintro _ _ ⟨_, ⟨v11, rfl, rfl⟩, rfl⟩
    have hd10 := getLS_any b
    refine ops_y (wn rfl) rfl (y_move rfl) ?_
    refine ops_y (wn rfl) rfl (y_extract rfl rfl) ?_
    refine ops_y (wn rfl) rfl (y_extract rfl rfl) ?_
    refine ops_y (wn rfl) rfl (y_extract rfl rfl) ?_
    refine ops_y (wn rfl) rfl (y_assign rfl) ?_
    refine ops_y (wn rfl) rfl (y_assign rfl) ?_
    refine ops_y (wn rfl) rfl (y_assign rfl) ?_
    refine ops_nil ?_
    refine goes_code ?_
    refine run_seq ?_
    refine run_weak [(0, bv), (2, .bool false), (21, v11), (22, .int .i64 (((getL getS 1 b).2.1 : Nat) : Int)), (23, .int .i64 (((getL getS 1 b).2.2 : Nat) : Int))] [0, 1] [ro bv 1 (u8c b), row v11 1 (strc ((getL getS 1 b).1))] (vcons rfl (vcons rfl (vcons rfl (vcons rfl (vcons rfl (vnil)))))) (by decide) rfl ?_
    refine run_region' ?_
    refine ops_y (wn rfl) rfl (y_move rfl) ?_
    refine ops_t (wn rfl) rfl (t_call (vs := [bv]) (cs := []) [⟨0, false⟩] rfl Try.call32 rfl (getStrs_r bv _ (by first | omega | (simp only [List.length_drop, List.length_take, List.length_append]; omega) | (simp; done))) (shows_cons 0 false rfl views_ro shows_nil) (.inl rfl)) ?_
    rintro _ _ ⟨_, ⟨v13, rfl, rfl⟩, rfl⟩
    have hd12 := getLS_any b
    refine ops_y (wn rfl) rfl (y_move rfl) ?_
    refine ops_y (wn rfl) rfl (y_extract rfl rfl) ?_
    refine ops_y (wn rfl) rfl (y_extract rfl rfl) ?_
    refine ops_y (wn rfl) rfl (y_extract rfl rfl) ?_
    refine ops_y (wn rfl) rfl (y_assign rfl) ?_
    refine ops_y (wn rfl) rfl (y_assign rfl) ?_
    refine ops_y (wn rfl) rfl (y_assign rfl) ?_
    refine ops_nil ?_
    refine goes_code ?_
    refine run_seq ?_
    refine run_seq ?_
    refine run_region' ?_
    refine ops_y (wn rfl) rfl (y_move rfl) ?_
    refine ops_y (wn rfl) rfl (y_move rfl) ?_
    refine ops_t (wn rfl) rfl (t_call (vs := [v11, v13]) (cs := []) [⟨1, true⟩, ⟨2, true⟩] rfl Try.call33 rfl (sameTexts v11 v13 _ _ (by first | omega | (simp only [List.length_drop, List.length_take, List.length_append]; omega) | (simp; done))) (shows_cons 1 true rfl views_row (shows_cons 2 true rfl views_row shows_nil)) (.inr (by rintro _ _ ⟨rfl, rfl⟩ g hg; first | (cases hg; done) | (simp only [List.mem_cons, List.not_mem_nil, or_false] at hg; first | (subst hg; first | exact strict_row | exact strict_box) | (rcases hg with rfl | rfl <;> first | exact strict_row | exact strict_box))))) ?_
    rintro _ _ ⟨_, ⟨rfl, rfl⟩, rfl⟩
    refine ops_as 127 _ (.bool true) rfl (congrArg Value.bool (decide_eq_true rfl)) ?_
    refine ops_y (wn rfl) rfl (y_not rfl) ?_
    refine ops_y (wn rfl) rfl (y_move rfl) ?_
    refine ops_y (wg 4 false 129 rfl rfl rfl rfl) rfl (y_move rfl) ?_
    refine ops_y (wg 4 false 129 rfl rfl rfl rfl) rfl (y_move rfl) ?_
    refine ops_weak [(0, bv), (2, .bool false), (23, .int .i64 (((getL getS 1 b).2.2 : Nat) : Int)), (26, .int .i64 (((getL getS 1 b).2.2 : Nat) : Int)), (129, .bool false), (130, .int .i64 (((getL getS 1 b).2.1 : Nat) : Int)), (131, .int .i64 (((getL getS 1 b).2.1 : Nat) : Int))] [0] [ro bv 1 (u8c b)] (vcons rfl (vcons rfl (vcons rfl (vcons rfl (vcons rfl (vcons rfl (vcons rfl (vnil)))))))) (by decide) rfl ?_
    refine ops_y (wg 4 false 129 rfl rfl rfl rfl) rfl (y_neq rfl rfl) ?_
    refine ops_as 132 _ (.bool false) rfl (congrArg Value.bool (decide_eq_false (fun h => h rfl))) ?_
    refine ops_y (wn rfl) rfl (y_pick (b := false) rfl rfl) ?_
    refine ops_y (wn rfl) rfl (y_move rfl) ?_
    refine ops_y (wg 9 false 134 rfl rfl rfl rfl) rfl (y_move rfl) ?_
    refine ops_y (wg 9 false 134 rfl rfl rfl rfl) rfl (y_move rfl) ?_
    refine ops_y (wg 9 false 134 rfl rfl rfl rfl) rfl (y_neq rfl rfl) ?_
    refine ops_as 137 _ (.bool false) rfl (congrArg Value.bool (decide_eq_false (fun h => h rfl))) ?_
    refine ops_y (wn rfl) rfl (y_pick (b := false) rfl rfl) ?_
    refine ops_nil ?_
    refine goes_code ?_
    refine run_cond_f rfl ?_
    refine run_skip ?_
    refine goes_code ?_
    refine run_seq ?_
    refine run_region' ?_
    refine ops_y (wn rfl) rfl (y_move rfl) ?_
    refine ops_t (wn rfl) rfl (t_call (vs := [bv]) (cs := []) [⟨0, false⟩] rfl Try.call34 rfl (getDigs_p bv _ (by first | omega | (simp only [List.length_drop, List.length_take, List.length_append]; omega) | (simp; done))) (shows_cons 0 false rfl views_ro shows_nil) (.inl rfl)) ?_
    rintro _ _ ⟨_, ⟨v15, rfl, rfl⟩, rfl⟩
    have hd14 := getLD_any b
    refine ops_y (wn rfl) rfl (y_move rfl) ?_
    refine ops_y (wn rfl) rfl (y_extract rfl rfl) ?_
    refine ops_y (wn rfl) rfl (y_extract rfl rfl) ?_
    refine ops_y (wn rfl) rfl (y_extract rfl rfl) ?_
    refine ops_y (wn rfl) rfl (y_assign rfl) ?_
    refine ops_y (wn rfl) rfl (y_assign rfl) ?_
    refine ops_y (wn rfl) rfl (y_assign rfl) ?_
    refine ops_nil ?_
    refine goes_code ?_
    refine run_seq ?_
    refine run_weak [(0, bv), (2, .bool false), (27, v15), (28, .int .i64 (((getL getD 16 b).2.1 : Nat) : Int)), (29, .int .i64 (((getL getD 16 b).2.2 : Nat) : Int))] [0, 1] [ro bv 1 (u8c b), row v15 16 (arrc ((getL getD 16 b).1))] (vcons rfl (vcons rfl (vcons rfl (vcons rfl (vcons rfl (vnil)))))) (by decide) rfl ?_
    refine run_region' ?_
    refine ops_y (wn rfl) rfl (y_move rfl) ?_
    refine ops_t (wn rfl) rfl (t_call (vs := [bv]) (cs := []) [⟨0, false⟩] rfl Try.call35 rfl (getDigs_r bv _ (by first | omega | (simp only [List.length_drop, List.length_take, List.length_append]; omega) | (simp; done))) (shows_cons 0 false rfl views_ro shows_nil) (.inl rfl)) ?_
    rintro _ _ ⟨_, ⟨v17, rfl, rfl⟩, rfl⟩
    have hd16 := getLD_any b
    refine ops_y (wn rfl) rfl (y_move rfl) ?_
    refine ops_y (wn rfl) rfl (y_extract rfl rfl) ?_
    refine ops_y (wn rfl) rfl (y_extract rfl rfl) ?_
    refine ops_y (wn rfl) rfl (y_extract rfl rfl) ?_
    refine ops_y (wn rfl) rfl (y_assign rfl) ?_
    refine ops_y (wn rfl) rfl (y_assign rfl) ?_
    refine ops_y (wn rfl) rfl (y_assign rfl) ?_
    refine ops_nil ?_
    refine goes_code ?_
    refine run_seq ?_
    refine run_region' ?_
    refine ops_t (wn rfl) rfl (t_call (vs := []) (cs := []) [] rfl Try.call12 rfl (sanity) shows_nil (.inl rfl)) ?_
    rintro _ _ ⟨_, ⟨rfl, rfl⟩, rfl⟩
    refine ops_y (wn rfl) rfl (y_move rfl) ?_
    refine ops_y (wg 1 true 152 rfl rfl rfl rfl) rfl (y_move rfl) ?_
    refine ops_y (wg 1 true 152 rfl rfl rfl rfl) rfl (y_move rfl) ?_
    refine ops_t (wg 1 true 152 rfl rfl rfl rfl) rfl (t_call (vs := [v15, v17]) (cs := []) [⟨1, true⟩, ⟨2, true⟩] rfl Try.call36 rfl (sameDigs v15 v17 _ _ (by first | omega | (simp only [List.length_drop, List.length_take, List.length_append]; omega) | (simp; done)) (getL_dig _) (getL_dig _)) (shows_cons 1 true rfl views_row (shows_cons 2 true rfl views_row shows_nil)) (.inr (by rintro _ _ ⟨rfl, rfl⟩ g hg; first | (cases hg; done) | (simp only [List.mem_cons, List.not_mem_nil, or_false] at hg; first | (subst hg; first | exact strict_row | exact strict_box) | (rcases hg with rfl | rfl <;> first | exact strict_row | exact strict_box))))) ?_
    rintro _ _ ⟨_, ⟨rfl, rfl⟩, rfl⟩
    refine ops_as 155 _ (.bool true) rfl (congrArg Value.bool (decide_eq_true rfl)) ?_
    refine ops_y (wn rfl) rfl (y_pick (b := true) rfl rfl) ?_
    refine ops_y (wn rfl) rfl (y_move rfl) ?_
    refine ops_weak [(2, .bool false), (28, .int .i64 (((getL getD 16 b).2.1 : Nat) : Int)), (29, .int .i64 (((getL getD 16 b).2.2 : Nat) : Int)), (31, .int .i64 (((getL getD 16 b).2.1 : Nat) : Int)), (32, .int .i64 (((getL getD 16 b).2.2 : Nat) : Int)), (157, .bool true)] [0] [ro bv 1 (u8c b)] (vcons rfl (vcons rfl (vcons rfl (vcons rfl (vcons rfl (vcons rfl (vnil))))))) (by decide) rfl ?_
    refine ops_y (wg 6 true 157 rfl rfl rfl rfl) rfl (y_move rfl) ?_
    refine ops_y (wg 6 true 157 rfl rfl rfl rfl) rfl (y_move rfl) ?_
    refine ops_y (wg 6 true 157 rfl rfl rfl rfl) rfl (y_eql rfl rfl) ?_
    refine ops_as 160 _ (.bool true) rfl (congrArg Value.bool (decide_eq_true rfl)) ?_
    refine ops_y (wn rfl) rfl (y_pick (b := true) rfl rfl) ?_
    refine ops_y (wn rfl) rfl (y_move rfl) ?_
    refine ops_y (wg 11 true 162 rfl rfl rfl rfl) rfl (y_move rfl) ?_
    refine ops_y (wg 11 true 162 rfl rfl rfl rfl) rfl (y_move rfl) ?_
    refine ops_y (wg 11 true 162 rfl rfl rfl rfl) rfl (y_eql rfl rfl) ?_
    refine ops_as 165 _ (.bool true) rfl (congrArg Value.bool (decide_eq_true rfl)) ?_
    refine ops_y (wn rfl) rfl (y_pick (b := true) rfl rfl) ?_
    refine ops_y (wn rfl) rfl (y_assign rfl) ?_
    refine ops_nil ?_
    refine goes_code ?_
    refine run_ret ?_
    refine fin_slots [2] [.bool true] [] [] Try.results4 rfl (by decide) rfl ?_
    dsimp only [tup]
    exact ⟨rfl, rfl⟩

end Go.Proofs.Ytbhlfdklpihaiaa
