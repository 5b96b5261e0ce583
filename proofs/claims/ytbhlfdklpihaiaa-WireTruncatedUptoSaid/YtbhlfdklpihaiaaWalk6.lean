/-
  The walks of the laws, second part.
-/
import Derived.Test.YtbhlfdklpihaiaaWireTrip
import Derived.Test.YtbhlfdklpihaiaaWalk5
namespace Go.Proofs.Ytbhlfdklpihaiaa
open Go.Abs
set_option linter.unusedVariables false
set_option linter.unusedSimpArgs false
set_option maxRecDepth 20000

theorem law_int (n : Int) (h1 : -9223372036854775808 ≤ n) (h2 : n ≤ 9223372036854775807) (tv : Value) (t : List UInt8) :
    Meets Try.prog 6 [.int .i64 n, tv] [ro tv 1 (u8c t)] (fun v G => v = .bool true ∧ G = []) := by
  have hl := encI_len h1 h2
  refine fn_of_run Try.func6 rfl Try.ntmps6 rfl (fun w0 o0 => ?_)
  refine run_seq ?_
  refine run_region' ?_
  refine ops_y (wn rfl) rfl (y_assign rfl) ?_
  refine ops_nil ?_
  refine goes_code ?_
  refine run_seq ?_
  refine run_seq ?_
  refine run_region' ?_
  refine ops_y (wn rfl) rfl (y_move rfl) ?_
  refine ops_y (wn rfl) rfl ((y_len 0 rfl Try.runUnderlying28 rfl rfl reads_ro).to (congrArg (fun n : Nat => Value.int .i64 (n : Int)) (u8c_len _))) ?_
  refine ops_y (wn rfl) rfl (y_gtr rfl rfl) ?_
  refine ops_nil ?_
  refine goes_code ?_
  refine run_cond _ rfl (fun hc1 => ?_) (fun hc1 => ?_)
  · -- B1t
    replace hc1 := of_decide_eq_true hc1
    refine run_seq ?_
    refine run_region' ?_
    refine ops_t (wn rfl) rfl (t_call (vs := []) (cs := []) [] rfl Try.call12 rfl (sanity) shows_nil (.inl rfl)) ?_
    rintro _ _ ⟨_, ⟨rfl, rfl⟩, rfl⟩
    refine ops_y (wn rfl) rfl (y_assign rfl) ?_
    refine ops_nil ?_
    refine goes_code ?_
    refine run_ret ?_
    refine fin_slots [4] [.bool true] [] [] Try.results6 rfl (by decide) rfl ?_
    dsimp only [tup]
    exact ⟨rfl, rfl⟩
  · -- B1f
    replace hc1 := of_decide_eq_false hc1
    refine run_skip ?_
    refine goes_code ?_
    refine run_seq ?_
    refine run_region' ?_
    refine ops_y (wn rfl) rfl (y_move rfl) ?_
    refine ops_t (wn rfl) rfl (t_call (vs := [.int .i64 n]) (cs := []) [] rfl Try.call14 rfl (int_p n (by first | omega | decide) (by first | omega | decide)) shows_nil (.inl rfl)) ?_
    rintro v2 _ ⟨_, rfl, rfl⟩
    refine ops_y (wn rfl) rfl (y_assign rfl) ?_
    refine ops_nil ?_
    refine goes_code ?_
    refine run_seq ?_
    refine run_region' ?_
    refine ops_y (wn rfl) rfl (y_move rfl) ?_
    refine ops_y (wn rfl) rfl (y_move rfl) ?_
    refine ops_y (wn rfl) rfl ((y_len 1 rfl Try.runUnderlying28 rfl rfl reads_row).to (congrArg (fun n : Nat => Value.int .i64 (n : Int)) (u8c_len _))) ?_
    refine ops_y (wn rfl) rfl (y_move rfl) ?_
    refine ops_y (wn rfl) rfl ((y_len 1 rfl Try.runUnderlying28 rfl rfl reads_row).to (congrArg (fun n : Nat => Value.int .i64 (n : Int)) (u8c_len _))) ?_
    refine ops_turn (Go.Abs.freeze 1 rfl) ?_
    refine ops_t (wn rfl) rfl (t_slice3 (r := ((encI n).length)) 1 Try.runUnderlying28 Try.sizeOf5 rfl rfl rfl rfl (by rw [u8c_len]; omega)) ?_
    rintro v3 _ rfl
    refine ops_turn (retell 2 (g := roc v3 1 (u8c (encI n))) rfl (by simp [List.take_of_length_le, List.map_take, u8c])) ?_
    refine ops_y (wn rfl) rfl (y_move rfl) ?_
    refine ops_t (wn rfl) rfl (t_append_ro (es := 1) 2 rfl Try.runUnderlying28 rfl Try.runUnderlying28 (.inr ⟨_, rfl⟩) Try.typeInfo5 rfl (by decide) Try.zeroValue5 rfl rfl rfl rfl (src_reads 0 rfl reads_ro (u8c_ok _)) (by simp only [u8c_len, arrc_len, u8c_len, i64c_len, strc_len, List.length_append, List.length_cons, List.length_nil]; (show _ * 1 ≤ _); omega) (by simp only [u8c_len, arrc_len, u8c_len, i64c_len, strc_len, List.length_append, List.length_cons, List.length_nil]; unfold maxLen; omega)) ?_
    rintro v4 _ rfl
    refine ops_turn (retell 3 (g := ro v4 1 (u8c ((encI n) ++ t))) rfl (congrArg (ro _ _) (u8c_append _ _))) ?_
    refine ops_t (wn rfl) rfl (t_call (vs := [v4]) (cs := []) [⟨3, false⟩] rfl Try.call24 rfl (getInt_p v4 _ (by first | omega | (simp only [List.length_drop, List.length_take, List.length_append]; omega) | (simp; done))) (shows_cons 3 false rfl views_ro shows_nil) (.inl rfl)) ?_
    rintro _ _ ⟨_, ⟨rfl, rfl⟩, rfl⟩
    have hg5 := getI_any ((encI n) ++ t)
    refine ops_weak [(0, .int .i64 n), (4, .bool false), (5, v2), (24, .tuple #[.int .i64 ((getI ((encI n) ++ t)).1), .int .i64 (((getI ((encI n) ++ t)).2.1 : Nat) : Int), .int .i64 (((getI ((encI n) ++ t)).2.2 : Nat) : Int)])] [0, 1] [ro tv 1 (u8c t), ro v2 1 (u8c (encI n))] (vcons rfl (vcons rfl (vcons rfl (vcons rfl (vnil))))) (by decide) rfl ?_
    have hr := getI_enc h1 h2 t
    refine ops_y (wn rfl) rfl (y_move rfl) ?_
    refine ops_y (wn rfl) rfl (OpY.to (v' := .int .i64 n) (y_extract rfl rfl) (congrArg (fun n : Int => Value.int .i64 n) (by rw [hr]))) ?_
    refine ops_y (wn rfl) rfl (OpY.to (v' := .int .i64 (((encI n).length : Nat) : Int)) (y_extract rfl rfl) (congrArg (fun n : Int => Value.int .i64 n) (by rw [hr]))) ?_
    refine ops_y (wn rfl) rfl (OpY.to (v' := .int .i64 0) (y_extract rfl rfl) (congrArg (fun n : Int => Value.int .i64 n) (by rw [hr]; rfl))) ?_
    refine ops_y (wn rfl) rfl (y_assign rfl) ?_
    refine ops_y (wn rfl) rfl (y_assign rfl) ?_
    refine ops_y (wn rfl) rfl (y_assign rfl) ?_
    refine ops_nil ?_
    refine goes_code ?_
    refine run_seq ?_
    refine run_region' ?_
    refine ops_t (wn rfl) rfl (t_call (vs := []) (cs := []) [] rfl Try.call12 rfl (sanity) shows_nil (.inl rfl)) ?_
    rintro _ _ ⟨_, ⟨rfl, rfl⟩, rfl⟩
    refine ops_y (wn rfl) rfl (y_move rfl) ?_
    refine ops_y (wg 1 true 29 rfl rfl rfl rfl) rfl (y_move rfl) ?_
    refine ops_y (wg 1 true 29 rfl rfl rfl rfl) rfl (y_move rfl) ?_
    refine ops_y (wg 1 true 29 rfl rfl rfl rfl) rfl (y_eql rfl rfl) ?_
    refine ops_as 32 _ (.bool true) rfl (congrArg Value.bool (decide_eq_true rfl)) ?_
    refine ops_y (wn rfl) rfl (y_pick (b := true) rfl rfl) ?_
    refine ops_y (wn rfl) rfl (y_move rfl) ?_
    refine ops_y (wg 6 true 34 rfl rfl rfl rfl) rfl (y_move rfl) ?_
    refine ops_y (wg 6 true 34 rfl rfl rfl rfl) rfl (y_move rfl) ?_
    refine ops_weak [(4, .bool false), (7, .int .i64 (((encI n).length : Nat) : Int)), (8, .int .i64 0), (34, .bool true), (35, .int .i64 (((encI n).length : Nat) : Int)), (36, v2)] [0, 1] [ro tv 1 (u8c t), ro v2 1 (u8c (encI n))] (vcons rfl (vcons rfl (vcons rfl (vcons rfl (vcons rfl (vcons rfl (vnil))))))) (by decide) rfl ?_
    refine ops_y (wg 6 true 34 rfl rfl rfl rfl) rfl ((y_len 1 rfl Try.runUnderlying28 rfl rfl reads_ro).to (congrArg (fun n : Nat => Value.int .i64 (n : Int)) (u8c_len _))) ?_
    refine ops_y (wg 6 true 34 rfl rfl rfl rfl) rfl (y_eql rfl rfl) ?_
    refine ops_as 38 _ (.bool true) rfl (congrArg Value.bool (decide_eq_true rfl)) ?_
    refine ops_y (wn rfl) rfl (y_pick (b := true) rfl rfl) ?_
    refine ops_y (wn rfl) rfl (y_move rfl) ?_
    refine ops_y (wg 12 true 40 rfl rfl rfl rfl) rfl (y_move rfl) ?_
    refine ops_y (wg 12 true 40 rfl rfl rfl rfl) rfl (OpY.to (v' := .bool true) (y_eql rfl rfl) rfl) ?_
    refine ops_y (wn rfl) rfl (y_pick (b := true) rfl rfl) ?_
    refine ops_y (wn rfl) rfl (y_move rfl) ?_
    refine ops_y (wg 16 true 44 rfl rfl rfl rfl) rfl (y_move rfl) ?_
    refine ops_y (wg 16 true 44 rfl rfl rfl rfl) rfl (OpY.to (v' := .bool true) (y_geq rfl rfl) (congrArg Value.bool (decide_eq_true (by omega)))) ?_
    refine ops_y (wn rfl) rfl (y_pick (b := true) rfl rfl) ?_
    refine ops_y (wn rfl) rfl (y_move rfl) ?_
    refine ops_y (wg 20 true 48 rfl rfl rfl rfl) rfl (y_move rfl) ?_
    refine ops_y (wg 20 true 48 rfl rfl rfl rfl) rfl (OpY.to (v' := .bool true) (y_leq rfl rfl) (congrArg Value.bool (decide_eq_true (by omega)))) ?_
    refine ops_y (wn rfl) rfl (y_pick (b := true) rfl rfl) ?_
    refine ops_y (wn rfl) rfl (y_assign rfl) ?_
    refine ops_nil ?_
    refine goes_code ?_
    refine run_ret ?_
    refine fin_slots [4] [.bool true] [] [] Try.results6 rfl (by decide) rfl ?_
    dsimp only [tup]
    exact ⟨rfl, rfl⟩

theorem law_concat (s : List UInt8) (hs : s.length ≤ 140737488355328) (lv : Value) (l : List Int) (hln : l.length ≤ 140737488355328) (hn : ∀ n ∈ l, -9223372036854775808 ≤ n ∧ n ≤ 9223372036854775807) :
    Meets Try.prog 10 [.string (bs s), lv] [ro lv 1 (i64c l)] (fun v G => v = .bool true ∧ G = []) := by
  refine fn_of_run Try.func10 rfl Try.ntmps10 rfl (fun w0 o0 => ?_)
  refine run_seq ?_
  refine run_region' ?_
  refine ops_y (wn rfl) rfl (y_assign rfl) ?_
  refine ops_nil ?_
  refine goes_code ?_
  refine run_seq ?_
  refine run_seq ?_
  refine run_region' ?_
  refine ops_y (wn rfl) rfl (y_move rfl) ?_
  refine ops_y (wn rfl) rfl (y_len_str rfl Try.runUnderlying9 rfl) ?_
  refine ops_y (wn rfl) rfl (y_move rfl) ?_
  refine ops_y (wn rfl) rfl ((y_len 0 rfl Try.runUnderlying22 rfl rfl reads_ro).to (congrArg (fun n : Nat => Value.int .i64 (n : Int)) (i64c_len _))) ?_
  refine ops_y (wn rfl) rfl ((y_add rfl rfl).to (v64n (a := s.length) (b := l.length) (by omega))) ?_
  refine ops_y (wn rfl) rfl (y_gtr rfl rfl) ?_
  refine ops_nil ?_
  refine goes_code ?_
  refine run_cond _ rfl (fun hc1 => ?_) (fun hc1 => ?_)
  · -- B1t
    replace hc1 := of_decide_eq_true hc1
    refine run_seq ?_
    refine run_region' ?_
    refine ops_t (wn rfl) rfl (t_call (vs := []) (cs := []) [] rfl Try.call12 rfl (sanity) shows_nil (.inl rfl)) ?_
    rintro _ _ ⟨_, ⟨rfl, rfl⟩, rfl⟩
    refine ops_y (wn rfl) rfl (y_assign rfl) ?_
    refine ops_nil ?_
    refine goes_code ?_
    refine run_ret ?_
    refine fin_slots [4] [.bool true] [] [] Try.results10 rfl (by decide) rfl ?_
    dsimp only [tup]
    exact ⟨rfl, rfl⟩
  · -- B1f
    replace hc1 := of_decide_eq_false hc1
    refine run_skip ?_
    refine goes_code ?_
    refine run_seq ?_
    refine run_region' ?_
    have hS := (encI_len (n := (s.length : Int)) (by omega) (by omega)).2
    have hSl : (encS s).length = (encI s.length).length + s.length := List.length_append
    have hL := encLI_len l (by omega) hn
    have hr := getS_enc (s := s) (by omega) (encL encI l)
    have hr2 : getL getI 1 ((encS s ++ encL encI l).drop (encS s).length) = (l, (encL encI l).length, 0) := by rw [List.drop_left]; have := getLI_enc l [] (by omega) hn; rwa [List.append_nil] at this
    refine ops_y (wn rfl) rfl (y_move rfl) ?_
    refine ops_t (wn rfl) rfl (t_call (vs := [.string (bs s)]) (cs := []) [] rfl Try.call16 rfl (bytes_p s (by first | omega | (simp only [List.length_drop, List.length_take, List.length_append]; omega) | (simp; done))) shows_nil (.inl rfl)) ?_
    rintro v2 _ ⟨_, rfl, rfl⟩
    refine ops_y (wn rfl) rfl (y_move rfl) ?_
    refine ops_t (wn rfl) rfl (t_call (vs := [lv]) (cs := []) [⟨0, false⟩] rfl Try.call18 rfl (ints_p lv l (by first | omega | (simp; done)) hn (by omega)) (shows_cons 0 false rfl views_ro shows_nil) (.inl rfl)) ?_
    rintro v3 _ ⟨_, rfl, rfl⟩
    refine ops_t (wn rfl) rfl (t_append (es := 1) 1 rfl Try.runUnderlying28 rfl Try.runUnderlying28 (.inr ⟨_, rfl⟩) Try.typeInfo5 rfl (by decide) Try.zeroValue5 rfl rfl rfl rfl (src_reads 2 rfl reads_row (u8c_ok _)) (by simp only [u8c_len, arrc_len, u8c_len, i64c_len, strc_len, List.length_append, List.length_cons, List.length_nil]; (show _ * 1 ≤ _); omega) (by simp only [u8c_len, arrc_len, u8c_len, i64c_len, strc_len, List.length_append, List.length_cons, List.length_nil]; unfold maxLen; omega)) ?_
    rintro v4 _ rfl
    refine ops_turn (retell 1 (g := row v4 1 (u8c ((encS s) ++ (encL encI l)))) rfl (congrArg (row _ _) (u8c_append _ _))) ?_
    refine ops_y (wn rfl) rfl (y_assign rfl) ?_
    refine ops_nil ?_
    refine goes_code ?_
    refine run_seq ?_
    refine run_weak [(0, .string (bs s)), (1, lv), (4, .bool false), (5, v4)] [0, 1] [ro lv 1 (i64c l), row v4 1 (u8c ((encS s) ++ (encL encI l)))] (vcons rfl (vcons rfl (vcons rfl (vcons rfl (vnil))))) (by decide) rfl ?_
    refine run_region' ?_
    refine ops_y (wn rfl) rfl (y_move rfl) ?_
    refine ops_t (wn rfl) rfl (t_call (vs := [v4]) (cs := []) [⟨1, true⟩] rfl Try.call26 rfl (getS_p v4 _ (by first | omega | (simp only [List.length_drop, List.length_take, List.length_append]; omega) | (simp; done))) (shows_cons 1 true rfl views_row shows_nil) (.inr (by rintro _ _ ⟨rfl, rfl⟩ g hg; first | (cases hg; done) | (simp only [List.mem_cons, List.not_mem_nil, or_false] at hg; first | (subst hg; first | exact strict_row | exact strict_box) | (rcases hg with rfl | rfl <;> first | exact strict_row | exact strict_box))))) ?_
    rintro _ _ ⟨_, ⟨rfl, rfl⟩, rfl⟩
    have hg5 := getS_any ((encS s) ++ (encL encI l))
    refine ops_y (wn rfl) rfl (y_move rfl) ?_
    refine ops_y (wn rfl) rfl (OpY.to (v' := .string (bs s)) (y_extract rfl rfl) (congrArg (fun l => Value.string (bs l)) (by rw [hr]))) ?_
    refine ops_y (wn rfl) rfl (OpY.to (v' := .int .i64 (((encS s).length : Nat) : Int)) (y_extract rfl rfl) (congrArg (fun n : Int => Value.int .i64 n) (by rw [hr]))) ?_
    refine ops_y (wn rfl) rfl (OpY.to (v' := .int .i64 0) (y_extract rfl rfl) (congrArg (fun n : Int => Value.int .i64 n) (by rw [hr]; rfl))) ?_
    refine ops_y (wn rfl) rfl (y_assign rfl) ?_
    refine ops_y (wn rfl) rfl (y_assign rfl) ?_
    refine ops_y (wn rfl) rfl (y_assign rfl) ?_
    refine ops_nil ?_
    refine goes_code ?_
    refine run_seq ?_
    refine run_seq ?_
    refine run_region' ?_
    refine ops_y (wn rfl) rfl (y_move rfl) ?_
    refine ops_y (wn rfl) rfl (OpY.to (v' := .bool false) (y_neq rfl rfl) rfl) ?_
    refine ops_y (wn rfl) rfl (y_move rfl) ?_
    refine ops_y (wg 2 false 32 rfl rfl rfl rfl) rfl (y_move rfl) ?_
    refine ops_y (wg 2 false 32 rfl rfl rfl rfl) rfl (OpY.to (v' := .bool false) (y_lss rfl rfl) (congrArg Value.bool (decide_eq_false (by omega)))) ?_
    refine ops_y (wn rfl) rfl (y_pick (b := false) rfl rfl) ?_
    refine ops_y (wn rfl) rfl (y_move rfl) ?_
    refine ops_weak [(0, .string (bs s)), (1, lv), (4, .bool false), (5, v4), (6, .string (bs s)), (7, .int .i64 (((encS s).length : Nat) : Int)), (36, .bool false)] [0, 1] [ro lv 1 (i64c l), row v4 1 (u8c ((encS s) ++ (encL encI l)))] (vcons rfl (vcons rfl (vcons rfl (vcons rfl (vcons rfl (vcons rfl (vcons rfl (vnil)))))))) (by decide) rfl ?_
    refine ops_y (wg 6 false 36 rfl rfl rfl rfl) rfl (y_move rfl) ?_
    refine ops_y (wg 6 false 36 rfl rfl rfl rfl) rfl (y_move rfl) ?_
    refine ops_y (wg 6 false 36 rfl rfl rfl rfl) rfl ((y_len 1 rfl Try.runUnderlying28 rfl rfl reads_row).to (congrArg (fun n : Nat => Value.int .i64 (n : Int)) (u8c_len _))) ?_
    have hap : (encS s ++ encL encI l).length = (encS s).length + (encL encI l).length := List.length_append
    refine ops_y (wg 6 false 36 rfl rfl rfl rfl) rfl (OpY.to (v' := .bool false) (y_gtr rfl rfl) (congrArg Value.bool (decide_eq_false (by omega)))) ?_
    refine ops_y (wn rfl) rfl (y_pick (b := false) rfl rfl) ?_
    refine ops_nil ?_
    refine goes_code ?_
    refine run_cond_f rfl ?_
    refine run_skip ?_
    refine goes_code ?_
    refine run_seq ?_
    refine run_region' ?_
    refine ops_y (wn rfl) rfl (y_move rfl) ?_
    refine ops_y (wn rfl) rfl (y_move rfl) ?_
    refine ops_turn (Go.Abs.freeze 1 rfl) ?_
    refine ops_t (wn rfl) rfl (t_slice (l := ((encS s).length)) (r := (((encS s) ++ (encL encI l)).length)) 1 Try.runUnderlying28 Try.sizeOf5 rfl rfl (bd1 rfl) (.inl ⟨rfl, by rw [u8c_len]⟩) (by omega) (by rw [u8c_len]; omega)) ?_
    rintro v6 _ rfl
    refine ops_turn (retell 2 (g := ro v6 1 (u8c (((encS s) ++ (encL encI l)).drop ((encS s).length)))) rfl (by simp [List.map_take, List.map_drop, List.take_of_length_le, u8c])) ?_
    refine ops_t (wn rfl) rfl (t_call (vs := [v6]) (cs := []) [⟨2, false⟩] rfl Try.call28 rfl (getInts_p v6 _ (by first | omega | (simp only [List.length_drop, List.length_take, List.length_append]; omega) | (simp; done))) (shows_cons 2 false rfl views_ro shows_nil) (.inl rfl)) ?_
    rintro _ _ ⟨_, ⟨v8, rfl, rfl⟩, rfl⟩
    have hd7 := getLI_any (((encS s) ++ (encL encI l)).drop ((encS s).length))
    refine ops_y (wn rfl) rfl (y_move rfl) ?_
    refine ops_y (wn rfl) rfl (y_extract rfl rfl) ?_
    refine ops_turn (retell 3 (g := row v8 1 (i64c l)) rfl (congrArg (fun l => row v8 1 (i64c l)) (by rw [hr2]))) ?_
    refine ops_y (wn rfl) rfl (OpY.to (v' := .int .i64 (((encL encI l).length : Nat) : Int)) (y_extract rfl rfl) (congrArg (fun n : Int => Value.int .i64 n) (by rw [hr2]))) ?_
    refine ops_y (wn rfl) rfl (OpY.to (v' := .int .i64 0) (y_extract rfl rfl) (congrArg (fun n : Int => Value.int .i64 n) (by rw [hr2]; rfl))) ?_
    refine ops_y (wn rfl) rfl (y_assign rfl) ?_
    refine ops_y (wn rfl) rfl (y_assign rfl) ?_
    refine ops_y (wn rfl) rfl (y_assign rfl) ?_
    refine ops_nil ?_
    refine goes_code ?_
    refine run_seq ?_
    refine run_weak [(0, .string (bs s)), (1, lv), (4, .bool false), (5, v4), (6, .string (bs s)), (7, .int .i64 (((encS s).length : Nat) : Int)), (9, v8), (10, .int .i64 (((encL encI l).length : Nat) : Int)), (11, .int .i64 0)] [0, 1, 3] [ro lv 1 (i64c l), ro v4 1 (u8c ((encS s) ++ (encL encI l))), row v8 1 (i64c l)] (vcons rfl (vcons rfl (vcons rfl (vcons rfl (vcons rfl (vcons rfl (vcons rfl (vcons rfl (vcons rfl (vnil)))))))))) (by decide) rfl ?_
    refine run_region' ?_
    refine ops_t (wn rfl) rfl (t_call (vs := []) (cs := []) [] rfl Try.call12 rfl (sanity) shows_nil (.inl rfl)) ?_
    rintro _ _ ⟨_, ⟨rfl, rfl⟩, rfl⟩
    refine ops_y (wn rfl) rfl (y_move rfl) ?_
    refine ops_y (wg 1 true 51 rfl rfl rfl rfl) rfl (y_move rfl) ?_
    refine ops_y (wg 1 true 51 rfl rfl rfl rfl) rfl (y_move rfl) ?_
    refine ops_y (wg 1 true 51 rfl rfl rfl rfl) rfl (y_seql rfl rfl) ?_
    refine ops_as 54 _ (.bool true) rfl (congrArg Value.bool (decide_eq_true rfl)) ?_
    refine ops_y (wn rfl) rfl (y_pick (b := true) rfl rfl) ?_
    refine ops_y (wn rfl) rfl (y_move rfl) ?_
    refine ops_y (wg 6 true 56 rfl rfl rfl rfl) rfl (y_move rfl) ?_
    refine ops_y (wg 6 true 56 rfl rfl rfl rfl) rfl (y_move rfl) ?_
    refine ops_t (wg 6 true 56 rfl rfl rfl rfl) rfl (t_call (vs := [v8, lv]) (cs := []) [⟨2, true⟩, ⟨0, false⟩] rfl Try.call30 rfl (sameInts v8 lv _ _ (by first | omega | (simp only [List.length_drop, List.length_take, List.length_append]; omega) | (simp; done))) (shows_cons 2 true rfl views_row (shows_cons 0 false rfl views_ro shows_nil)) (.inr (by rintro _ _ ⟨rfl, rfl⟩ g hg; first | (cases hg; done) | (simp only [List.mem_cons, List.not_mem_nil, or_false] at hg; first | (subst hg; first | exact strict_row | exact strict_box) | (rcases hg with rfl | rfl <;> first | exact strict_row | exact strict_box))))) ?_
    rintro _ _ ⟨_, ⟨rfl, rfl⟩, rfl⟩
    refine ops_as 59 _ (.bool true) rfl (congrArg Value.bool (decide_eq_true rfl)) ?_
    refine ops_y (wn rfl) rfl (y_pick (b := true) rfl rfl) ?_
    refine ops_y (wn rfl) rfl (y_move rfl) ?_
    refine ops_y (wg 11 true 61 rfl rfl rfl rfl) rfl (y_move rfl) ?_
    refine ops_y (wg 11 true 61 rfl rfl rfl rfl) rfl (OpY.to (v' := .bool true) (y_eql rfl rfl) rfl) ?_
    refine ops_y (wn rfl) rfl (y_pick (b := true) rfl rfl) ?_
    refine ops_y (wn rfl) rfl (y_move rfl) ?_
    refine ops_weak [(4, .bool false), (5, v4), (7, .int .i64 (((encS s).length : Nat) : Int)), (10, .int .i64 (((encL encI l).length : Nat) : Int)), (65, .bool true)] [0, 1] [ro lv 1 (i64c l), ro v4 1 (u8c ((encS s) ++ (encL encI l)))] (vcons rfl (vcons rfl (vcons rfl (vcons rfl (vcons rfl (vnil)))))) (by decide) rfl ?_
    refine ops_y (wg 15 true 65 rfl rfl rfl rfl) rfl (y_move rfl) ?_
    refine ops_y (wg 15 true 65 rfl rfl rfl rfl) rfl (y_move rfl) ?_
    refine ops_y (wg 15 true 65 rfl rfl rfl rfl) rfl ((y_add rfl rfl).to (v64n (a := ((encS s).length)) (b := ((encL encI l).length)) (by omega))) ?_
    refine ops_y (wg 15 true 65 rfl rfl rfl rfl) rfl (y_move rfl) ?_
    refine ops_y (wg 15 true 65 rfl rfl rfl rfl) rfl ((y_len 1 rfl Try.runUnderlying28 rfl rfl reads_ro).to (congrArg (fun n : Nat => Value.int .i64 (n : Int)) (u8c_len _))) ?_
    refine ops_y (wg 15 true 65 rfl rfl rfl rfl) rfl (OpY.to (v' := .bool true) (y_eql rfl rfl) (congrArg Value.bool (decide_eq_true (by omega)))) ?_
    refine ops_y (wn rfl) rfl (y_pick (b := true) rfl rfl) ?_
    refine ops_y (wn rfl) rfl (y_assign rfl) ?_
    refine ops_nil ?_
    refine goes_code ?_
    refine run_ret ?_
    refine fin_slots [4] [.bool true] [] [] Try.results10 rfl (by decide) rfl ?_
    dsimp only [tup]
    exact ⟨rfl, rfl⟩

end Go.Proofs.Ytbhlfdklpihaiaa
