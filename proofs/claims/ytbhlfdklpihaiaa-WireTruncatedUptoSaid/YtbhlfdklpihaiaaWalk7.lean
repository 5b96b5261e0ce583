/-
  The walks of the laws, third part.
-/
import Derived.Test.YtbhlfdklpihaiaaWireCanon
import Derived.Test.YtbhlfdklpihaiaaWalk6
namespace Go.Proofs.Ytbhlfdklpihaiaa
open Go.Abs
set_option linter.unusedVariables false
set_option linter.unusedSimpArgs false
set_option maxRecDepth 20000

theorem consumed_l (bv cv : Value) (b c : List UInt8) (u e : Nat) (hb : b.length ≤ 4294967296) (hu : u ≤ 4294967296) (h : e = 0 → u ≤ b.length ∧ c = b.take u) :
    Meets Try.prog 37 [bv, cv, .int .i64 ((u : Nat) : Int), .int .i64 ((e : Nat) : Int)] [ro bv 1 (u8c b), ro cv 1 (u8c c)] (fun v G => v = .bool true ∧ G = []) := by
  refine fn_of_run Try.func37 rfl Try.ntmps37 rfl (fun w0 o0 => ?_)
  refine run_seq ?_
  refine run_region' ?_
  refine ops_y (wn rfl) rfl (y_assign rfl) ?_
  refine ops_nil ?_
  refine goes_code ?_
  refine run_seq ?_
  refine run_region' ?_
  refine ops_y (wn rfl) rfl (y_move rfl) ?_
  refine ops_y (wn rfl) rfl (y_neq rfl rfl) ?_
  refine ops_y (wn rfl) rfl (y_move rfl) ?_
  refine ops_split 11 _ rfl (fun hg1 => ?_) (fun hg1 => ?_)
  · -- B1t
    replace hg1 := of_decide_eq_true hg1
    refine ops_no 2 false 11 rfl rfl rfl rfl rfl ?_
    refine ops_no 2 false 11 rfl rfl rfl rfl rfl ?_
    refine ops_no 2 false 11 rfl rfl rfl rfl rfl ?_
    refine ops_un 5 true 14 rfl rfl rfl rfl rfl ?_
    refine ops_un 5 true 14 rfl rfl rfl rfl rfl ?_
    refine ops_un 5 true 14 rfl rfl rfl rfl rfl ?_
    refine ops_un 5 true 14 rfl rfl rfl rfl rfl ?_
    refine ops_no 2 false 11 rfl rfl rfl rfl rfl ?_
    refine ops_no 2 false 11 rfl rfl rfl rfl rfl ?_
    refine ops_un 11 true 20 rfl rfl rfl rfl rfl ?_
    refine ops_un 11 true 20 rfl rfl rfl rfl rfl ?_
    refine ops_weak [(0, bv), (2, .int .i64 ((u : Nat) : Int)), (8, .bool false), (11, .bool true), (20, undef), (21, undef), (22, undef)] [0, 1] [ro bv 1 (u8c b), ro cv 1 (u8c c)] (vcons rfl (vcons rfl (vcons rfl (vcons rfl (vcons rfl (vcons rfl (vcons rfl (vnil)))))))) (by decide) rfl ?_
    refine ops_un 11 true 20 rfl rfl rfl rfl rfl ?_
    refine ops_un 11 true 20 rfl rfl rfl rfl rfl ?_
    refine ops_un 11 true 20 rfl rfl rfl rfl rfl ?_
    refine ops_un 11 true 20 rfl rfl rfl rfl rfl ?_
    refine ops_un 11 true 20 rfl rfl rfl rfl rfl ?_
    refine ops_un 11 true 20 rfl rfl rfl rfl rfl ?_
    refine ops_un 11 true 20 rfl rfl rfl rfl rfl ?_
    refine ops_no 2 false 11 rfl rfl rfl rfl rfl ?_
    refine ops_y (wn rfl) rfl (y_pick (b := true) rfl rfl) ?_
    refine ops_y (wn rfl) rfl (y_assign rfl) ?_
    refine ops_nil ?_
    refine goes_code ?_
    refine run_ret ?_
    refine fin_slots [8] [.bool true] [] [] Try.results37 rfl (by decide) rfl ?_
    dsimp only [tup]
    exact ⟨rfl, rfl⟩
  · -- B1f
    replace hg1 := of_decide_eq_false hg1
    obtain ⟨hu2, hc⟩ := h (by omega)
    refine ops_y (wg 2 false 11 rfl rfl rfl rfl) rfl (y_move rfl) ?_
    refine ops_y (wg 2 false 11 rfl rfl rfl rfl) rfl (OpY.to (v' := .bool true) (y_geq rfl rfl) (congrArg Value.bool (decide_eq_true (by omega)))) ?_
    refine ops_y (wg 2 false 11 rfl rfl rfl rfl) rfl (y_move rfl) ?_
    refine ops_y (wg 5 true 14 rfl rfl rfl rfl) rfl (y_move rfl) ?_
    refine ops_y (wg 5 true 14 rfl rfl rfl rfl) rfl (y_move rfl) ?_
    refine ops_y (wg 5 true 14 rfl rfl rfl rfl) rfl ((y_len 0 rfl Try.runUnderlying28 rfl rfl reads_ro).to (congrArg (fun n : Nat => Value.int .i64 (n : Int)) (u8c_len _))) ?_
    refine ops_y (wg 5 true 14 rfl rfl rfl rfl) rfl (OpY.to (v' := .bool true) (y_leq rfl rfl) (congrArg Value.bool (decide_eq_true (by omega)))) ?_
    refine ops_y (wg 2 false 11 rfl rfl rfl rfl) rfl (y_pick (b := true) rfl rfl) ?_
    refine ops_y (wg 2 false 11 rfl rfl rfl rfl) rfl (y_move rfl) ?_
    refine ops_y (wg 11 true 20 rfl rfl rfl rfl) rfl (y_move rfl) ?_
    refine ops_y (wg 11 true 20 rfl rfl rfl rfl) rfl (y_move rfl) ?_
    refine ops_weak [(0, bv), (2, .int .i64 ((u : Nat) : Int)), (8, .bool false), (11, .bool false), (20, .bool true), (21, cv), (22, bv)] [0, 1] [ro bv 1 (u8c b), ro cv 1 (u8c c)] (vcons rfl (vcons rfl (vcons rfl (vcons rfl (vcons rfl (vcons rfl (vcons rfl (vnil)))))))) (by decide) rfl ?_
    refine ops_y (wg 11 true 20 rfl rfl rfl rfl) rfl (y_move rfl) ?_
    refine ops_y (wg 11 true 20 rfl rfl rfl rfl) rfl (y_move rfl) ?_
    refine ops_y (wg 11 true 20 rfl rfl rfl rfl) rfl ((y_len 0 rfl Try.runUnderlying28 rfl rfl reads_ro).to (congrArg (fun n : Nat => Value.int .i64 (n : Int)) (u8c_len _))) ?_
    refine ops_y (wg 11 true 20 rfl rfl rfl rfl) rfl (OpY.to (v' := .int .i64 ((u : Nat) : Int)) ((y_min rfl rfl).to (v_min _ _ _)) (congrArg (fun n : Nat => Value.int .i64 (n : Int)) (by omega))) ?_
    refine ops_y (wg 11 true 20 rfl rfl rfl rfl) rfl (OpY.to (v' := .int .i64 ((u : Nat) : Int)) ((y_max rfl rfl).to (v_max _ _ _)) (congrArg (fun n : Nat => Value.int .i64 (n : Int)) (Nat.zero_max u))) ?_
    refine ops_t (wg 11 true 20 rfl rfl rfl rfl) rfl (t_slice (l := 0) (r := u) 0 Try.runUnderlying28 Try.sizeOf5 rfl rfl bd0 (bd1 rfl) (by omega) (by rw [u8c_len]; omega)) ?_
    rintro v2 _ rfl
    refine ops_turn (retell 2 (g := ro v2 1 (u8c (b.take u))) rfl (by simp [List.map_take, List.map_drop, u8c])) ?_
    refine ops_t (wg 11 true 20 rfl rfl rfl rfl) rfl (t_call (vs := [cv, v2]) (cs := []) [⟨1, false⟩, ⟨2, false⟩] rfl Try.call13 rfl (same_r cv v2 _ _) (shows_cons 1 false rfl views_ro (shows_cons 2 false rfl views_ro shows_nil)) (.inl rfl)) ?_
    rintro _ _ ⟨_, ⟨rfl, rfl⟩, rfl⟩
    refine ops_as 29 _ (.bool true) rfl (congrArg Value.bool (decide_eq_true hc)) ?_
    refine ops_y (wg 2 false 11 rfl rfl rfl rfl) rfl (y_pick (b := true) rfl rfl) ?_
    refine ops_y (wn rfl) rfl (y_pick (b := false) rfl rfl) ?_
    refine ops_y (wn rfl) rfl (y_assign rfl) ?_
    refine ops_nil ?_
    refine goes_code ?_
    refine run_ret ?_
    refine fin_slots [8] [.bool true] [] [] Try.results37 rfl (by decide) rfl ?_
    dsimp only [tup]
    exact ⟨rfl, rfl⟩

theorem law_canonical (bv : Value) (b : List UInt8) :
    Meets Try.prog 7 [bv] [ro bv 1 (u8c b)] (fun v G => v = .bool true ∧ G = []) := by
  refine fn_of_run Try.func7 rfl Try.ntmps7 rfl (fun w0 o0 => ?_)
  refine run_seq ?_
  refine run_region' ?_
  refine ops_y (wn rfl) rfl (y_assign rfl) ?_
  refine ops_nil ?_
  refine goes_code ?_
  refine run_seq ?_
  refine run_seq ?_
  refine run_region' ?_
  refine ops_y (wn rfl) rfl (y_move rfl) ?_
  refine ops_y (wn rfl) rfl ((y_len 0 rfl Try.runUnderlying28 rfl rfl reads_ro).to (congrArg (fun n : Nat => Value.int .i64 (n : Int)) (u8c_len _))) ?_
  refine ops_y (wn rfl) rfl (y_gtr rfl rfl) ?_
  refine ops_nil ?_
  refine goes_code ?_
  refine run_cond _ rfl (fun hc1 => ?_) (fun hc1 => ?_)
  · -- B1t
    replace hc1 := of_decide_eq_true hc1
    refine run_seq ?_
    refine run_region' ?_
    refine ops_t (wn rfl) rfl (t_call (vs := []) (cs := []) [] rfl Try.call12 rfl (sanity) shows_nil (.inl rfl)) ?_
    rintro _ _ ⟨_, ⟨rfl, rfl⟩, rfl⟩
    refine ops_y (wn rfl) rfl (y_assign rfl) ?_
    refine ops_nil ?_
    refine goes_code ?_
    refine run_ret ?_
    refine fin_slots [2] [.bool true] [] [] Try.results7 rfl (by decide) rfl ?_
    dsimp only [tup]
    exact ⟨rfl, rfl⟩
  · -- B1f
    replace hc1 := of_decide_eq_false hc1
    refine run_skip ?_
    refine goes_code ?_
    refine run_seq ?_
    refine run_region' ?_
    refine ops_y (wn rfl) rfl (y_move rfl) ?_
    refine ops_t (wn rfl) rfl (t_call (vs := [bv]) (cs := []) [⟨0, false⟩] rfl Try.call24 rfl (getInt_p bv _ (by first | omega | (simp only [List.length_drop, List.length_take, List.length_append]; omega) | (simp; done))) (shows_cons 0 false rfl views_ro shows_nil) (.inl rfl)) ?_
    rintro _ _ ⟨_, ⟨rfl, rfl⟩, rfl⟩
    have hg2 := getI_any b
    refine ops_y (wn rfl) rfl (y_move rfl) ?_
    refine ops_y (wn rfl) rfl (y_extract rfl rfl) ?_
    refine ops_y (wn rfl) rfl (y_extract rfl rfl) ?_
    refine ops_y (wn rfl) rfl (y_extract rfl rfl) ?_
    refine ops_y (wn rfl) rfl (y_assign rfl) ?_
    refine ops_y (wn rfl) rfl (y_assign rfl) ?_
    refine ops_y (wn rfl) rfl (y_assign rfl) ?_
    refine ops_nil ?_
    refine goes_code ?_
    refine run_seq ?_
    refine run_weak [(0, bv), (2, .bool false), (3, .int .i64 ((getI b).1)), (4, .int .i64 (((getI b).2.1 : Nat) : Int)), (5, .int .i64 (((getI b).2.2 : Nat) : Int))] [0] [ro bv 1 (u8c b)] (vcons rfl (vcons rfl (vcons rfl (vcons rfl (vcons rfl (vnil)))))) (by decide) rfl ?_
    refine run_region' ?_
    refine ops_y (wn rfl) rfl (y_move rfl) ?_
    refine ops_t (wn rfl) rfl (t_call (vs := [bv]) (cs := []) [⟨0, false⟩] rfl Try.call26 rfl (getS_p bv _ (by first | omega | (simp only [List.length_drop, List.length_take, List.length_append]; omega) | (simp; done))) (shows_cons 0 false rfl views_ro shows_nil) (.inl rfl)) ?_
    rintro _ _ ⟨_, ⟨rfl, rfl⟩, rfl⟩
    have hg3 := getS_any b
    refine ops_y (wn rfl) rfl (y_move rfl) ?_
    refine ops_y (wn rfl) rfl (y_extract rfl rfl) ?_
    refine ops_y (wn rfl) rfl (y_extract rfl rfl) ?_
    refine ops_y (wn rfl) rfl (y_extract rfl rfl) ?_
    refine ops_y (wn rfl) rfl (y_assign rfl) ?_
    refine ops_y (wn rfl) rfl (y_assign rfl) ?_
    refine ops_y (wn rfl) rfl (y_assign rfl) ?_
    refine ops_nil ?_
    refine goes_code ?_
    refine run_seq ?_
    refine run_region' ?_
    refine ops_y (wn rfl) rfl (y_move rfl) ?_
    refine ops_t (wn rfl) rfl (t_call (vs := [bv]) (cs := []) [⟨0, false⟩] rfl Try.call28 rfl (getInts_p bv _ (by first | omega | (simp only [List.length_drop, List.length_take, List.length_append]; omega) | (simp; done))) (shows_cons 0 false rfl views_ro shows_nil) (.inl rfl)) ?_
    rintro _ _ ⟨_, ⟨v5, rfl, rfl⟩, rfl⟩
    have hd4 := getLI_any b
    refine ops_y (wn rfl) rfl (y_move rfl) ?_
    refine ops_y (wn rfl) rfl (y_extract rfl rfl) ?_
    refine ops_y (wn rfl) rfl (y_extract rfl rfl) ?_
    refine ops_y (wn rfl) rfl (y_extract rfl rfl) ?_
    refine ops_y (wn rfl) rfl (y_assign rfl) ?_
    refine ops_weak [(0, bv), (2, .bool false), (3, .int .i64 ((getI b).1)), (4, .int .i64 (((getI b).2.1 : Nat) : Int)), (5, .int .i64 (((getI b).2.2 : Nat) : Int)), (6, .string (bs ((getS b).1))), (7, .int .i64 (((getS b).2.1 : Nat) : Int)), (8, .int .i64 (((getS b).2.2 : Nat) : Int)), (38, .int .i64 (((getL getI 1 b).2.1 : Nat) : Int)), (39, .int .i64 (((getL getI 1 b).2.2 : Nat) : Int)), (9, v5)] [0, 1] [ro bv 1 (u8c b), row v5 1 (i64c ((getL getI 1 b).1))] (vcons rfl (vcons rfl (vcons rfl (vcons rfl (vcons rfl (vcons rfl (vcons rfl (vcons rfl (vcons rfl (vcons rfl (vcons rfl (vnil)))))))))))) (by decide) rfl ?_
    refine ops_y (wn rfl) rfl (y_assign rfl) ?_
    refine ops_y (wn rfl) rfl (y_assign rfl) ?_
    refine ops_nil ?_
    refine goes_code ?_
    refine run_seq ?_
    refine run_region' ?_
    refine ops_y (wn rfl) rfl (y_move rfl) ?_
    refine ops_t (wn rfl) rfl (t_call (vs := [bv]) (cs := []) [⟨0, false⟩] rfl Try.call31 rfl (getStrs_p bv _ (by first | omega | (simp only [List.length_drop, List.length_take, List.length_append]; omega) | (simp; done))) (shows_cons 0 false rfl views_ro shows_nil) (.inl rfl)) ?_
    rintro _ _ ⟨_, ⟨v7, rfl, rfl⟩, rfl⟩
    have hd6 := getLS_any b
    refine ops_y (wn rfl) rfl (y_move rfl) ?_
    refine ops_y (wn rfl) rfl (y_extract rfl rfl) ?_
    refine ops_y (wn rfl) rfl (y_extract rfl rfl) ?_
    refine ops_y (wn rfl) rfl (y_extract rfl rfl) ?_
    refine ops_y (wn rfl) rfl (y_assign rfl) ?_
    refine ops_y (wn rfl) rfl (y_assign rfl) ?_
    refine ops_y (wn rfl) rfl (y_assign rfl) ?_
    refine ops_nil ?_
    refine goes_code ?_
    refine run_seq ?_
    refine run_weak [(0, bv), (2, .bool false), (3, .int .i64 ((getI b).1)), (4, .int .i64 (((getI b).2.1 : Nat) : Int)), (5, .int .i64 (((getI b).2.2 : Nat) : Int)), (6, .string (bs ((getS b).1))), (7, .int .i64 (((getS b).2.1 : Nat) : Int)), (8, .int .i64 (((getS b).2.2 : Nat) : Int)), (9, v5), (10, .int .i64 (((getL getI 1 b).2.1 : Nat) : Int)), (11, .int .i64 (((getL getI 1 b).2.2 : Nat) : Int)), (12, v7), (13, .int .i64 (((getL getS 1 b).2.1 : Nat) : Int)), (14, .int .i64 (((getL getS 1 b).2.2 : Nat) : Int))] [0, 1, 2] [ro bv 1 (u8c b), row v5 1 (i64c ((getL getI 1 b).1)), row v7 1 (strc ((getL getS 1 b).1))] (vcons rfl (vcons rfl (vcons rfl (vcons rfl (vcons rfl (vcons rfl (vcons rfl (vcons rfl (vcons rfl (vcons rfl (vcons rfl (vcons rfl (vcons rfl (vcons rfl (vnil))))))))))))))) (by decide) rfl ?_
    refine run_region' ?_
    refine ops_y (wn rfl) rfl (y_move rfl) ?_
    refine ops_t (wn rfl) rfl (t_call (vs := [bv]) (cs := []) [⟨0, false⟩] rfl Try.call34 rfl (getDigs_p bv _ (by first | omega | (simp only [List.length_drop, List.length_take, List.length_append]; omega) | (simp; done))) (shows_cons 0 false rfl views_ro shows_nil) (.inl rfl)) ?_
    rintro _ _ ⟨_, ⟨v9, rfl, rfl⟩, rfl⟩
    have hd8 := getLD_any b
    refine ops_y (wn rfl) rfl (y_move rfl) ?_
    refine ops_y (wn rfl) rfl (y_extract rfl rfl) ?_
    refine ops_y (wn rfl) rfl (y_extract rfl rfl) ?_
    refine ops_y (wn rfl) rfl (y_extract rfl rfl) ?_
    refine ops_y (wn rfl) rfl (y_assign rfl) ?_
    refine ops_y (wn rfl) rfl (y_assign rfl) ?_
    refine ops_y (wn rfl) rfl (y_assign rfl) ?_
    refine ops_nil ?_
    refine goes_code ?_
    refine run_seq ?_
    refine run_region' ?_
    refine ops_t (wn rfl) rfl (t_call (vs := []) (cs := []) [] rfl Try.call12 rfl (sanity) shows_nil (.inl rfl)) ?_
    rintro _ _ ⟨_, ⟨rfl, rfl⟩, rfl⟩
    refine ops_y (wn rfl) rfl (y_move rfl) ?_
    refine ops_y (wg 1 true 53 rfl rfl rfl rfl) rfl (y_move rfl) ?_
    refine ops_y (wg 1 true 53 rfl rfl rfl rfl) rfl (y_move rfl) ?_
    refine ops_t (wg 1 true 53 rfl rfl rfl rfl) rfl (t_call (vs := [.int .i64 ((getI b).1)]) (cs := []) [] rfl Try.call14 rfl (int_p ((getI b).1) (by first | omega | decide) (by first | omega | decide)) shows_nil (.inl rfl)) ?_
    rintro v10 _ ⟨_, rfl, rfl⟩
    refine ops_y (wg 1 true 53 rfl rfl rfl rfl) rfl (y_move rfl) ?_
    refine ops_y (wg 1 true 53 rfl rfl rfl rfl) rfl (y_move rfl) ?_
    refine ops_weak [(0, bv), (2, .bool false), (6, .string (bs ((getS b).1))), (7, .int .i64 (((getS b).2.1 : Nat) : Int)), (8, .int .i64 (((getS b).2.2 : Nat) : Int)), (9, v5), (10, .int .i64 (((getL getI 1 b).2.1 : Nat) : Int)), (11, .int .i64 (((getL getI 1 b).2.2 : Nat) : Int)), (12, v7), (13, .int .i64 (((getL getS 1 b).2.1 : Nat) : Int)), (14, .int .i64 (((getL getS 1 b).2.2 : Nat) : Int)), (15, v9), (16, .int .i64 (((getL getD 16 b).2.1 : Nat) : Int)), (17, .int .i64 (((getL getD 16 b).2.2 : Nat) : Int)), (53, .bool true), (54, bv), (56, v10), (57, .int .i64 (((getI b).2.1 : Nat) : Int)), (58, .int .i64 (((getI b).2.2 : Nat) : Int))] [0, 1, 2, 3, 4] [ro bv 1 (u8c b), row v5 1 (i64c ((getL getI 1 b).1)), row v7 1 (strc ((getL getS 1 b).1)), row v9 16 (arrc ((getL getD 16 b).1)), row v10 1 (u8c (encI ((getI b).1)))] (vcons rfl (vcons rfl (vcons rfl (vcons rfl (vcons rfl (vcons rfl (vcons rfl (vcons rfl (vcons rfl (vcons rfl (vcons rfl (vcons rfl (vcons rfl (vcons rfl (vcons rfl (vcons rfl (vcons rfl (vcons rfl (vcons rfl (vnil)))))))))))))))))))) (by decide) rfl ?_
    refine ops_t (wg 1 true 53 rfl rfl rfl rfl) rfl (t_call (vs := [bv, v10, .int .i64 (((getI b).2.1 : Nat) : Int), .int .i64 (((getI b).2.2 : Nat) : Int)]) (cs := []) [⟨0, false⟩, ⟨4, true⟩] rfl Try.call37 rfl (consumed_l bv v10 _ _ (getI b).2.1 (getI b).2.2 (by first | omega | (simp only [List.length_drop, List.length_take, List.length_append]; omega) | (simp; done)) (by omega) (fun h => ⟨by omega, getI_can h⟩)) (shows_cons 0 false rfl views_ro (shows_cons 4 true rfl views_row shows_nil)) (.inr (by rintro _ _ ⟨rfl, rfl⟩ g hg; first | (cases hg; done) | (simp only [List.mem_cons, List.not_mem_nil, or_false] at hg; first | (subst hg; first | exact strict_row | exact strict_box) | (rcases hg with rfl | rfl <;> first | exact strict_row | exact strict_box))))) ?_
    rintro _ _ ⟨_, ⟨rfl, rfl⟩, rfl⟩
    refine ops_y (wn rfl) rfl (y_pick (b := true) rfl rfl) ?_
    refine ops_y (wn rfl) rfl (y_move rfl) ?_
    refine ops_y (wg 9 true 61 rfl rfl rfl rfl) rfl (y_move rfl) ?_
    refine ops_y (wg 9 true 61 rfl rfl rfl rfl) rfl (y_move rfl) ?_
    refine ops_t (wg 9 true 61 rfl rfl rfl rfl) rfl (t_call (vs := [.string (bs ((getS b).1))]) (cs := []) [] rfl Try.call16 rfl (bytes_p ((getS b).1) (by first | omega | (simp only [List.length_drop, List.length_take, List.length_append]; omega) | (simp; done))) shows_nil (.inl rfl)) ?_
    rintro v11 _ ⟨_, rfl, rfl⟩
    refine ops_y (wg 9 true 61 rfl rfl rfl rfl) rfl (y_move rfl) ?_
    refine ops_y (wg 9 true 61 rfl rfl rfl rfl) rfl (y_move rfl) ?_
    refine ops_t (wg 9 true 61 rfl rfl rfl rfl) rfl (t_call (vs := [bv, v11, .int .i64 (((getS b).2.1 : Nat) : Int), .int .i64 (((getS b).2.2 : Nat) : Int)]) (cs := []) [⟨0, false⟩, ⟨5, true⟩] rfl Try.call37 rfl (consumed_l bv v11 _ _ (getS b).2.1 (getS b).2.2 (by first | omega | (simp only [List.length_drop, List.length_take, List.length_append]; omega) | (simp; done)) (by omega) (fun h => ⟨by omega, getS_can h⟩)) (shows_cons 0 false rfl views_ro (shows_cons 5 true rfl views_row shows_nil)) (.inr (by rintro _ _ ⟨rfl, rfl⟩ g hg; first | (cases hg; done) | (simp only [List.mem_cons, List.not_mem_nil, or_false] at hg; first | (subst hg; first | exact strict_row | exact strict_box) | (rcases hg with rfl | rfl <;> first | exact strict_row | exact strict_box))))) ?_
    rintro _ _ ⟨_, ⟨rfl, rfl⟩, rfl⟩
    refine ops_y (wn rfl) rfl (y_pick (b := true) rfl rfl) ?_
    refine ops_y (wn rfl) rfl (y_move rfl) ?_
    refine ops_y (wg 17 true 69 rfl rfl rfl rfl) rfl (y_move rfl) ?_
    refine ops_y (wg 17 true 69 rfl rfl rfl rfl) rfl (y_move rfl) ?_
    refine ops_t (wg 17 true 69 rfl rfl rfl rfl) rfl (t_call (vs := [v5]) (cs := []) [⟨1, true⟩] rfl Try.call18 rfl (ints_p v5 ((getL getI 1 b).1) (by first | omega | (simp; done)) (getLI_all b) (by have := encLI_len _ (by omega) (getLI_all b); omega)) (shows_cons 1 true rfl views_row shows_nil) (.inr (by rintro _ _ rfl g hg; first | (cases hg; done) | (simp only [List.mem_cons, List.not_mem_nil, or_false] at hg; first | (subst hg; first | exact strict_row | exact strict_box) | (rcases hg with rfl | rfl <;> first | exact strict_row | exact strict_box))))) ?_
    rintro v12 _ ⟨_, rfl, rfl⟩
    refine ops_y (wg 17 true 69 rfl rfl rfl rfl) rfl (y_move rfl) ?_
    refine ops_y (wg 17 true 69 rfl rfl rfl rfl) rfl (y_move rfl) ?_
    refine ops_weak [(0, bv), (2, .bool false), (12, v7), (13, .int .i64 (((getL getS 1 b).2.1 : Nat) : Int)), (14, .int .i64 (((getL getS 1 b).2.2 : Nat) : Int)), (15, v9), (16, .int .i64 (((getL getD 16 b).2.1 : Nat) : Int)), (17, .int .i64 (((getL getD 16 b).2.2 : Nat) : Int)), (69, .bool true), (70, bv), (72, v12), (73, .int .i64 (((getL getI 1 b).2.1 : Nat) : Int)), (74, .int .i64 (((getL getI 1 b).2.2 : Nat) : Int))] [0, 2, 3, 6] [ro bv 1 (u8c b), row v7 1 (strc ((getL getS 1 b).1)), row v9 16 (arrc ((getL getD 16 b).1)), row v12 1 (u8c (encL encI ((getL getI 1 b).1)))] (vcons rfl (vcons rfl (vcons rfl (vcons rfl (vcons rfl (vcons rfl (vcons rfl (vcons rfl (vcons rfl (vcons rfl (vcons rfl (vcons rfl (vcons rfl (vnil)))))))))))))) (by decide) rfl ?_
    refine ops_t (wg 17 true 69 rfl rfl rfl rfl) rfl (t_call (vs := [bv, v12, .int .i64 (((getL getI 1 b).2.1 : Nat) : Int), .int .i64 (((getL getI 1 b).2.2 : Nat) : Int)]) (cs := []) [⟨0, false⟩, ⟨3, true⟩] rfl Try.call37 rfl (consumed_l bv v12 _ _ (getL getI 1 b).2.1 (getL getI 1 b).2.2 (by first | omega | (simp only [List.length_drop, List.length_take, List.length_append]; omega) | (simp; done)) (by omega) (fun h => ⟨by omega, getLI_can h⟩)) (shows_cons 0 false rfl views_ro (shows_cons 3 true rfl views_row shows_nil)) (.inr (by rintro _ _ ⟨rfl, rfl⟩ g hg; first | (cases hg; done) | (simp only [List.mem_cons, List.not_mem_nil, or_false] at hg; first | (subst hg; first | exact strict_row | exact strict_box) | (rcases hg with rfl | rfl <;> first | exact strict_row | exact strict_box))))) ?_
    rintro _ _ ⟨_, ⟨rfl, rfl⟩, rfl⟩
    refine ops_y (wn rfl) rfl (y_pick (b := true) rfl rfl) ?_
    refine ops_y (wn rfl) rfl (y_move rfl) ?_
    refine ops_y (wg 25 true 77 rfl rfl rfl rfl) rfl (y_move rfl) ?_
    refine ops_y (wg 25 true 77 rfl rfl rfl rfl) rfl (y_move rfl) ?_
    refine ops_t (wg 25 true 77 rfl rfl rfl rfl) rfl (t_call (vs := [v7]) (cs := []) [⟨1, true⟩] rfl Try.call20 rfl (strs_p v7 ((getL getS 1 b).1) (by first | omega | (simp; done)) (getLS_all b (by omega)) (by have := getLS_len b; omega)) (shows_cons 1 true rfl views_row shows_nil) (.inr (by rintro _ _ rfl g hg; first | (cases hg; done) | (simp only [List.mem_cons, List.not_mem_nil, or_false] at hg; first | (subst hg; first | exact strict_row | exact strict_box) | (rcases hg with rfl | rfl <;> first | exact strict_row | exact strict_box))))) ?_
    rintro v13 _ ⟨_, rfl, rfl⟩
    refine ops_y (wg 25 true 77 rfl rfl rfl rfl) rfl (y_move rfl) ?_
    refine ops_y (wg 25 true 77 rfl rfl rfl rfl) rfl (y_move rfl) ?_
    refine ops_t (wg 25 true 77 rfl rfl rfl rfl) rfl (t_call (vs := [bv, v13, .int .i64 (((getL getS 1 b).2.1 : Nat) : Int), .int .i64 (((getL getS 1 b).2.2 : Nat) : Int)]) (cs := []) [⟨0, false⟩, ⟨4, true⟩] rfl Try.call37 rfl (consumed_l bv v13 _ _ (getL getS 1 b).2.1 (getL getS 1 b).2.2 (by first | omega | (simp only [List.length_drop, List.length_take, List.length_append]; omega) | (simp; done)) (by omega) (fun h => ⟨by omega, getLS_can h⟩)) (shows_cons 0 false rfl views_ro (shows_cons 4 true rfl views_row shows_nil)) (.inr (by rintro _ _ ⟨rfl, rfl⟩ g hg; first | (cases hg; done) | (simp only [List.mem_cons, List.not_mem_nil, or_false] at hg; first | (subst hg; first | exact strict_row | exact strict_box) | (rcases hg with rfl | rfl <;> first | exact strict_row | exact strict_box))))) ?_
    rintro _ _ ⟨_, ⟨rfl, rfl⟩, rfl⟩
    refine ops_y (wn rfl) rfl (y_pick (b := true) rfl rfl) ?_
    refine ops_y (wn rfl) rfl (y_move rfl) ?_
    refine ops_y (wg 33 true 85 rfl rfl rfl rfl) rfl (y_move rfl) ?_
    refine ops_y (wg 33 true 85 rfl rfl rfl rfl) rfl (y_move rfl) ?_
    refine ops_t (wg 33 true 85 rfl rfl rfl rfl) rfl (t_call (vs := [v9]) (cs := []) [⟨2, true⟩] rfl Try.call22 rfl (digs_p v9 ((getL getD 16 b).1) (by first | omega | (simp; done)) (getL_dig _) (by have := encLD_len _ (by omega) (getL_dig b); omega)) (shows_cons 2 true rfl views_row shows_nil) (.inr (by rintro _ _ rfl g hg; first | (cases hg; done) | (simp only [List.mem_cons, List.not_mem_nil, or_false] at hg; first | (subst hg; first | exact strict_row | exact strict_box) | (rcases hg with rfl | rfl <;> first | exact strict_row | exact strict_box))))) ?_
    rintro v14 _ ⟨_, rfl, rfl⟩
    refine ops_y (wg 33 true 85 rfl rfl rfl rfl) rfl (y_move rfl) ?_
    refine ops_y (wg 33 true 85 rfl rfl rfl rfl) rfl (y_move rfl) ?_
    refine ops_weak [(2, .bool false), (85, .bool true), (86, bv), (88, v14), (89, .int .i64 (((getL getD 16 b).2.1 : Nat) : Int)), (90, .int .i64 (((getL getD 16 b).2.2 : Nat) : Int))] [0, 5] [ro bv 1 (u8c b), row v14 1 (u8c (encL (fun d => d) ((getL getD 16 b).1)))] (vcons rfl (vcons rfl (vcons rfl (vcons rfl (vcons rfl (vcons rfl (vnil))))))) (by decide) rfl ?_
    refine ops_t (wg 33 true 85 rfl rfl rfl rfl) rfl (t_call (vs := [bv, v14, .int .i64 (((getL getD 16 b).2.1 : Nat) : Int), .int .i64 (((getL getD 16 b).2.2 : Nat) : Int)]) (cs := []) [⟨0, false⟩, ⟨1, true⟩] rfl Try.call37 rfl (consumed_l bv v14 _ _ (getL getD 16 b).2.1 (getL getD 16 b).2.2 (by first | omega | (simp only [List.length_drop, List.length_take, List.length_append]; omega) | (simp; done)) (by omega) (fun h => ⟨by omega, getLD_can h⟩)) (shows_cons 0 false rfl views_ro (shows_cons 1 true rfl views_row shows_nil)) (.inr (by rintro _ _ ⟨rfl, rfl⟩ g hg; first | (cases hg; done) | (simp only [List.mem_cons, List.not_mem_nil, or_false] at hg; first | (subst hg; first | exact strict_row | exact strict_box) | (rcases hg with rfl | rfl <;> first | exact strict_row | exact strict_box))))) ?_
    rintro _ _ ⟨_, ⟨rfl, rfl⟩, rfl⟩
    refine ops_y (wn rfl) rfl (y_pick (b := true) rfl rfl) ?_
    refine ops_y (wn rfl) rfl (y_assign rfl) ?_
    refine ops_nil ?_
    refine goes_code ?_
    refine run_ret ?_
    refine fin_slots [2] [.bool true] [] [] Try.results7 rfl (by decide) rfl ?_
    dsimp only [tup]
    exact ⟨rfl, rfl⟩

end Go.Proofs.Ytbhlfdklpihaiaa
