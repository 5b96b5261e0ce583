/-
  The walks of the laws, fourth part.
-/
import Derived.Test.YtbhlfdklpihaiaaWireMore
import Derived.Test.YtbhlfdklpihaiaaWalk7
namespace Go.Proofs.Ytbhlfdklpihaiaa
open Go.Abs
set_option linter.unusedVariables false
set_option linter.unusedSimpArgs false
set_option maxRecDepth 20000

theorem law_encode (n : Int) (h1 : -9223372036854775808 ≤ n) (h2 : n ≤ 9223372036854775807) (s : List UInt8) (hs : s.length ≤ 1048576) (lv : Value) (l : List Int) (hll : l.length ≤ 1048576) (hn : ∀ n ∈ l, -9223372036854775808 ≤ n ∧ n ≤ 9223372036854775807) (xv : Value) (x : List (List UInt8)) (hx : x.length + (x.map List.length).sum ≤ 1048576) (dv : Value) (d : List (List UInt8)) (hdl : d.length ≤ 1048576) (hd : ∀ y ∈ d, y.length = 16) :
    Meets Try.prog 3 [.int .i64 n, .string (bs s), lv, xv, dv] [ro lv 1 (i64c l), ro xv 1 (strc x), ro dv 16 (arrc d)] (fun v G => v = .bool true ∧ G = []) := by
  have hxn : ∀ y ∈ x, y.length ≤ 4294967296 := fun y hy => by have := mem_sum x y hy; omega
  have hL := encLI_len l (by omega) hn
  have hX := encLS_len x (by omega) hxn
  have hD := encLD_len d (by omega) hd
  have hS := (encI_len (n := (s.length : Int)) (by omega) (by omega)).2
  refine fn_of_run Try.func3 rfl Try.ntmps3 rfl (fun w0 o0 => ?_)
  refine run_seq ?_
  refine run_region' ?_
  refine ops_y (wn rfl) rfl (y_assign rfl) ?_
  refine ops_nil ?_
  refine goes_code ?_
  refine run_seq ?_
  refine run_seq ?_
  refine run_region' ?_
  refine ops_y (wn rfl) rfl (y_move rfl) ?_
  refine ops_y (wn rfl) rfl (y_len_str rfl Try.runUnderlying9 rfl) ?_
  refine ops_y (wn rfl) rfl (y_move rfl) ?_
  refine ops_y (wn rfl) rfl ((y_len 0 rfl Try.runUnderlying22 rfl rfl reads_ro).to (congrArg (fun n : Nat => Value.int .i64 (n : Int)) (i64c_len _))) ?_
  refine ops_y (wn rfl) rfl ((y_add rfl rfl).to (v64n (a := s.length) (b := l.length) (by omega))) ?_
  refine ops_y (wn rfl) rfl (y_move rfl) ?_
  refine ops_y (wn rfl) rfl ((y_len 2 rfl Try.runUnderlying24 rfl rfl reads_ro).to (congrArg (fun n : Nat => Value.int .i64 (n : Int)) (arrc_len _))) ?_
  refine ops_y (wn rfl) rfl ((y_add rfl rfl).to (v64n (a := (s.length + l.length)) (b := d.length) (by omega))) ?_
  refine ops_y (wn rfl) rfl (y_gtr rfl rfl) ?_
  refine ops_y (wn rfl) rfl (y_move rfl) ?_
  refine ops_split 20 _ rfl (fun hg1 => ?_) (fun hg1 => ?_)
  · -- B1t
    replace hg1 := of_decide_eq_true hg1
    refine ops_no 9 false 20 rfl rfl rfl rfl rfl ?_
    refine ops_no 9 false 20 rfl rfl rfl rfl rfl ?_
    refine ops_no 9 false 20 rfl rfl rfl rfl rfl ?_
    refine ops_y (wn rfl) rfl (y_pick (b := true) rfl rfl) ?_
    refine ops_nil ?_
    refine goes_code ?_
    refine run_cond_t rfl ?_
    refine run_seq ?_
    refine run_weak [(0, .int .i64 n), (1, .string (bs s)), (2, lv), (3, xv), (4, dv), (10, .bool false)] [0, 1, 2] [ro lv 1 (i64c l), ro xv 1 (strc x), ro dv 16 (arrc d)] (vcons rfl (vcons rfl (vcons rfl (vcons rfl (vcons rfl (vcons rfl (vnil))))))) (by decide) rfl ?_
    refine run_region' ?_
    refine ops_t (wn rfl) rfl (t_call (vs := []) (cs := []) [] rfl Try.call12 rfl (sanity) shows_nil (.inl rfl)) ?_
    rintro _ _ ⟨_, ⟨rfl, rfl⟩, rfl⟩
    refine ops_y (wn rfl) rfl (y_assign rfl) ?_
    refine ops_nil ?_
    refine goes_code ?_
    refine run_ret ?_
    refine fin_slots [10] [.bool true] [] [] Try.results3 rfl (by decide) rfl ?_
    dsimp only [tup]
    exact ⟨rfl, rfl⟩
  · -- B1f
    replace hg1 := of_decide_eq_false hg1
    refine ops_y (wg 9 false 20 rfl rfl rfl rfl) rfl (y_move rfl) ?_
    refine ops_t (wg 9 false 20 rfl rfl rfl rfl) rfl (t_call (vs := [xv]) (cs := []) [⟨1, false⟩] rfl Try.call11 rfl (few_l xv x (by omega)) (shows_cons 1 false rfl views_ro shows_nil) (.inl rfl)) ?_
    rintro _ _ ⟨_, ⟨rfl, rfl⟩, rfl⟩
    refine ops_y (wg 9 false 20 rfl rfl rfl rfl) rfl (y_not rfl) ?_
    refine ops_y (wn rfl) rfl (y_pick (b := false) rfl rfl) ?_
    refine ops_nil ?_
    refine goes_code ?_
    refine run_cond _ rfl (fun hc2 => ?_) (fun hc2 => ?_)
    · -- B2t
      simp at hc2
      refine run_seq ?_
      refine run_weak [(0, .int .i64 n), (1, .string (bs s)), (2, lv), (3, xv), (4, dv), (10, .bool false)] [0, 1, 2] [ro lv 1 (i64c l), ro xv 1 (strc x), ro dv 16 (arrc d)] (vcons rfl (vcons rfl (vcons rfl (vcons rfl (vcons rfl (vcons rfl (vnil))))))) (by decide) rfl ?_
      refine run_region' ?_
      refine ops_t (wn rfl) rfl (t_call (vs := []) (cs := []) [] rfl Try.call12 rfl (sanity) shows_nil (.inl rfl)) ?_
      rintro _ _ ⟨_, ⟨rfl, rfl⟩, rfl⟩
      refine ops_y (wn rfl) rfl (y_assign rfl) ?_
      refine ops_nil ?_
      refine goes_code ?_
      refine run_ret ?_
      refine fin_slots [10] [.bool true] [] [] Try.results3 rfl (by decide) rfl ?_
      dsimp only [tup]
      exact ⟨rfl, rfl⟩
    · -- B2f
      simp at hc2
      refine run_skip ?_
      refine goes_code ?_
      refine run_seq ?_
      refine run_weak [(0, .int .i64 n), (1, .string (bs s)), (2, lv), (3, xv), (4, dv), (10, .bool false)] [0, 1, 2] [ro lv 1 (i64c l), ro xv 1 (strc x), ro dv 16 (arrc d)] (vcons rfl (vcons rfl (vcons rfl (vcons rfl (vcons rfl (vcons rfl (vnil))))))) (by decide) rfl ?_
      refine run_region' ?_
      refine ops_t (wn rfl) rfl (t_call (vs := []) (cs := []) [] rfl Try.call12 rfl (sanity) shows_nil (.inl rfl)) ?_
      rintro _ _ ⟨_, ⟨rfl, rfl⟩, rfl⟩
      refine ops_y (wn rfl) rfl (y_move rfl) ?_
      refine ops_y (wg 1 true 27 rfl rfl rfl rfl) rfl (y_move rfl) ?_
      refine ops_t (wg 1 true 27 rfl rfl rfl rfl) rfl (t_call (vs := [.int .i64 n]) (cs := []) [] rfl Try.call14 rfl (int_p n (by first | omega | decide) (by first | omega | decide)) shows_nil (.inl rfl)) ?_
      rintro v3 _ ⟨_, rfl, rfl⟩
      refine ops_y (wg 1 true 27 rfl rfl rfl rfl) rfl (y_move rfl) ?_
      refine ops_t (wg 1 true 27 rfl rfl rfl rfl) rfl (t_call (vs := [.int .i64 n]) (cs := []) [] rfl Try.call15 rfl (int_r n (by first | omega | decide) (by first | omega | decide)) shows_nil (.inl rfl)) ?_
      rintro v4 _ ⟨_, rfl, rfl⟩
      refine ops_t (wg 1 true 27 rfl rfl rfl rfl) rfl (t_call (vs := [v3, v4]) (cs := []) [⟨3, true⟩, ⟨4, true⟩] rfl Try.call13 rfl (same_r v3 v4 _ _) (shows_cons 3 true rfl views_row (shows_cons 4 true rfl views_row shows_nil)) (.inr (by rintro _ _ ⟨rfl, rfl⟩ g hg; first | (cases hg; done) | (simp only [List.mem_cons, List.not_mem_nil, or_false] at hg; first | (subst hg; first | exact strict_row | exact strict_box) | (rcases hg with rfl | rfl <;> first | exact strict_row | exact strict_box))))) ?_
      rintro _ _ ⟨_, ⟨rfl, rfl⟩, rfl⟩
      refine ops_as 32 _ (.bool true) rfl (congrArg Value.bool (decide_eq_true rfl)) ?_
      refine ops_y (wn rfl) rfl (y_pick (b := true) rfl rfl) ?_
      refine ops_y (wn rfl) rfl (y_move rfl) ?_
      refine ops_y (wg 8 true 34 rfl rfl rfl rfl) rfl (y_move rfl) ?_
      refine ops_t (wg 8 true 34 rfl rfl rfl rfl) rfl (t_call (vs := [.string (bs s)]) (cs := []) [] rfl Try.call16 rfl (bytes_p s (by first | omega | (simp only [List.length_drop, List.length_take, List.length_append]; omega) | (simp; done))) shows_nil (.inl rfl)) ?_
      rintro v5 _ ⟨_, rfl, rfl⟩
      refine ops_y (wg 8 true 34 rfl rfl rfl rfl) rfl (y_move rfl) ?_
      refine ops_t (wg 8 true 34 rfl rfl rfl rfl) rfl (t_call (vs := [.string (bs s)]) (cs := []) [] rfl Try.call17 rfl (bytes_r s (by first | omega | (simp only [List.length_drop, List.length_take, List.length_append]; omega) | (simp; done))) shows_nil (.inl rfl)) ?_
      rintro v6 _ ⟨_, rfl, rfl⟩
      refine ops_t (wg 8 true 34 rfl rfl rfl rfl) rfl (t_call (vs := [v5, v6]) (cs := []) [⟨5, true⟩, ⟨6, true⟩] rfl Try.call13 rfl (same_r v5 v6 _ _) (shows_cons 5 true rfl views_row (shows_cons 6 true rfl views_row shows_nil)) (.inr (by rintro _ _ ⟨rfl, rfl⟩ g hg; first | (cases hg; done) | (simp only [List.mem_cons, List.not_mem_nil, or_false] at hg; first | (subst hg; first | exact strict_row | exact strict_box) | (rcases hg with rfl | rfl <;> first | exact strict_row | exact strict_box))))) ?_
      rintro _ _ ⟨_, ⟨rfl, rfl⟩, rfl⟩
      refine ops_as 39 _ (.bool true) rfl (congrArg Value.bool (decide_eq_true rfl)) ?_
      refine ops_y (wn rfl) rfl (y_pick (b := true) rfl rfl) ?_
      refine ops_y (wn rfl) rfl (y_move rfl) ?_
      refine ops_weak [(2, lv), (3, xv), (4, dv), (10, .bool false), (41, .bool true)] [0, 1, 2] [ro lv 1 (i64c l), ro xv 1 (strc x), ro dv 16 (arrc d)] (vcons rfl (vcons rfl (vcons rfl (vcons rfl (vcons rfl (vnil)))))) (by decide) rfl ?_
      refine ops_y (wg 15 true 41 rfl rfl rfl rfl) rfl (y_move rfl) ?_
      refine ops_t (wg 15 true 41 rfl rfl rfl rfl) rfl (t_call (vs := [lv]) (cs := []) [⟨0, false⟩] rfl Try.call18 rfl (ints_p lv l (by first | omega | (simp; done)) hn (by omega)) (shows_cons 0 false rfl views_ro shows_nil) (.inl rfl)) ?_
      rintro v7 _ ⟨_, rfl, rfl⟩
      refine ops_y (wg 15 true 41 rfl rfl rfl rfl) rfl (y_move rfl) ?_
      refine ops_t (wg 15 true 41 rfl rfl rfl rfl) rfl (t_call (vs := [lv]) (cs := []) [⟨0, false⟩] rfl Try.call19 rfl (ints_r lv l (by first | omega | (simp; done)) hn (by omega)) (shows_cons 0 false rfl views_ro shows_nil) (.inl rfl)) ?_
      rintro v8 _ ⟨_, rfl, rfl⟩
      refine ops_t (wg 15 true 41 rfl rfl rfl rfl) rfl (t_call (vs := [v7, v8]) (cs := []) [⟨3, true⟩, ⟨4, true⟩] rfl Try.call13 rfl (same_r v7 v8 _ _) (shows_cons 3 true rfl views_row (shows_cons 4 true rfl views_row shows_nil)) (.inr (by rintro _ _ ⟨rfl, rfl⟩ g hg; first | (cases hg; done) | (simp only [List.mem_cons, List.not_mem_nil, or_false] at hg; first | (subst hg; first | exact strict_row | exact strict_box) | (rcases hg with rfl | rfl <;> first | exact strict_row | exact strict_box))))) ?_
      rintro _ _ ⟨_, ⟨rfl, rfl⟩, rfl⟩
      refine ops_as 46 _ (.bool true) rfl (congrArg Value.bool (decide_eq_true rfl)) ?_
      refine ops_y (wn rfl) rfl (y_pick (b := true) rfl rfl) ?_
      refine ops_y (wn rfl) rfl (y_move rfl) ?_
      refine ops_y (wg 22 true 48 rfl rfl rfl rfl) rfl (y_move rfl) ?_
      refine ops_t (wg 22 true 48 rfl rfl rfl rfl) rfl (t_call (vs := [xv]) (cs := []) [⟨1, false⟩] rfl Try.call20 rfl (strs_p xv x (by first | omega | (simp; done)) hxn (by omega)) (shows_cons 1 false rfl views_ro shows_nil) (.inl rfl)) ?_
      rintro v9 _ ⟨_, rfl, rfl⟩
      refine ops_y (wg 22 true 48 rfl rfl rfl rfl) rfl (y_move rfl) ?_
      refine ops_t (wg 22 true 48 rfl rfl rfl rfl) rfl (t_call (vs := [xv]) (cs := []) [⟨1, false⟩] rfl Try.call21 rfl (strs_r xv x (by first | omega | (simp; done)) hxn (by omega)) (shows_cons 1 false rfl views_ro shows_nil) (.inl rfl)) ?_
      rintro v10 _ ⟨_, rfl, rfl⟩
      refine ops_t (wg 22 true 48 rfl rfl rfl rfl) rfl (t_call (vs := [v9, v10]) (cs := []) [⟨5, true⟩, ⟨6, true⟩] rfl Try.call13 rfl (same_r v9 v10 _ _) (shows_cons 5 true rfl views_row (shows_cons 6 true rfl views_row shows_nil)) (.inr (by rintro _ _ ⟨rfl, rfl⟩ g hg; first | (cases hg; done) | (simp only [List.mem_cons, List.not_mem_nil, or_false] at hg; first | (subst hg; first | exact strict_row | exact strict_box) | (rcases hg with rfl | rfl <;> first | exact strict_row | exact strict_box))))) ?_
      rintro _ _ ⟨_, ⟨rfl, rfl⟩, rfl⟩
      refine ops_as 53 _ (.bool true) rfl (congrArg Value.bool (decide_eq_true rfl)) ?_
      refine ops_y (wn rfl) rfl (y_pick (b := true) rfl rfl) ?_
      refine ops_y (wn rfl) rfl (y_move rfl) ?_
      refine ops_y (wg 29 true 55 rfl rfl rfl rfl) rfl (y_move rfl) ?_
      refine ops_t (wg 29 true 55 rfl rfl rfl rfl) rfl (t_call (vs := [dv]) (cs := []) [⟨2, false⟩] rfl Try.call22 rfl (digs_p dv d (by first | omega | (simp; done)) hd (by omega)) (shows_cons 2 false rfl views_ro shows_nil) (.inl rfl)) ?_
      rintro v11 _ ⟨_, rfl, rfl⟩
      refine ops_weak [(4, dv), (10, .bool false), (55, .bool true), (57, v11)] [0, 1, 2, 7] [ro lv 1 (i64c l), ro xv 1 (strc x), ro dv 16 (arrc d), row v11 1 (u8c (encL (fun d => d) d))] (vcons rfl (vcons rfl (vcons rfl (vcons rfl (vnil))))) (by decide) rfl ?_
      refine ops_y (wg 29 true 55 rfl rfl rfl rfl) rfl (y_move rfl) ?_
      refine ops_t (wg 29 true 55 rfl rfl rfl rfl) rfl (t_call (vs := [dv]) (cs := []) [⟨2, false⟩] rfl Try.call23 rfl (digs_r dv d (by first | omega | (simp; done)) hd (by omega)) (shows_cons 2 false rfl views_ro shows_nil) (.inl rfl)) ?_
      rintro v12 _ ⟨_, rfl, rfl⟩
      refine ops_t (wg 29 true 55 rfl rfl rfl rfl) rfl (t_call (vs := [v11, v12]) (cs := []) [⟨3, true⟩, ⟨4, true⟩] rfl Try.call13 rfl (same_r v11 v12 _ _) (shows_cons 3 true rfl views_row (shows_cons 4 true rfl views_row shows_nil)) (.inr (by rintro _ _ ⟨rfl, rfl⟩ g hg; first | (cases hg; done) | (simp only [List.mem_cons, List.not_mem_nil, or_false] at hg; first | (subst hg; first | exact strict_row | exact strict_box) | (rcases hg with rfl | rfl <;> first | exact strict_row | exact strict_box))))) ?_
      rintro _ _ ⟨_, ⟨rfl, rfl⟩, rfl⟩
      refine ops_as 60 _ (.bool true) rfl (congrArg Value.bool (decide_eq_true rfl)) ?_
      refine ops_y (wn rfl) rfl (y_pick (b := true) rfl rfl) ?_
      refine ops_y (wn rfl) rfl (y_assign rfl) ?_
      refine ops_nil ?_
      refine goes_code ?_
      refine run_ret ?_
      refine fin_slots [10] [.bool true] [] [] Try.results3 rfl (by decide) rfl ?_
      dsimp only [tup]
      exact ⟨rfl, rfl⟩

end Go.Proofs.Ytbhlfdklpihaiaa
