/-
  The walks of the laws, sixth part.
-/
import Derived.Test.YtbhlfdklpihaiaaAbsLoop
import Derived.Test.YtbhlfdklpihaiaaWireShort
import Derived.Test.YtbhlfdklpihaiaaWalk9
namespace Go.Proofs.Ytbhlfdklpihaiaa
open Go.Abs
set_option linter.unusedVariables false
set_option linter.unusedSimpArgs false
set_option maxRecDepth 20000

structure law_short_S1 where
  k : Nat
theorem law_short (n : Int) (h1 : -9223372036854775808 ≤ n) (h2 : n ≤ 9223372036854775807) (s : List UInt8) (hs : s.length ≤ 1048576) (lv : Value) (l : List Int) (hll : l.length ≤ 1048576) (hn : ∀ n ∈ l, -9223372036854775808 ≤ n ∧ n ≤ 9223372036854775807) (xv : Value) (x : List (List UInt8)) (hx : x.length + (x.map List.length).sum ≤ 1048576) (dv : Value) (d : List (List UInt8)) (hdl : d.length ≤ 1048576) (hd : ∀ y ∈ d, y.length = 16) :
    Meets Try.prog 9 [.int .i64 n, .string (bs s), lv, xv, dv] [ro lv 1 (i64c l), ro xv 1 (strc x), ro dv 16 (arrc d)] (fun v G => v = .bool true ∧ G = []) := by
  have hxn : ∀ y ∈ x, y.length ≤ 4294967296 := fun y hy => by have := mem_sum x y hy; omega
  have hL := encLI_len l (by omega) hn
  have hX := encLS_len x (by omega) hxn
  have hD := encLD_len d (by omega) hd
  have hS := (encI_len (n := (s.length : Int)) (by omega) (by omega)).2
  have hSl : (encS s).length = (encI s.length).length + s.length := List.length_append
  have hIl := encI_len h1 h2
  refine fn_of_run Try.func9 rfl Try.ntmps9 rfl (fun w0 o0 => ?_)
  refine run_seq ?_
  refine run_region' ?_
  refine ops_y (wn rfl) rfl (y_assign rfl) ?_
  refine ops_nil ?_
  refine goes_code ?_
  refine run_seq ?_
  refine run_seq ?_
  refine run_region' ?_
  refine ops_y (wn rfl) rfl (y_move rfl) ?_
  refine ops_y (wn rfl) rfl (y_len_str rfl Try.runUnderlying9 rfl) ?_
  refine ops_y (wn rfl) rfl (y_move rfl) ?_
  refine ops_y (wn rfl) rfl ((y_len 0 rfl Try.runUnderlying22 rfl rfl reads_ro).to (congrArg (fun n : Nat => Value.int .i64 (n : Int)) (i64c_len _))) ?_
  refine ops_y (wn rfl) rfl ((y_mul rfl rfl).to (v64m (a := 10) (b := l.length) (by omega))) ?_
  refine ops_y (wn rfl) rfl ((y_add rfl rfl).to (v64n (a := s.length) (b := (10 * l.length)) (by omega))) ?_
  refine ops_y (wn rfl) rfl (y_move rfl) ?_
  refine ops_y (wn rfl) rfl ((y_len 2 rfl Try.runUnderlying24 rfl rfl reads_ro).to (congrArg (fun n : Nat => Value.int .i64 (n : Int)) (arrc_len _))) ?_
  refine ops_y (wn rfl) rfl ((y_mul rfl rfl).to (v64m (a := 16) (b := d.length) (by omega))) ?_
  refine ops_y (wn rfl) rfl ((y_add rfl rfl).to (v64n (a := (s.length + (10 * l.length))) (b := (16 * d.length)) (by omega))) ?_
  refine ops_y (wn rfl) rfl (y_gtr rfl rfl) ?_
  refine ops_y (wn rfl) rfl (y_move rfl) ?_
  refine ops_split 26 _ rfl (fun hg1 => ?_) (fun hg1 => ?_)
  · -- B1t
    replace hg1 := of_decide_eq_true hg1
    refine ops_no 11 false 26 rfl rfl rfl rfl rfl ?_
    refine ops_no 11 false 26 rfl rfl rfl rfl rfl ?_
    refine ops_weak [(0, .int .i64 n), (1, .string (bs s)), (2, lv), (3, xv), (4, dv), (10, .bool false), (26, .bool true), (28, undef)] [0, 1, 2] [ro lv 1 (i64c l), ro xv 1 (strc x), ro dv 16 (arrc d)] (vcons rfl (vcons rfl (vcons rfl (vcons rfl (vcons rfl (vcons rfl (vcons rfl (vcons rfl (vnil))))))))) (by decide) rfl ?_
    refine ops_no 11 false 26 rfl rfl rfl rfl rfl ?_
    refine ops_y (wn rfl) rfl (y_pick (b := true) rfl rfl) ?_
    refine ops_y (wn rfl) rfl (y_move rfl) ?_
    refine ops_no 16 false 31 rfl rfl rfl rfl rfl ?_
    refine ops_no 16 false 31 rfl rfl rfl rfl rfl ?_
    refine ops_no 16 false 31 rfl rfl rfl rfl rfl ?_
    refine ops_y (wn rfl) rfl (y_pick (b := true) rfl rfl) ?_
    refine ops_nil ?_
    refine goes_code ?_
    refine run_cond_t rfl ?_
    refine run_seq ?_
    refine run_region' ?_
    refine ops_t (wn rfl) rfl (t_call (vs := []) (cs := []) [] rfl Try.call12 rfl (sanity) shows_nil (.inl rfl)) ?_
    rintro _ _ ⟨_, ⟨rfl, rfl⟩, rfl⟩
    refine ops_y (wn rfl) rfl (y_assign rfl) ?_
    refine ops_nil ?_
    refine goes_code ?_
    refine run_ret ?_
    refine fin_slots [10] [.bool true] [] [] Try.results9 rfl (by decide) rfl ?_
    dsimp only [tup]
    exact ⟨rfl, rfl⟩
  · -- B1f
    replace hg1 := of_decide_eq_false hg1
    refine ops_y (wg 11 false 26 rfl rfl rfl rfl) rfl (y_move rfl) ?_
    refine ops_y (wg 11 false 26 rfl rfl rfl rfl) rfl ((y_len 1 rfl Try.runUnderlying23 rfl rfl reads_ro).to (congrArg (fun n : Nat => Value.int .i64 (n : Int)) (strc_len _))) ?_
    refine ops_weak [(0, .int .i64 n), (1, .string (bs s)), (2, lv), (3, xv), (4, dv), (10, .bool false), (26, .bool false), (28, .int .i64 ((x.length : Nat) : Int))] [0, 1, 2] [ro lv 1 (i64c l), ro xv 1 (strc x), ro dv 16 (arrc d)] (vcons rfl (vcons rfl (vcons rfl (vcons rfl (vcons rfl (vcons rfl (vcons rfl (vcons rfl (vnil))))))))) (by decide) rfl ?_
    refine ops_y (wg 11 false 26 rfl rfl rfl rfl) rfl (y_gtr rfl rfl) ?_
    refine ops_y (wn rfl) rfl (y_pick (b := false) rfl rfl) ?_
    refine ops_y (wn rfl) rfl (y_move rfl) ?_
    refine ops_split 31 _ rfl (fun hg2 => ?_) (fun hg2 => ?_)
    · -- B2t
      replace hg2 := of_decide_eq_true hg2
      refine ops_no 16 false 31 rfl rfl rfl rfl rfl ?_
      refine ops_no 16 false 31 rfl rfl rfl rfl rfl ?_
      refine ops_no 16 false 31 rfl rfl rfl rfl rfl ?_
      refine ops_y (wn rfl) rfl (y_pick (b := true) rfl rfl) ?_
      refine ops_nil ?_
      refine goes_code ?_
      refine run_cond_t rfl ?_
      refine run_seq ?_
      refine run_region' ?_
      refine ops_t (wn rfl) rfl (t_call (vs := []) (cs := []) [] rfl Try.call12 rfl (sanity) shows_nil (.inl rfl)) ?_
      rintro _ _ ⟨_, ⟨rfl, rfl⟩, rfl⟩
      refine ops_y (wn rfl) rfl (y_assign rfl) ?_
      refine ops_nil ?_
      refine goes_code ?_
      refine run_ret ?_
      refine fin_slots [10] [.bool true] [] [] Try.results9 rfl (by decide) rfl ?_
      dsimp only [tup]
      exact ⟨rfl, rfl⟩
    · -- B2f
      replace hg2 := of_decide_eq_false hg2
      refine ops_y (wg 16 false 31 rfl rfl rfl rfl) rfl (y_move rfl) ?_
      refine ops_t (wg 16 false 31 rfl rfl rfl rfl) rfl (t_call (vs := [xv]) (cs := []) [⟨1, false⟩] rfl Try.call11 rfl (few_l xv x (by omega)) (shows_cons 1 false rfl views_ro shows_nil) (.inl rfl)) ?_
      rintro _ _ ⟨_, ⟨rfl, rfl⟩, rfl⟩
      refine ops_y (wg 16 false 31 rfl rfl rfl rfl) rfl (y_not rfl) ?_
      refine ops_y (wn rfl) rfl (y_pick (b := false) rfl rfl) ?_
      refine ops_nil ?_
      refine goes_code ?_
      refine run_cond _ rfl (fun hc3 => ?_) (fun hc3 => ?_)
      · -- B3t
        simp at hc3
        refine run_seq ?_
        refine run_region' ?_
        refine ops_t (wn rfl) rfl (t_call (vs := []) (cs := []) [] rfl Try.call12 rfl (sanity) shows_nil (.inl rfl)) ?_
        rintro _ _ ⟨_, ⟨rfl, rfl⟩, rfl⟩
        refine ops_y (wn rfl) rfl (y_assign rfl) ?_
        refine ops_nil ?_
        refine goes_code ?_
        refine run_ret ?_
        refine fin_slots [10] [.bool true] [] [] Try.results9 rfl (by decide) rfl ?_
        dsimp only [tup]
        exact ⟨rfl, rfl⟩
      · -- B3f
        simp at hc3
        refine run_skip ?_
        refine goes_code ?_
        refine run_seq ?_
        refine run_seq ?_
        refine run_region' ?_
        refine ops_y (wn rfl) rfl (y_move rfl) ?_
        refine ops_t (wn rfl) rfl (t_call (vs := [.int .i64 n]) (cs := []) [] rfl Try.call14 rfl (int_p n (by first | omega | decide) (by first | omega | decide)) shows_nil (.inl rfl)) ?_
        rintro v4 _ ⟨_, rfl, rfl⟩
        refine ops_y (wn rfl) rfl (y_move rfl) ?_
        refine ops_t (wn rfl) rfl (t_call (vs := [.string (bs s)]) (cs := []) [] rfl Try.call16 rfl (bytes_p s (by first | omega | (simp only [List.length_drop, List.length_take, List.length_append]; omega) | (simp; done))) shows_nil (.inl rfl)) ?_
        rintro v5 _ ⟨_, rfl, rfl⟩
        refine ops_y (wn rfl) rfl (y_move rfl) ?_
        refine ops_t (wn rfl) rfl (t_call (vs := [lv]) (cs := []) [⟨0, false⟩] rfl Try.call18 rfl (ints_p lv l (by first | omega | (simp; done)) hn (by omega)) (shows_cons 0 false rfl views_ro shows_nil) (.inl rfl)) ?_
        rintro v6 _ ⟨_, rfl, rfl⟩
        refine ops_y (wn rfl) rfl (y_move rfl) ?_
        refine ops_t (wn rfl) rfl (t_call (vs := [xv]) (cs := []) [⟨1, false⟩] rfl Try.call20 rfl (strs_p xv x (by first | omega | (simp; done)) hxn (by omega)) (shows_cons 1 false rfl views_ro shows_nil) (.inl rfl)) ?_
        rintro v7 _ ⟨_, rfl, rfl⟩
        refine ops_weak [(4, dv), (10, .bool false), (38, v4), (40, v5), (42, v6), (44, v7)] [0, 1, 2, 3, 4, 5, 6] [ro lv 1 (i64c l), ro xv 1 (strc x), ro dv 16 (arrc d), row v4 1 (u8c (encI n)), row v5 1 (u8c (encS s)), row v6 1 (u8c (encL encI l)), row v7 1 (u8c (encL encS x))] (vcons rfl (vcons rfl (vcons rfl (vcons rfl (vcons rfl (vcons rfl (vnil))))))) (by decide) rfl ?_
        refine ops_y (wn rfl) rfl (y_move rfl) ?_
        refine ops_t (wn rfl) rfl (t_call (vs := [dv]) (cs := []) [⟨2, false⟩] rfl Try.call22 rfl (digs_p dv d (by first | omega | (simp; done)) hd (by omega)) (shows_cons 2 false rfl views_ro shows_nil) (.inl rfl)) ?_
        rintro v8 _ ⟨_, rfl, rfl⟩
        refine ops_isslice 3 rfl reads_row (fun hs10 => ?_)
        refine ops_isslice 4 rfl reads_row (fun hs11 => ?_)
        refine ops_isslice 5 rfl reads_row (fun hs12 => ?_)
        refine ops_isslice 6 rfl reads_row (fun hs13 => ?_)
        refine ops_isslice 7 rfl reads_row (fun hs14 => ?_)
        refine ops_t (wn rfl) rfl (t_lit [v4, v5, v6, v7, v8] Try.runUnderlying54 Try.sizeOf28 Try.zeroValue28 rfl (by decide) (by decide) rfl (by simp [hs10, hs11, hs12, hs13, hs14])) ?_
        rintro v9 _ ⟨rfl, _⟩
        refine ops_turn (retell 8 (g := row v9 1 (valc [v4, v5, v6, v7, v8])) rfl (by simp [valc, hs10, hs11, hs12, hs13, hs14])) ?_
        refine ops_y (wn rfl) rfl ((y_len 8 rfl Try.runUnderlying54 rfl rfl reads_row).to (congrArg (fun n : Nat => Value.int .i64 (n : Int)) (valc_len _))) ?_
        refine ops_as 48 _ (.int .i64 5) rfl rfl ?_
        refine ops_y (wn rfl) rfl (y_move rfl) ?_
        refine ops_nil ?_
        refine goes_code ?_
        refine run_block ?_
        refine run_times 5 ?_
        refine run_seq ?_
        refine run_region' ?_
        refine ops_y (wn rfl) rfl (OpY.to (v' := .bool true) (y_lss rfl rfl) rfl) ?_
        refine ops_nil ?_
        refine goes_code ?_
        refine run_seq ?_
        refine run_cond_t rfl ?_
        refine run_skip ?_
        refine goes_code ?_
        refine run_seq ?_
        refine run_block ?_
        refine run_seq ?_
        refine run_region' ?_
        refine ops_y (wn rfl) rfl (y_move rfl) ?_
        refine ops_y (wn rfl) rfl (y_indexAddr (n := 0) 8 Try.runUnderlying54 Try.sizeOf28 rfl rfl rfl reads_row (by simp [valc])) ?_
        refine ops_y (wn rfl) rfl (y_load_elem (i := 0) 8 Try.isAgg28 rfl rfl reads_row (valc_get (by simp))) ?_
        refine ops_y (wn rfl) rfl (y_assign rfl) ?_
        refine ops_y (wn rfl) rfl (y_assign rfl) ?_
        refine ops_nil ?_
        refine goes_code ?_
        refine run_seq ?_
        refine run_weak [(10, .bool false), (47, v9), (48, .int .i64 5), (49, .int .i64 0), (50, .bool true), (51, .int .i64 0), (52, elemP v9 (0 * 1)), (53, v4), (11, .int .i64 0), (12, v4)] [0, 1, 2, 3, 4, 5, 6, 7, 8] [ro lv 1 (i64c l), ro xv 1 (strc x), ro dv 16 (arrc d), row v4 1 (u8c (encI n)), row v5 1 (u8c (encS s)), row v6 1 (u8c (encL encI l)), row v7 1 (u8c (encL encS x)), row v8 1 (u8c (encL (fun d => d) d)), row v9 1 (valc [v4, v5, v6, v7, v8])] (vcons rfl (vcons rfl (vcons rfl (vcons rfl (vcons rfl (vcons rfl (vcons rfl (vcons rfl (vcons rfl (vcons rfl (vnil))))))))))) (by decide) rfl ?_
        refine run_region' ?_
        refine ops_y (wn rfl) rfl (y_move rfl) ?_
        refine ops_y (wn rfl) rfl ((y_len 3 rfl Try.runUnderlying28 rfl rfl reads_row).to (congrArg (fun n : Nat => Value.int .i64 (n : Int)) (u8c_len _))) ?_
        refine ops_y (wn rfl) rfl ((y_min rfl rfl).to (v_min _ _ _)) ?_
        refine ops_y (wn rfl) rfl (y_move rfl) ?_
        refine ops_nil ?_
        refine goes_code ?_
        refine run_block ?_
        refine run_turn (Go.Abs.freeze 3 rfl) ?_
        refine run_turn (Go.Abs.freeze 4 rfl) ?_
        refine run_turn (Go.Abs.freeze 5 rfl) ?_
        refine run_turn (Go.Abs.freeze 6 rfl) ?_
        refine run_turn (Go.Abs.freeze 7 rfl) ?_
        refine run_turn (Go.Abs.freeze 8 rfl) ?_
        refine run_loop law_short_S1 (fun σ => [(11, .int .i64 0), (12, v4), (47, v9), (48, .int .i64 5), (49, .int .i64 0), (56, .int .i64 (((min ((encI n).length) 500) : Nat) : Int)), (57, .int .i64 ((σ.k : Nat) : Int))]) (fun σ => [ro lv 1 (i64c l), ro xv 1 (strc x), ro dv 16 (arrc d), ro v4 1 (u8c (encI n)), ro v5 1 (u8c (encS s)), ro v6 1 (u8c (encL encI l)), ro v7 1 (u8c (encL encS x)), ro v8 1 (u8c (encL (fun d => d) d)), ro v9 1 (valc [v4, v5, v6, v7, v8])]) (fun σ => True) (fun σ => (encI n).length - σ.k) [0, 1, 2, 3, 4, 5, 6, 7, 8] ⟨0⟩ ?_ (by decide) ?_ ?_ ?_
        · exact (vcons rfl (vcons rfl (vcons rfl (vcons rfl (vcons rfl (vcons rfl (vcons rfl (vnil))))))))
        · rfl
        · try dsimp only
          all_goals trivial
        rintro ⟨k⟩ hinv L15 hL16
        dsimp only at *
        refine run_seq ?_
        refine run_region' ?_
        refine ops_y (wn rfl) rfl (y_lss rfl rfl) ?_
        refine ops_nil ?_
        refine goes_code ?_
        refine run_seq ?_
        refine run_cond _ rfl (fun hc17 => ?_) (fun hc17 => ?_)
        · -- B4t
          replace hc17 := of_decide_eq_true hc17
          refine run_skip ?_
          refine goes_code ?_
          refine run_seq ?_
          refine run_block ?_
          refine run_seq ?_
          refine run_region' ?_
          refine ops_y (wn rfl) rfl (y_move rfl) ?_
          refine ops_y (wn rfl) rfl (y_assign rfl) ?_
          refine ops_nil ?_
          refine goes_code ?_
          refine run_seq ?_
          refine run_region' ?_
          refine ops_y (wn rfl) rfl (y_assign rfl) ?_
          refine ops_nil ?_
          refine goes_code ?_
          refine run_seq ?_
          refine run_seq ?_
          refine run_region' ?_
          refine ops_y (wn rfl) rfl (y_move rfl) ?_
          refine ops_nil ?_
          refine goes_code ?_
          refine run_block ?_
          refine run_seq ?_
          refine run_region' ?_
          refine ops_y (wn rfl) rfl (OpY.to (v' := .bool true) (y_eql rfl rfl) rfl) ?_
          refine ops_y (wn rfl) rfl (y_assign rfl) ?_
          refine ops_nil ?_
          refine goes_code ?_
          refine run_cond_t rfl ?_
          refine run_region' ?_
          refine ops_y (wn rfl) rfl (y_move rfl) ?_
          refine ops_y (wn rfl) rfl (y_move rfl) ?_
          refine ops_t (wn rfl) rfl (t_slice (l := 0) (r := k) 3 Try.runUnderlying28 Try.sizeOf5 rfl rfl bd0 (bd1 rfl) (by omega) (by rw [u8c_len]; omega)) ?_
          rintro v18 _ rfl
          refine ops_turn (retell 9 (g := ro v18 1 (u8c ((encI n).take k))) rfl (by simp [List.map_take, List.map_drop, u8c])) ?_
          have hsh := getI_short h1 h2 (j := k) (by omega)
          refine ops_t (wn rfl) rfl (t_call (vs := [v18]) (cs := []) [⟨9, false⟩] rfl Try.call24 rfl (getInt_p v18 _ (by first | omega | (simp only [List.length_drop, List.length_take, List.length_append]; omega) | (simp; done))) (shows_cons 9 false rfl views_ro shows_nil) (.inl rfl)) ?_
          rintro _ _ ⟨_, ⟨rfl, rfl⟩, rfl⟩
          have hg19 := getI_any ((encI n).take k)
          refine ops_y (wn rfl) rfl (y_move rfl) ?_
          refine ops_y (wn rfl) rfl (y_extract rfl rfl) ?_
          refine ops_y (wn rfl) rfl (y_extract rfl rfl) ?_
          refine ops_y (wn rfl) rfl (OpY.to (v' := .int .i64 10) (y_extract rfl rfl) (congrArg (fun n : Int => Value.int .i64 n) (by rw [hsh]; rfl))) ?_
          refine ops_y (wn rfl) rfl (y_assign rfl) ?_
          refine ops_nil ?_
          refine goes_blk ?_
          refine goes_code ?_
          refine run_seq ?_
          refine run_weak [(11, .int .i64 0), (12, v4), (47, v9), (48, .int .i64 5), (49, .int .i64 0), (56, .int .i64 (((min ((encI n).length) 500) : Nat) : Int)), (57, .int .i64 ((k : Nat) : Int)), (58, .bool (decide (((k : Nat) : Int) < (((min ((encI n).length) 500) : Nat) : Int)))), (59, .int .i64 ((k : Nat) : Int)), (13, .int .i64 ((k : Nat) : Int)), (14, .int .i64 10), (60, .int .i64 0), (70, .bool true), (69, .bool true), (72, v4), (73, .int .i64 ((k : Nat) : Int)), (74, v18), (75, .tuple #[.int .i64 ((getI ((encI n).take k)).1), .int .i64 (((getI ((encI n).take k)).2.1 : Nat) : Int), .int .i64 (((getI ((encI n).take k)).2.2 : Nat) : Int)]), (71, .tuple #[.int .i64 ((getI ((encI n).take k)).1), .int .i64 (((getI ((encI n).take k)).2.1 : Nat) : Int), .int .i64 (((getI ((encI n).take k)).2.2 : Nat) : Int)]), (78, .int .i64 10)] [0, 1, 2, 3, 4, 5, 6, 7, 8, 9] [ro lv 1 (i64c l), ro xv 1 (strc x), ro dv 16 (arrc d), ro v4 1 (u8c (encI n)), ro v5 1 (u8c (encS s)), ro v6 1 (u8c (encL encI l)), ro v7 1 (u8c (encL encS x)), ro v8 1 (u8c (encL (fun d => d) d)), ro v9 1 (valc [v4, v5, v6, v7, v8]), ro v18 1 (u8c ((encI n).take k))] (vcons rfl (vcons rfl (vcons rfl (vcons rfl (vcons rfl (vcons rfl (vcons rfl (vcons rfl (vcons rfl (vcons rfl (vcons rfl (vcons rfl (vcons rfl (vcons rfl (vcons rfl (vcons rfl (vcons rfl (vcons rfl (vcons rfl (vcons rfl (vnil))))))))))))))))))))) (by decide) rfl ?_
          refine run_region' ?_
          refine ops_y (wn rfl) rfl (y_move rfl) ?_
          refine ops_y (wn rfl) rfl (OpY.to (v' := .bool false) (y_neq rfl rfl) rfl) ?_
          refine ops_nil ?_
          refine goes_code ?_
          refine run_cond_f rfl ?_
          refine run_skip ?_
          refine goes_blk ?_
          refine goes_code ?_
          refine run_region' ?_
          refine ops_y (wn rfl) rfl ((y_add rfl rfl).to (v64n (a := k) (b := 1) (by omega))) ?_
          refine ops_y (wn rfl) rfl (y_move rfl) ?_
          refine ops_nil ?_
          refine goes_loop hL16 ⟨k + 1⟩ [0, 1, 2, 3, 4, 5, 6, 7, 8] ?_ (by decide) ?_ ?_ ?_
          · exact (vcons rfl (vcons rfl (vcons rfl (vcons rfl (vcons rfl (vcons rfl (vcons rfl (vnil))))))))
          · rfl
          · try dsimp only
            all_goals trivial
          · try dsimp only
            omega
        · -- B4f
          replace hc17 := of_decide_eq_false hc17
          refine run_exit _ rfl ?_
          refine goes_blk ?_
          refine goes_code ?_
          refine run_region' ?_
          refine ops_y (wn rfl) rfl (OpY.to (v' := .int .i64 1) (y_add rfl rfl) rfl) ?_
          refine ops_y (wn rfl) rfl (y_move rfl) ?_
          refine ops_nil ?_
          refine goes_times ?_
          refine run_seq ?_
          refine run_region' ?_
          refine ops_y (wn rfl) rfl (OpY.to (v' := .bool true) (y_lss rfl rfl) rfl) ?_
          refine ops_nil ?_
          refine goes_code ?_
          refine run_seq ?_
          refine run_cond_t rfl ?_
          refine run_skip ?_
          refine goes_code ?_
          refine run_seq ?_
          refine run_block ?_
          refine run_seq ?_
          refine run_region' ?_
          refine ops_y (wn rfl) rfl (y_move rfl) ?_
          refine ops_y (wn rfl) rfl (y_indexAddr (n := 1) 8 Try.runUnderlying54 Try.sizeOf28 rfl rfl rfl reads_ro (by simp [valc])) ?_
          refine ops_y (wn rfl) rfl (y_load_elem (i := 1) 8 Try.isAgg28 rfl rfl reads_ro (valc_get (by simp))) ?_
          refine ops_y (wn rfl) rfl (y_assign rfl) ?_
          refine ops_y (wn rfl) rfl (y_assign rfl) ?_
          refine ops_nil ?_
          refine goes_code ?_
          refine run_seq ?_
          refine run_region' ?_
          refine ops_y (wn rfl) rfl (y_move rfl) ?_
          refine ops_y (wn rfl) rfl ((y_len 4 rfl Try.runUnderlying28 rfl rfl reads_ro).to (congrArg (fun n : Nat => Value.int .i64 (n : Int)) (u8c_len _))) ?_
          refine ops_y (wn rfl) rfl ((y_min rfl rfl).to (v_min _ _ _)) ?_
          refine ops_y (wn rfl) rfl (y_move rfl) ?_
          refine ops_nil ?_
          refine goes_code ?_
          refine run_block ?_
          refine run_loop law_short_S1 (fun σ => [(11, .int .i64 1), (12, v5), (47, v9), (48, .int .i64 5), (49, .int .i64 1), (56, .int .i64 (((min ((encS s).length) 500) : Nat) : Int)), (57, .int .i64 ((σ.k : Nat) : Int))]) (fun σ => [ro lv 1 (i64c l), ro xv 1 (strc x), ro dv 16 (arrc d), ro v4 1 (u8c (encI n)), ro v5 1 (u8c (encS s)), ro v6 1 (u8c (encL encI l)), ro v7 1 (u8c (encL encS x)), ro v8 1 (u8c (encL (fun d => d) d)), ro v9 1 (valc [v4, v5, v6, v7, v8])]) (fun σ => True) (fun σ => (encS s).length - σ.k) [0, 1, 2, 3, 4, 5, 6, 7, 8] ⟨0⟩ ?_ (by decide) ?_ ?_ ?_
          · exact (vcons rfl (vcons rfl (vcons rfl (vcons rfl (vcons rfl (vcons rfl (vcons rfl (vnil))))))))
          · rfl
          · try dsimp only
            all_goals trivial
          rintro ⟨k⟩ hinv L20 hL21
          dsimp only at *
          refine run_seq ?_
          refine run_region' ?_
          refine ops_y (wn rfl) rfl (y_lss rfl rfl) ?_
          refine ops_nil ?_
          refine goes_code ?_
          refine run_seq ?_
          refine run_cond _ rfl (fun hc22 => ?_) (fun hc22 => ?_)
          · -- B5t
            replace hc22 := of_decide_eq_true hc22
            refine run_skip ?_
            refine goes_code ?_
            refine run_seq ?_
            refine run_block ?_
            refine run_seq ?_
            refine run_region' ?_
            refine ops_y (wn rfl) rfl (y_move rfl) ?_
            refine ops_y (wn rfl) rfl (y_assign rfl) ?_
            refine ops_nil ?_
            refine goes_code ?_
            refine run_seq ?_
            refine run_region' ?_
            refine ops_y (wn rfl) rfl (y_assign rfl) ?_
            refine ops_nil ?_
            refine goes_code ?_
            refine run_seq ?_
            refine run_seq ?_
            refine run_region' ?_
            refine ops_y (wn rfl) rfl (y_move rfl) ?_
            refine ops_nil ?_
            refine goes_code ?_
            refine run_block ?_
            refine run_seq ?_
            refine run_region' ?_
            refine ops_y (wn rfl) rfl (OpY.to (v' := .bool false) (y_eql rfl rfl) rfl) ?_
            refine ops_y (wn rfl) rfl (y_assign rfl) ?_
            refine ops_nil ?_
            refine goes_code ?_
            refine run_cond_f rfl ?_
            refine run_seq ?_
            refine run_region' ?_
            refine ops_y (wn rfl) rfl (OpY.to (v' := .bool true) (y_eql rfl rfl) rfl) ?_
            refine ops_y (wn rfl) rfl (y_assign rfl) ?_
            refine ops_nil ?_
            refine goes_code ?_
            refine run_cond_t rfl ?_
            refine run_region' ?_
            refine ops_y (wn rfl) rfl (y_move rfl) ?_
            refine ops_y (wn rfl) rfl (y_move rfl) ?_
            refine ops_t (wn rfl) rfl (t_slice (l := 0) (r := k) 4 Try.runUnderlying28 Try.sizeOf5 rfl rfl bd0 (bd1 rfl) (by omega) (by rw [u8c_len]; omega)) ?_
            rintro v23 _ rfl
            refine ops_turn (retell 9 (g := ro v23 1 (u8c ((encS s).take k))) rfl (by simp [List.map_take, List.map_drop, u8c])) ?_
            have hsh := getS_short (s := s) (by omega) (j := k) (by omega)
            refine ops_t (wn rfl) rfl (t_call (vs := [v23]) (cs := []) [⟨9, false⟩] rfl Try.call26 rfl (getS_p v23 _ (by first | omega | (simp only [List.length_drop, List.length_take, List.length_append]; omega) | (simp; done))) (shows_cons 9 false rfl views_ro shows_nil) (.inl rfl)) ?_
            rintro _ _ ⟨_, ⟨rfl, rfl⟩, rfl⟩
            have hg24 := getS_any ((encS s).take k)
            refine ops_y (wn rfl) rfl (y_move rfl) ?_
            refine ops_y (wn rfl) rfl (y_extract rfl rfl) ?_
            refine ops_y (wn rfl) rfl (y_extract rfl rfl) ?_
            refine ops_weak [(11, .int .i64 1), (12, v5), (47, v9), (48, .int .i64 5), (49, .int .i64 1), (56, .int .i64 (((min ((encS s).length) 500) : Nat) : Int)), (57, .int .i64 ((k : Nat) : Int)), (58, .bool (decide (((k : Nat) : Int) < (((min ((encS s).length) 500) : Nat) : Int)))), (59, .int .i64 ((k : Nat) : Int)), (13, .int .i64 ((k : Nat) : Int)), (14, .int .i64 0), (60, .int .i64 1), (70, .bool false), (69, .bool false), (80, .bool true), (79, .bool true), (82, v5), (83, .int .i64 ((k : Nat) : Int)), (84, v23), (85, .tuple #[.string (bs ((getS ((encS s).take k)).1)), .int .i64 (((getS ((encS s).take k)).2.1 : Nat) : Int), .int .i64 (((getS ((encS s).take k)).2.2 : Nat) : Int)]), (81, .tuple #[.string (bs ((getS ((encS s).take k)).1)), .int .i64 (((getS ((encS s).take k)).2.1 : Nat) : Int), .int .i64 (((getS ((encS s).take k)).2.2 : Nat) : Int)])] [0, 1, 2, 3, 4, 5, 6, 7, 8, 9] [ro lv 1 (i64c l), ro xv 1 (strc x), ro dv 16 (arrc d), ro v4 1 (u8c (encI n)), ro v5 1 (u8c (encS s)), ro v6 1 (u8c (encL encI l)), ro v7 1 (u8c (encL encS x)), ro v8 1 (u8c (encL (fun d => d) d)), ro v9 1 (valc [v4, v5, v6, v7, v8]), ro v23 1 (u8c ((encS s).take k))] (vcons rfl (vcons rfl (vcons rfl (vcons rfl (vcons rfl (vcons rfl (vcons rfl (vcons rfl (vcons rfl (vcons rfl (vcons rfl (vcons rfl (vcons rfl (vcons rfl (vcons rfl (vcons rfl (vcons rfl (vcons rfl (vcons rfl (vcons rfl (vcons rfl (vnil)))))))))))))))))))))) (by decide) rfl ?_
            refine ops_y (wn rfl) rfl (OpY.to (v' := .int .i64 10) (y_extract rfl rfl) (congrArg (fun n : Int => Value.int .i64 n) (by rw [hsh]; rfl))) ?_
            refine ops_y (wn rfl) rfl (y_assign rfl) ?_
            refine ops_nil ?_
            refine goes_blk ?_
            refine goes_code ?_
            refine run_seq ?_
            refine run_region' ?_
            refine ops_y (wn rfl) rfl (y_move rfl) ?_
            refine ops_y (wn rfl) rfl (OpY.to (v' := .bool false) (y_neq rfl rfl) rfl) ?_
            refine ops_nil ?_
            refine goes_code ?_
            refine run_cond_f rfl ?_
            refine run_skip ?_
            refine goes_blk ?_
            refine goes_code ?_
            refine run_region' ?_
            refine ops_y (wn rfl) rfl ((y_add rfl rfl).to (v64n (a := k) (b := 1) (by omega))) ?_
            refine ops_y (wn rfl) rfl (y_move rfl) ?_
            refine ops_nil ?_
            refine goes_loop hL21 ⟨k + 1⟩ [0, 1, 2, 3, 4, 5, 6, 7, 8] ?_ (by decide) ?_ ?_ ?_
            · exact (vcons rfl (vcons rfl (vcons rfl (vcons rfl (vcons rfl (vcons rfl (vcons rfl (vnil))))))))
            · rfl
            · try dsimp only
              all_goals trivial
            · try dsimp only
              omega
          · -- B5f
            replace hc22 := of_decide_eq_false hc22
            refine run_exit _ rfl ?_
            refine goes_blk ?_
            refine goes_code ?_
            refine run_region' ?_
            refine ops_y (wn rfl) rfl (OpY.to (v' := .int .i64 2) (y_add rfl rfl) rfl) ?_
            refine ops_y (wn rfl) rfl (y_move rfl) ?_
            refine ops_nil ?_
            refine goes_times ?_
            refine run_seq ?_
            refine run_region' ?_
            refine ops_y (wn rfl) rfl (OpY.to (v' := .bool true) (y_lss rfl rfl) rfl) ?_
            refine ops_nil ?_
            refine goes_code ?_
            refine run_seq ?_
            refine run_cond_t rfl ?_
            refine run_skip ?_
            refine goes_code ?_
            refine run_seq ?_
            refine run_block ?_
            refine run_seq ?_
            refine run_region' ?_
            refine ops_y (wn rfl) rfl (y_move rfl) ?_
            refine ops_y (wn rfl) rfl (y_indexAddr (n := 2) 8 Try.runUnderlying54 Try.sizeOf28 rfl rfl rfl reads_ro (by simp [valc])) ?_
            refine ops_y (wn rfl) rfl (y_load_elem (i := 2) 8 Try.isAgg28 rfl rfl reads_ro (valc_get (by simp))) ?_
            refine ops_y (wn rfl) rfl (y_assign rfl) ?_
            refine ops_y (wn rfl) rfl (y_assign rfl) ?_
            refine ops_nil ?_
            refine goes_code ?_
            refine run_seq ?_
            refine run_region' ?_
            refine ops_y (wn rfl) rfl (y_move rfl) ?_
            refine ops_y (wn rfl) rfl ((y_len 5 rfl Try.runUnderlying28 rfl rfl reads_ro).to (congrArg (fun n : Nat => Value.int .i64 (n : Int)) (u8c_len _))) ?_
            refine ops_y (wn rfl) rfl ((y_min rfl rfl).to (v_min _ _ _)) ?_
            refine ops_y (wn rfl) rfl (y_move rfl) ?_
            refine ops_nil ?_
            refine goes_code ?_
            refine run_block ?_
            refine run_loop law_short_S1 (fun σ => [(11, .int .i64 2), (12, v6), (47, v9), (48, .int .i64 5), (49, .int .i64 2), (56, .int .i64 (((min ((encL encI l).length) 500) : Nat) : Int)), (57, .int .i64 ((σ.k : Nat) : Int))]) (fun σ => [ro lv 1 (i64c l), ro xv 1 (strc x), ro dv 16 (arrc d), ro v4 1 (u8c (encI n)), ro v5 1 (u8c (encS s)), ro v6 1 (u8c (encL encI l)), ro v7 1 (u8c (encL encS x)), ro v8 1 (u8c (encL (fun d => d) d)), ro v9 1 (valc [v4, v5, v6, v7, v8])]) (fun σ => True) (fun σ => (encL encI l).length - σ.k) [0, 1, 2, 3, 4, 5, 6, 7, 8] ⟨0⟩ ?_ (by decide) ?_ ?_ ?_
            · exact (vcons rfl (vcons rfl (vcons rfl (vcons rfl (vcons rfl (vcons rfl (vcons rfl (vnil))))))))
            · rfl
            · try dsimp only
              all_goals trivial
            rintro ⟨k⟩ hinv L25 hL26
            dsimp only at *
            refine run_seq ?_
            refine run_region' ?_
            refine ops_y (wn rfl) rfl (y_lss rfl rfl) ?_
            refine ops_nil ?_
            refine goes_code ?_
            refine run_seq ?_
            refine run_cond _ rfl (fun hc27 => ?_) (fun hc27 => ?_)
            · -- B6t
              replace hc27 := of_decide_eq_true hc27
              refine run_skip ?_
              refine goes_code ?_
              refine run_seq ?_
              refine run_block ?_
              refine run_seq ?_
              refine run_region' ?_
              refine ops_y (wn rfl) rfl (y_move rfl) ?_
              refine ops_y (wn rfl) rfl (y_assign rfl) ?_
              refine ops_nil ?_
              refine goes_code ?_
              refine run_seq ?_
              refine run_region' ?_
              refine ops_y (wn rfl) rfl (y_assign rfl) ?_
              refine ops_nil ?_
              refine goes_code ?_
              refine run_seq ?_
              refine run_seq ?_
              refine run_region' ?_
              refine ops_y (wn rfl) rfl (y_move rfl) ?_
              refine ops_nil ?_
              refine goes_code ?_
              refine run_block ?_
              refine run_seq ?_
              refine run_region' ?_
              refine ops_y (wn rfl) rfl (OpY.to (v' := .bool false) (y_eql rfl rfl) rfl) ?_
              refine ops_y (wn rfl) rfl (y_assign rfl) ?_
              refine ops_nil ?_
              refine goes_code ?_
              refine run_cond_f rfl ?_
              refine run_seq ?_
              refine run_region' ?_
              refine ops_y (wn rfl) rfl (OpY.to (v' := .bool false) (y_eql rfl rfl) rfl) ?_
              refine ops_y (wn rfl) rfl (y_assign rfl) ?_
              refine ops_nil ?_
              refine goes_code ?_
              refine run_cond_f rfl ?_
              refine run_seq ?_
              refine run_region' ?_
              refine ops_y (wn rfl) rfl (OpY.to (v' := .bool true) (y_eql rfl rfl) rfl) ?_
              refine ops_y (wn rfl) rfl (y_assign rfl) ?_
              refine ops_nil ?_
              refine goes_code ?_
              refine run_cond_t rfl ?_
              refine run_weak [(11, .int .i64 2), (12, v6), (47, v9), (48, .int .i64 5), (49, .int .i64 2), (56, .int .i64 (((min ((encL encI l).length) 500) : Nat) : Int)), (57, .int .i64 ((k : Nat) : Int)), (58, .bool (decide (((k : Nat) : Int) < (((min ((encL encI l).length) 500) : Nat) : Int)))), (59, .int .i64 ((k : Nat) : Int)), (13, .int .i64 ((k : Nat) : Int)), (14, .int .i64 0), (60, .int .i64 2), (70, .bool false), (69, .bool false), (80, .bool false), (79, .bool false), (90, .bool true), (89, .bool true)] [0, 1, 2, 3, 4, 5, 6, 7, 8] [ro lv 1 (i64c l), ro xv 1 (strc x), ro dv 16 (arrc d), ro v4 1 (u8c (encI n)), ro v5 1 (u8c (encS s)), ro v6 1 (u8c (encL encI l)), ro v7 1 (u8c (encL encS x)), ro v8 1 (u8c (encL (fun d => d) d)), ro v9 1 (valc [v4, v5, v6, v7, v8])] (vcons rfl (vcons rfl (vcons rfl (vcons rfl (vcons rfl (vcons rfl (vcons rfl (vcons rfl (vcons rfl (vcons rfl (vcons rfl (vcons rfl (vcons rfl (vcons rfl (vcons rfl (vcons rfl (vcons rfl (vcons rfl (vnil))))))))))))))))))) (by decide) rfl ?_
              refine run_region' ?_
              refine ops_y (wn rfl) rfl (y_move rfl) ?_
              refine ops_y (wn rfl) rfl (y_move rfl) ?_
              refine ops_t (wn rfl) rfl (t_slice (l := 0) (r := k) 5 Try.runUnderlying28 Try.sizeOf5 rfl rfl bd0 (bd1 rfl) (by omega) (by rw [u8c_len]; omega)) ?_
              rintro v28 _ rfl
              refine ops_turn (retell 9 (g := ro v28 1 (u8c ((encL encI l).take k))) rfl (by simp [List.map_take, List.map_drop, u8c])) ?_
              have hsh := getLI_short l (by omega) hn (j := k) (by omega)
              refine ops_t (wn rfl) rfl (t_call (vs := [v28]) (cs := []) [⟨9, false⟩] rfl Try.call28 rfl (getInts_p v28 _ (by first | omega | (simp only [List.length_drop, List.length_take, List.length_append]; omega) | (simp; done))) (shows_cons 9 false rfl views_ro shows_nil) (.inl rfl)) ?_
              rintro _ _ ⟨_, ⟨v30, rfl, rfl⟩, rfl⟩
              have hd29 := getLI_any ((encL encI l).take k)
              refine ops_y (wn rfl) rfl (y_move rfl) ?_
              refine ops_y (wn rfl) rfl (y_extract rfl rfl) ?_
              refine ops_y (wn rfl) rfl (y_extract rfl rfl) ?_
              refine ops_y (wn rfl) rfl (OpY.to (v' := .int .i64 10) (y_extract rfl rfl) (congrArg (fun n : Int => Value.int .i64 n) (by rw [hsh]; rfl))) ?_
              refine ops_y (wn rfl) rfl (y_assign rfl) ?_
              refine ops_nil ?_
              refine goes_blk ?_
              refine goes_code ?_
              refine run_seq ?_
              refine run_region' ?_
              refine ops_y (wn rfl) rfl (y_move rfl) ?_
              refine ops_y (wn rfl) rfl (OpY.to (v' := .bool false) (y_neq rfl rfl) rfl) ?_
              refine ops_nil ?_
              refine goes_code ?_
              refine run_cond_f rfl ?_
              refine run_skip ?_
              refine goes_blk ?_
              refine goes_code ?_
              refine run_weak [(11, .int .i64 2), (12, v6), (47, v9), (48, .int .i64 5), (49, .int .i64 2), (56, .int .i64 (((min ((encL encI l).length) 500) : Nat) : Int)), (57, .int .i64 ((k : Nat) : Int)), (58, .bool (decide (((k : Nat) : Int) < (((min ((encL encI l).length) 500) : Nat) : Int)))), (59, .int .i64 ((k : Nat) : Int)), (13, .int .i64 ((k : Nat) : Int)), (14, .int .i64 10), (60, .int .i64 2), (70, .bool false), (69, .bool false), (80, .bool false), (79, .bool false), (90, .bool true), (89, .bool true), (92, v6), (93, .int .i64 ((k : Nat) : Int)), (94, v28), (95, .tuple #[v30, .int .i64 (((getL getI 1 ((encL encI l).take k)).2.1 : Nat) : Int), .int .i64 (((getL getI 1 ((encL encI l).take k)).2.2 : Nat) : Int)]), (91, .tuple #[v30, .int .i64 (((getL getI 1 ((encL encI l).take k)).2.1 : Nat) : Int), .int .i64 (((getL getI 1 ((encL encI l).take k)).2.2 : Nat) : Int)]), (98, .int .i64 10), (109, .int .i64 10), (110, .bool false)] [0, 1, 2, 3, 4, 5, 6, 7, 8, 9, 10] [ro lv 1 (i64c l), ro xv 1 (strc x), ro dv 16 (arrc d), ro v4 1 (u8c (encI n)), ro v5 1 (u8c (encS s)), ro v6 1 (u8c (encL encI l)), ro v7 1 (u8c (encL encS x)), ro v8 1 (u8c (encL (fun d => d) d)), ro v9 1 (valc [v4, v5, v6, v7, v8]), ro v28 1 (u8c ((encL encI l).take k)), row v30 1 (i64c ((getL getI 1 ((encL encI l).take k)).1))] (vcons rfl (vcons rfl (vcons rfl (vcons rfl (vcons rfl (vcons rfl (vcons rfl (vcons rfl (vcons rfl (vcons rfl (vcons rfl (vcons rfl (vcons rfl (vcons rfl (vcons rfl (vcons rfl (vcons rfl (vcons rfl (vcons rfl (vcons rfl (vcons rfl (vcons rfl (vcons rfl (vcons rfl (vcons rfl (vcons rfl (vnil))))))))))))))))))))))))))) (by decide) rfl ?_
              refine run_region' ?_
              refine ops_y (wn rfl) rfl ((y_add rfl rfl).to (v64n (a := k) (b := 1) (by omega))) ?_
              refine ops_y (wn rfl) rfl (y_move rfl) ?_
              refine ops_nil ?_
              refine goes_loop hL26 ⟨k + 1⟩ [0, 1, 2, 3, 4, 5, 6, 7, 8] ?_ (by decide) ?_ ?_ ?_
              · exact (vcons rfl (vcons rfl (vcons rfl (vcons rfl (vcons rfl (vcons rfl (vcons rfl (vnil))))))))
              · rfl
              · try dsimp only
                all_goals trivial
              · try dsimp only
                omega
            · -- B6f
              replace hc27 := of_decide_eq_false hc27
              refine run_exit _ rfl ?_
              refine goes_blk ?_
              refine goes_code ?_
              refine run_region' ?_
              refine ops_y (wn rfl) rfl (OpY.to (v' := .int .i64 3) (y_add rfl rfl) rfl) ?_
              refine ops_y (wn rfl) rfl (y_move rfl) ?_
              refine ops_nil ?_
              refine goes_times ?_
              refine run_seq ?_
              refine run_region' ?_
              refine ops_y (wn rfl) rfl (OpY.to (v' := .bool true) (y_lss rfl rfl) rfl) ?_
              refine ops_nil ?_
              refine goes_code ?_
              refine run_seq ?_
              refine run_cond_t rfl ?_
              refine run_skip ?_
              refine goes_code ?_
              refine run_seq ?_
              refine run_block ?_
              refine run_seq ?_
              refine run_region' ?_
              refine ops_y (wn rfl) rfl (y_move rfl) ?_
              refine ops_y (wn rfl) rfl (y_indexAddr (n := 3) 8 Try.runUnderlying54 Try.sizeOf28 rfl rfl rfl reads_ro (by simp [valc])) ?_
              refine ops_y (wn rfl) rfl (y_load_elem (i := 3) 8 Try.isAgg28 rfl rfl reads_ro (valc_get (by simp))) ?_
              refine ops_y (wn rfl) rfl (y_assign rfl) ?_
              refine ops_y (wn rfl) rfl (y_assign rfl) ?_
              refine ops_nil ?_
              refine goes_code ?_
              refine run_seq ?_
              refine run_region' ?_
              refine ops_y (wn rfl) rfl (y_move rfl) ?_
              refine ops_y (wn rfl) rfl ((y_len 6 rfl Try.runUnderlying28 rfl rfl reads_ro).to (congrArg (fun n : Nat => Value.int .i64 (n : Int)) (u8c_len _))) ?_
              refine ops_y (wn rfl) rfl ((y_min rfl rfl).to (v_min _ _ _)) ?_
              refine ops_y (wn rfl) rfl (y_move rfl) ?_
              refine ops_nil ?_
              refine goes_code ?_
              refine run_block ?_
              refine run_loop law_short_S1 (fun σ => [(11, .int .i64 3), (12, v7), (47, v9), (48, .int .i64 5), (49, .int .i64 3), (56, .int .i64 (((min ((encL encS x).length) 500) : Nat) : Int)), (57, .int .i64 ((σ.k : Nat) : Int))]) (fun σ => [ro lv 1 (i64c l), ro xv 1 (strc x), ro dv 16 (arrc d), ro v4 1 (u8c (encI n)), ro v5 1 (u8c (encS s)), ro v6 1 (u8c (encL encI l)), ro v7 1 (u8c (encL encS x)), ro v8 1 (u8c (encL (fun d => d) d)), ro v9 1 (valc [v4, v5, v6, v7, v8])]) (fun σ => True) (fun σ => (encL encS x).length - σ.k) [0, 1, 2, 3, 4, 5, 6, 7, 8] ⟨0⟩ ?_ (by decide) ?_ ?_ ?_
              · exact (vcons rfl (vcons rfl (vcons rfl (vcons rfl (vcons rfl (vcons rfl (vcons rfl (vnil))))))))
              · rfl
              · try dsimp only
                all_goals trivial
              rintro ⟨k⟩ hinv L31 hL32
              dsimp only at *
              refine run_seq ?_
              refine run_region' ?_
              refine ops_y (wn rfl) rfl (y_lss rfl rfl) ?_
              refine ops_nil ?_
              refine goes_code ?_
              refine run_seq ?_
              refine run_cond _ rfl (fun hc33 => ?_) (fun hc33 => ?_)
              · -- B7t
                replace hc33 := of_decide_eq_true hc33
                refine run_skip ?_
                refine goes_code ?_
                refine run_seq ?_
                refine run_block ?_
                refine run_seq ?_
                refine run_region' ?_
                refine ops_y (wn rfl) rfl (y_move rfl) ?_
                refine ops_y (wn rfl) rfl (y_assign rfl) ?_
                refine ops_nil ?_
                refine goes_code ?_
                refine run_seq ?_
                refine run_region' ?_
                refine ops_y (wn rfl) rfl (y_assign rfl) ?_
                refine ops_nil ?_
                refine goes_code ?_
                refine run_seq ?_
                refine run_seq ?_
                refine run_region' ?_
                refine ops_y (wn rfl) rfl (y_move rfl) ?_
                refine ops_nil ?_
                refine goes_code ?_
                refine run_block ?_
                refine run_seq ?_
                refine run_region' ?_
                refine ops_y (wn rfl) rfl (OpY.to (v' := .bool false) (y_eql rfl rfl) rfl) ?_
                refine ops_y (wn rfl) rfl (y_assign rfl) ?_
                refine ops_nil ?_
                refine goes_code ?_
                refine run_cond_f rfl ?_
                refine run_seq ?_
                refine run_region' ?_
                refine ops_y (wn rfl) rfl (OpY.to (v' := .bool false) (y_eql rfl rfl) rfl) ?_
                refine ops_y (wn rfl) rfl (y_assign rfl) ?_
                refine ops_nil ?_
                refine goes_code ?_
                refine run_cond_f rfl ?_
                refine run_seq ?_
                refine run_region' ?_
                refine ops_y (wn rfl) rfl (OpY.to (v' := .bool false) (y_eql rfl rfl) rfl) ?_
                refine ops_y (wn rfl) rfl (y_assign rfl) ?_
                refine ops_nil ?_
                refine goes_code ?_
                refine run_cond_f rfl ?_
                refine run_seq ?_
                refine run_weak [(11, .int .i64 3), (12, v7), (47, v9), (48, .int .i64 5), (49, .int .i64 3), (56, .int .i64 (((min ((encL encS x).length) 500) : Nat) : Int)), (57, .int .i64 ((k : Nat) : Int)), (58, .bool (decide (((k : Nat) : Int) < (((min ((encL encS x).length) 500) : Nat) : Int)))), (59, .int .i64 ((k : Nat) : Int)), (13, .int .i64 ((k : Nat) : Int)), (14, .int .i64 0), (60, .int .i64 3), (70, .bool false), (69, .bool false), (80, .bool false), (79, .bool false), (90, .bool false), (89, .bool false)] [0, 1, 2, 3, 4, 5, 6, 7, 8] [ro lv 1 (i64c l), ro xv 1 (strc x), ro dv 16 (arrc d), ro v4 1 (u8c (encI n)), ro v5 1 (u8c (encS s)), ro v6 1 (u8c (encL encI l)), ro v7 1 (u8c (encL encS x)), ro v8 1 (u8c (encL (fun d => d) d)), ro v9 1 (valc [v4, v5, v6, v7, v8])] (vcons rfl (vcons rfl (vcons rfl (vcons rfl (vcons rfl (vcons rfl (vcons rfl (vcons rfl (vcons rfl (vcons rfl (vcons rfl (vcons rfl (vcons rfl (vcons rfl (vcons rfl (vcons rfl (vcons rfl (vcons rfl (vnil))))))))))))))))))) (by decide) rfl ?_
                refine run_region' ?_
                refine ops_y (wn rfl) rfl (OpY.to (v' := .bool true) (y_eql rfl rfl) rfl) ?_
                refine ops_y (wn rfl) rfl (y_assign rfl) ?_
                refine ops_nil ?_
                refine goes_code ?_
                refine run_cond_t rfl ?_
                refine run_region' ?_
                refine ops_y (wn rfl) rfl (y_move rfl) ?_
                refine ops_y (wn rfl) rfl (y_move rfl) ?_
                refine ops_t (wn rfl) rfl (t_slice (l := 0) (r := k) 6 Try.runUnderlying28 Try.sizeOf5 rfl rfl bd0 (bd1 rfl) (by omega) (by rw [u8c_len]; omega)) ?_
                rintro v34 _ rfl
                refine ops_turn (retell 9 (g := ro v34 1 (u8c ((encL encS x).take k))) rfl (by simp [List.map_take, List.map_drop, u8c])) ?_
                have hsh := getLS_short x (by omega) (fun y hy => by have := hxn y hy; omega) (j := k) (by omega)
                refine ops_t (wn rfl) rfl (t_call (vs := [v34]) (cs := []) [⟨9, false⟩] rfl Try.call31 rfl (getStrs_p v34 _ (by first | omega | (simp only [List.length_drop, List.length_take, List.length_append]; omega) | (simp; done))) (shows_cons 9 false rfl views_ro shows_nil) (.inl rfl)) ?_
                rintro _ _ ⟨_, ⟨v36, rfl, rfl⟩, rfl⟩
                have hd35 := getLS_any ((encL encS x).take k)
                refine ops_y (wn rfl) rfl (y_move rfl) ?_
                refine ops_y (wn rfl) rfl (y_extract rfl rfl) ?_
                refine ops_y (wn rfl) rfl (y_extract rfl rfl) ?_
                refine ops_y (wn rfl) rfl (OpY.to (v' := .int .i64 10) (y_extract rfl rfl) (congrArg (fun n : Int => Value.int .i64 n) (by rw [hsh]; rfl))) ?_
                refine ops_y (wn rfl) rfl (y_assign rfl) ?_
                refine ops_nil ?_
                refine goes_blk ?_
                refine goes_code ?_
                refine run_seq ?_
                refine run_weak [(11, .int .i64 3), (12, v7), (47, v9), (48, .int .i64 5), (49, .int .i64 3), (56, .int .i64 (((min ((encL encS x).length) 500) : Nat) : Int)), (57, .int .i64 ((k : Nat) : Int)), (58, .bool (decide (((k : Nat) : Int) < (((min ((encL encS x).length) 500) : Nat) : Int)))), (59, .int .i64 ((k : Nat) : Int)), (13, .int .i64 ((k : Nat) : Int)), (14, .int .i64 10), (60, .int .i64 3), (70, .bool false), (69, .bool false), (80, .bool false), (79, .bool false), (90, .bool false), (89, .bool false), (100, .bool true), (99, .bool true), (102, v7), (103, .int .i64 ((k : Nat) : Int)), (104, v34), (105, .tuple #[v36, .int .i64 (((getL getS 1 ((encL encS x).take k)).2.1 : Nat) : Int), .int .i64 (((getL getS 1 ((encL encS x).take k)).2.2 : Nat) : Int)]), (101, .tuple #[v36, .int .i64 (((getL getS 1 ((encL encS x).take k)).2.1 : Nat) : Int), .int .i64 (((getL getS 1 ((encL encS x).take k)).2.2 : Nat) : Int)]), (108, .int .i64 10)] [0, 1, 2, 3, 4, 5, 6, 7, 8, 9, 10] [ro lv 1 (i64c l), ro xv 1 (strc x), ro dv 16 (arrc d), ro v4 1 (u8c (encI n)), ro v5 1 (u8c (encS s)), ro v6 1 (u8c (encL encI l)), ro v7 1 (u8c (encL encS x)), ro v8 1 (u8c (encL (fun d => d) d)), ro v9 1 (valc [v4, v5, v6, v7, v8]), ro v34 1 (u8c ((encL encS x).take k)), row v36 1 (strc ((getL getS 1 ((encL encS x).take k)).1))] (vcons rfl (vcons rfl (vcons rfl (vcons rfl (vcons rfl (vcons rfl (vcons rfl (vcons rfl (vcons rfl (vcons rfl (vcons rfl (vcons rfl (vcons rfl (vcons rfl (vcons rfl (vcons rfl (vcons rfl (vcons rfl (vcons rfl (vcons rfl (vcons rfl (vcons rfl (vcons rfl (vcons rfl (vcons rfl (vcons rfl (vnil))))))))))))))))))))))))))) (by decide) rfl ?_
                refine run_region' ?_
                refine ops_y (wn rfl) rfl (y_move rfl) ?_
                refine ops_y (wn rfl) rfl (OpY.to (v' := .bool false) (y_neq rfl rfl) rfl) ?_
                refine ops_nil ?_
                refine goes_code ?_
                refine run_cond_f rfl ?_
                refine run_skip ?_
                refine goes_blk ?_
                refine goes_code ?_
                refine run_region' ?_
                refine ops_y (wn rfl) rfl ((y_add rfl rfl).to (v64n (a := k) (b := 1) (by omega))) ?_
                refine ops_y (wn rfl) rfl (y_move rfl) ?_
                refine ops_nil ?_
                refine goes_loop hL32 ⟨k + 1⟩ [0, 1, 2, 3, 4, 5, 6, 7, 8] ?_ (by decide) ?_ ?_ ?_
                · exact (vcons rfl (vcons rfl (vcons rfl (vcons rfl (vcons rfl (vcons rfl (vcons rfl (vnil))))))))
                · rfl
                · try dsimp only
                  all_goals trivial
                · try dsimp only
                  omega
              · -- B7f
                replace hc33 := of_decide_eq_false hc33
                refine run_exit _ rfl ?_
                refine goes_blk ?_
                refine goes_code ?_
                refine run_region' ?_
                refine ops_y (wn rfl) rfl (OpY.to (v' := .int .i64 4) (y_add rfl rfl) rfl) ?_
                refine ops_y (wn rfl) rfl (y_move rfl) ?_
                refine ops_nil ?_
                refine goes_times ?_
                refine run_seq ?_
                refine run_region' ?_
                refine ops_y (wn rfl) rfl (OpY.to (v' := .bool true) (y_lss rfl rfl) rfl) ?_
                refine ops_nil ?_
                refine goes_code ?_
                refine run_seq ?_
                refine run_cond_t rfl ?_
                refine run_skip ?_
                refine goes_code ?_
                refine run_seq ?_
                refine run_block ?_
                refine run_seq ?_
                refine run_region' ?_
                refine ops_y (wn rfl) rfl (y_move rfl) ?_
                refine ops_y (wn rfl) rfl (y_indexAddr (n := 4) 8 Try.runUnderlying54 Try.sizeOf28 rfl rfl rfl reads_ro (by simp [valc])) ?_
                refine ops_y (wn rfl) rfl (y_load_elem (i := 4) 8 Try.isAgg28 rfl rfl reads_ro (valc_get (by simp))) ?_
                refine ops_y (wn rfl) rfl (y_assign rfl) ?_
                refine ops_y (wn rfl) rfl (y_assign rfl) ?_
                refine ops_nil ?_
                refine goes_code ?_
                refine run_seq ?_
                refine run_region' ?_
                refine ops_y (wn rfl) rfl (y_move rfl) ?_
                refine ops_y (wn rfl) rfl ((y_len 7 rfl Try.runUnderlying28 rfl rfl reads_ro).to (congrArg (fun n : Nat => Value.int .i64 (n : Int)) (u8c_len _))) ?_
                refine ops_y (wn rfl) rfl ((y_min rfl rfl).to (v_min _ _ _)) ?_
                refine ops_y (wn rfl) rfl (y_move rfl) ?_
                refine ops_nil ?_
                refine goes_code ?_
                refine run_block ?_
                refine run_loop law_short_S1 (fun σ => [(11, .int .i64 4), (12, v8), (47, v9), (48, .int .i64 5), (49, .int .i64 4), (56, .int .i64 (((min ((encL (fun d => d) d).length) 500) : Nat) : Int)), (57, .int .i64 ((σ.k : Nat) : Int))]) (fun σ => [ro lv 1 (i64c l), ro xv 1 (strc x), ro dv 16 (arrc d), ro v4 1 (u8c (encI n)), ro v5 1 (u8c (encS s)), ro v6 1 (u8c (encL encI l)), ro v7 1 (u8c (encL encS x)), ro v8 1 (u8c (encL (fun d => d) d)), ro v9 1 (valc [v4, v5, v6, v7, v8])]) (fun σ => True) (fun σ => (encL (fun d => d) d).length - σ.k) [0, 1, 2, 3, 4, 5, 6, 7, 8] ⟨0⟩ ?_ (by decide) ?_ ?_ ?_
                · exact (vcons rfl (vcons rfl (vcons rfl (vcons rfl (vcons rfl (vcons rfl (vcons rfl (vnil))))))))
                · rfl
                · try dsimp only
                  all_goals trivial
                rintro ⟨k⟩ hinv L37 hL38
                dsimp only at *
                refine run_seq ?_
                refine run_region' ?_
                refine ops_y (wn rfl) rfl (y_lss rfl rfl) ?_
                refine ops_nil ?_
                refine goes_code ?_
                refine run_seq ?_
                refine run_cond _ rfl (fun hc39 => ?_) (fun hc39 => ?_)
                · -- B8t
                  replace hc39 := of_decide_eq_true hc39
                  refine run_skip ?_
                  refine goes_code ?_
                  refine run_seq ?_
                  refine run_block ?_
                  refine run_seq ?_
                  refine run_region' ?_
                  refine ops_y (wn rfl) rfl (y_move rfl) ?_
                  refine ops_y (wn rfl) rfl (y_assign rfl) ?_
                  refine ops_nil ?_
                  refine goes_code ?_
                  refine run_seq ?_
                  refine run_region' ?_
                  refine ops_y (wn rfl) rfl (y_assign rfl) ?_
                  refine ops_nil ?_
                  refine goes_code ?_
                  refine run_seq ?_
                  refine run_seq ?_
                  refine run_region' ?_
                  refine ops_y (wn rfl) rfl (y_move rfl) ?_
                  refine ops_nil ?_
                  refine goes_code ?_
                  refine run_block ?_
                  refine run_seq ?_
                  refine run_region' ?_
                  refine ops_y (wn rfl) rfl (OpY.to (v' := .bool false) (y_eql rfl rfl) rfl) ?_
                  refine ops_y (wn rfl) rfl (y_assign rfl) ?_
                  refine ops_nil ?_
                  refine goes_code ?_
                  refine run_cond_f rfl ?_
                  refine run_seq ?_
                  refine run_region' ?_
                  refine ops_y (wn rfl) rfl (OpY.to (v' := .bool false) (y_eql rfl rfl) rfl) ?_
                  refine ops_y (wn rfl) rfl (y_assign rfl) ?_
                  refine ops_nil ?_
                  refine goes_code ?_
                  refine run_cond_f rfl ?_
                  refine run_seq ?_
                  refine run_region' ?_
                  refine ops_y (wn rfl) rfl (OpY.to (v' := .bool false) (y_eql rfl rfl) rfl) ?_
                  refine ops_y (wn rfl) rfl (y_assign rfl) ?_
                  refine ops_nil ?_
                  refine goes_code ?_
                  refine run_cond_f rfl ?_
                  refine run_seq ?_
                  refine run_weak [(11, .int .i64 4), (12, v8), (47, v9), (48, .int .i64 5), (49, .int .i64 4), (56, .int .i64 (((min ((encL (fun d => d) d).length) 500) : Nat) : Int)), (57, .int .i64 ((k : Nat) : Int)), (58, .bool (decide (((k : Nat) : Int) < (((min ((encL (fun d => d) d).length) 500) : Nat) : Int)))), (59, .int .i64 ((k : Nat) : Int)), (13, .int .i64 ((k : Nat) : Int)), (14, .int .i64 0), (60, .int .i64 4), (70, .bool false), (69, .bool false), (80, .bool false), (79, .bool false), (90, .bool false), (89, .bool false)] [0, 1, 2, 3, 4, 5, 6, 7, 8] [ro lv 1 (i64c l), ro xv 1 (strc x), ro dv 16 (arrc d), ro v4 1 (u8c (encI n)), ro v5 1 (u8c (encS s)), ro v6 1 (u8c (encL encI l)), ro v7 1 (u8c (encL encS x)), ro v8 1 (u8c (encL (fun d => d) d)), ro v9 1 (valc [v4, v5, v6, v7, v8])] (vcons rfl (vcons rfl (vcons rfl (vcons rfl (vcons rfl (vcons rfl (vcons rfl (vcons rfl (vcons rfl (vcons rfl (vcons rfl (vcons rfl (vcons rfl (vcons rfl (vcons rfl (vcons rfl (vcons rfl (vcons rfl (vnil))))))))))))))))))) (by decide) rfl ?_
                  refine run_region' ?_
                  refine ops_y (wn rfl) rfl (OpY.to (v' := .bool false) (y_eql rfl rfl) rfl) ?_
                  refine ops_y (wn rfl) rfl (y_assign rfl) ?_
                  refine ops_nil ?_
                  refine goes_code ?_
                  refine run_cond_f rfl ?_
                  refine run_region' ?_
                  refine ops_y (wn rfl) rfl (y_move rfl) ?_
                  refine ops_y (wn rfl) rfl (y_move rfl) ?_
                  refine ops_t (wn rfl) rfl (t_slice (l := 0) (r := k) 7 Try.runUnderlying28 Try.sizeOf5 rfl rfl bd0 (bd1 rfl) (by omega) (by rw [u8c_len]; omega)) ?_
                  rintro v40 _ rfl
                  refine ops_turn (retell 9 (g := ro v40 1 (u8c ((encL (fun d => d) d).take k))) rfl (by simp [List.map_take, List.map_drop, u8c])) ?_
                  have hsh := getLD_short d (by omega) hd (j := k) (by omega)
                  refine ops_t (wn rfl) rfl (t_call (vs := [v40]) (cs := []) [⟨9, false⟩] rfl Try.call34 rfl (getDigs_p v40 _ (by first | omega | (simp only [List.length_drop, List.length_take, List.length_append]; omega) | (simp; done))) (shows_cons 9 false rfl views_ro shows_nil) (.inl rfl)) ?_
                  rintro _ _ ⟨_, ⟨v42, rfl, rfl⟩, rfl⟩
                  have hd41 := getLD_any ((encL (fun d => d) d).take k)
                  refine ops_y (wn rfl) rfl (y_move rfl) ?_
                  refine ops_y (wn rfl) rfl (y_extract rfl rfl) ?_
                  refine ops_y (wn rfl) rfl (y_extract rfl rfl) ?_
                  refine ops_y (wn rfl) rfl (OpY.to (v' := .int .i64 10) (y_extract rfl rfl) (congrArg (fun n : Int => Value.int .i64 n) (by rw [hsh]; rfl))) ?_
                  refine ops_y (wn rfl) rfl (y_assign rfl) ?_
                  refine ops_nil ?_
                  refine goes_blk ?_
                  refine goes_code ?_
                  refine run_seq ?_
                  refine run_weak [(11, .int .i64 4), (12, v8), (47, v9), (48, .int .i64 5), (49, .int .i64 4), (56, .int .i64 (((min ((encL (fun d => d) d).length) 500) : Nat) : Int)), (57, .int .i64 ((k : Nat) : Int)), (58, .bool (decide (((k : Nat) : Int) < (((min ((encL (fun d => d) d).length) 500) : Nat) : Int)))), (59, .int .i64 ((k : Nat) : Int)), (13, .int .i64 ((k : Nat) : Int)), (14, .int .i64 10), (60, .int .i64 4), (70, .bool false), (69, .bool false), (80, .bool false), (79, .bool false), (90, .bool false), (89, .bool false), (100, .bool false), (99, .bool false), (62, v8), (63, .int .i64 ((k : Nat) : Int)), (64, v40), (65, .tuple #[v42, .int .i64 (((getL getD 16 ((encL (fun d => d) d).take k)).2.1 : Nat) : Int), .int .i64 (((getL getD 16 ((encL (fun d => d) d).take k)).2.2 : Nat) : Int)]), (61, .tuple #[v42, .int .i64 (((getL getD 16 ((encL (fun d => d) d).take k)).2.1 : Nat) : Int), .int .i64 (((getL getD 16 ((encL (fun d => d) d).take k)).2.2 : Nat) : Int)]), (68, .int .i64 10)] [0, 1, 2, 3, 4, 5, 6, 7, 8, 9, 10] [ro lv 1 (i64c l), ro xv 1 (strc x), ro dv 16 (arrc d), ro v4 1 (u8c (encI n)), ro v5 1 (u8c (encS s)), ro v6 1 (u8c (encL encI l)), ro v7 1 (u8c (encL encS x)), ro v8 1 (u8c (encL (fun d => d) d)), ro v9 1 (valc [v4, v5, v6, v7, v8]), ro v40 1 (u8c ((encL (fun d => d) d).take k)), row v42 16 (arrc ((getL getD 16 ((encL (fun d => d) d).take k)).1))] (vcons rfl (vcons rfl (vcons rfl (vcons rfl (vcons rfl (vcons rfl (vcons rfl (vcons rfl (vcons rfl (vcons rfl (vcons rfl (vcons rfl (vcons rfl (vcons rfl (vcons rfl (vcons rfl (vcons rfl (vcons rfl (vcons rfl (vcons rfl (vcons rfl (vcons rfl (vcons rfl (vcons rfl (vcons rfl (vcons rfl (vnil))))))))))))))))))))))))))) (by decide) rfl ?_
                  refine run_region' ?_
                  refine ops_y (wn rfl) rfl (y_move rfl) ?_
                  refine ops_y (wn rfl) rfl (OpY.to (v' := .bool false) (y_neq rfl rfl) rfl) ?_
                  refine ops_nil ?_
                  refine goes_code ?_
                  refine run_cond_f rfl ?_
                  refine run_skip ?_
                  refine goes_blk ?_
                  refine goes_code ?_
                  refine run_region' ?_
                  refine ops_y (wn rfl) rfl ((y_add rfl rfl).to (v64n (a := k) (b := 1) (by omega))) ?_
                  refine ops_y (wn rfl) rfl (y_move rfl) ?_
                  refine ops_nil ?_
                  refine goes_loop hL38 ⟨k + 1⟩ [0, 1, 2, 3, 4, 5, 6, 7, 8] ?_ (by decide) ?_ ?_ ?_
                  · exact (vcons rfl (vcons rfl (vcons rfl (vcons rfl (vcons rfl (vcons rfl (vcons rfl (vnil))))))))
                  · rfl
                  · try dsimp only
                    all_goals trivial
                  · try dsimp only
                    omega
                · -- B8f
                  replace hc39 := of_decide_eq_false hc39
                  refine run_exit _ rfl ?_
                  refine goes_blk ?_
                  refine goes_code ?_
                  refine run_region' ?_
                  refine ops_y (wn rfl) rfl (OpY.to (v' := .int .i64 5) (y_add rfl rfl) rfl) ?_
                  refine ops_y (wn rfl) rfl (y_move rfl) ?_
                  refine ops_nil ?_
                  refine goes_times ?_
                  refine run_seq ?_
                  refine run_region' ?_
                  refine ops_y (wn rfl) rfl (OpY.to (v' := .bool false) (y_lss rfl rfl) rfl) ?_
                  refine ops_nil ?_
                  refine goes_code ?_
                  refine run_seq ?_
                  refine run_cond_f rfl ?_
                  refine run_exit _ rfl ?_
                  refine goes_code ?_
                  refine run_seq ?_
                  refine run_region' ?_
                  refine ops_t (wn rfl) rfl (t_call (vs := []) (cs := []) [] rfl Try.call12 rfl (sanity) shows_nil (.inl rfl)) ?_
                  rintro _ _ ⟨_, ⟨rfl, rfl⟩, rfl⟩
                  refine ops_y (wn rfl) rfl (y_assign rfl) ?_
                  refine ops_nil ?_
                  refine goes_code ?_
                  refine run_ret ?_
                  refine fin_slots [10] [.bool true] [] [] Try.results9 rfl (by decide) rfl ?_
                  dsimp only [tup]
                  exact ⟨rfl, rfl⟩

end Go.Proofs.Ytbhlfdklpihaiaa
