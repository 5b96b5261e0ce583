/-
  The walks of the lists' decoders, second part.
-/
import Derived.Test.YtbhlfdklpihaiaaWalk3
namespace Go.Proofs.Ytbhlfdklpihaiaa
open Go.Abs
set_option linter.unusedVariables false
set_option linter.unusedSimpArgs false
set_option maxRecDepth 20000

theorem getInts_p (bv : Value) (b : List UInt8) (hb : b.length ≤ 4294967296) :
    Meets Try.prog 28 [bv] [ro bv 1 (u8c b)] (fun v G => ∃ lv, v = .tuple #[lv, .int .i64 ((getL getI 1 b).2.1 : Nat), .int .i64 ((getL getI 1 b).2.2 : Nat)] ∧ G = [row lv 1 (i64c (getL getI 1 b).1)]) := by
  refine fn_of_run Try.func28 rfl Try.ntmps28 rfl (fun w0 o0 => ?_)
  refine run_seq ?_
  refine run_region' ?_
  refine ops_y (wn rfl) rfl (y_assign rfl) ?_
  refine ops_y (wn rfl) rfl (y_assign rfl) ?_
  refine ops_y (wn rfl) rfl (y_assign rfl) ?_
  refine ops_nil ?_
  refine goes_code ?_
  refine run_seq ?_
  refine run_region' ?_
  refine ops_y (wn rfl) rfl (y_move rfl) ?_
  refine ops_t (wn rfl) rfl (t_call (vs := [bv, .int .i64 1, .func (.func 24) #[] #[]]) (cs := []) [⟨0, false⟩] rfl Try.call43 rfl (getInts_g bv _ (by first | omega | (simp only [List.length_drop, List.length_take, List.length_append]; omega) | (simp; done))) (shows_cons 0 false rfl views_ro shows_nil) (.inl rfl)) ?_
  rintro _ _ ⟨_, ⟨v2, rfl, rfl⟩, rfl⟩
  have hd1 := getLI_any b
  refine ops_y (wn rfl) rfl (y_extract rfl rfl) ?_
  refine ops_y (wn rfl) rfl (y_extract rfl rfl) ?_
  refine ops_y (wn rfl) rfl (y_extract rfl rfl) ?_
  refine ops_y (wn rfl) rfl (y_assign rfl) ?_
  refine ops_y (wn rfl) rfl (y_assign rfl) ?_
  refine ops_y (wn rfl) rfl (y_assign rfl) ?_
  refine ops_nil ?_
  refine goes_code ?_
  refine run_ret ?_
  refine fin_slots [2, 3, 4] [v2, .int .i64 (((getL getI 1 b).2.1 : Nat) : Int), .int .i64 (((getL getI 1 b).2.2 : Nat) : Int)] [1] [row v2 1 (i64c ((getL getI 1 b).1))] Try.results28 rfl (by decide) rfl ?_
  dsimp only [tup]
  exact ⟨_, rfl, rfl⟩

structure getInts_r_S0 where
  i : Nat
  p : Nat
  v : Value
  o : List Int
theorem getInts_r (bv : Value) (b : List UInt8) (hb : b.length ≤ 4294967296) :
    Meets Try.prog 29 [bv] [ro bv 1 (u8c b)] (fun v G => ∃ lv, v = .tuple #[lv, .int .i64 ((getL getI 1 b).2.1 : Nat), .int .i64 ((getL getI 1 b).2.2 : Nat)] ∧ G = [row lv 1 (i64c (getL getI 1 b).1)]) := by
  refine fn_of_run Try.func29 rfl Try.ntmps29 rfl (fun w0 o0 => ?_)
  refine run_seq ?_
  refine run_region' ?_
  refine ops_y (wn rfl) rfl (y_assign rfl) ?_
  refine ops_y (wn rfl) rfl (y_assign rfl) ?_
  refine ops_y (wn rfl) rfl (y_assign rfl) ?_
  refine ops_nil ?_
  refine goes_code ?_
  refine run_seq ?_
  refine run_region' ?_
  refine ops_y (wn rfl) rfl (y_move rfl) ?_
  refine ops_t (wn rfl) rfl (t_call (vs := [bv, .int .i64 1]) (cs := []) [⟨0, false⟩] rfl Try.call44 rfl (length_r bv _ (by first | omega | (simp only [List.length_drop, List.length_take, List.length_append]; omega) | (simp; done)) 1 (by omega) (by omega)) (shows_cons 0 false rfl views_ro shows_nil) (.inl rfl)) ?_
  rintro _ _ ⟨_, ⟨rfl, rfl⟩, rfl⟩
  have hg1 := lenD_any (b := b) (least := 1) (by omega)
  refine ops_y (wn rfl) rfl (y_move rfl) ?_
  refine ops_y (wn rfl) rfl (y_extract rfl rfl) ?_
  refine ops_y (wn rfl) rfl (y_extract rfl rfl) ?_
  refine ops_y (wn rfl) rfl (y_extract rfl rfl) ?_
  refine ops_y (wn rfl) rfl (y_assign rfl) ?_
  refine ops_y (wn rfl) rfl (y_assign rfl) ?_
  refine ops_y (wn rfl) rfl (y_assign rfl) ?_
  refine ops_nil ?_
  refine goes_code ?_
  refine run_seq ?_
  refine run_seq ?_
  refine run_weak [(0, bv), (2, .slice none 0 0), (3, .int .i64 0), (4, .int .i64 0), (5, .int .i64 (((lenD b 1).1 : Nat) : Int)), (6, .int .i64 (((lenD b 1).2.1 : Nat) : Int)), (7, .int .i64 (((lenD b 1).2.2 : Nat) : Int))] [0] [ro bv 1 (u8c b)] (vcons rfl (vcons rfl (vcons rfl (vcons rfl (vcons rfl (vcons rfl (vcons rfl (vnil)))))))) (by decide) rfl ?_
  refine run_region' ?_
  refine ops_y (wn rfl) rfl (y_move rfl) ?_
  refine ops_y (wn rfl) rfl (y_neq rfl rfl) ?_
  refine ops_nil ?_
  refine goes_code ?_
  refine run_cond _ rfl (fun hc2 => ?_) (fun hc2 => ?_)
  · -- B1t
    replace hc2 := of_decide_eq_true hc2
    refine run_seq ?_
    refine run_region' ?_
    refine ops_y (wn rfl) rfl (y_move rfl) ?_
    refine ops_y (wn rfl) rfl (y_assign rfl) ?_
    refine ops_y (wn rfl) rfl (y_assign rfl) ?_
    refine ops_y (wn rfl) rfl (y_assign rfl) ?_
    refine ops_nil ?_
    refine goes_code ?_
    refine run_ret ?_
    refine fin_turn (nilrow 1) ?_
    refine fin_turn (retell 1 (g := row (.slice none 0 0) 1 (i64c [])) rfl rfl) ?_
    refine fin_slots [2, 3, 4] [(.slice none 0 0), .int .i64 0, .int .i64 (((lenD b 1).2.2 : Nat) : Int)] [1] [row (.slice none 0 0) 1 (i64c [])] Try.results29 rfl (by decide) rfl ?_
    dsimp only [tup]
    rw [getL_err (by omega)]; exact ⟨_, rfl, rfl⟩
  · -- B1f
    replace hc2 := of_decide_eq_false hc2
    refine run_skip ?_
    refine goes_code ?_
    refine run_seq ?_
    refine run_region' ?_
    refine ops_y (wn rfl) rfl (y_assign rfl) ?_
    refine ops_nil ?_
    refine goes_code ?_
    refine run_seq ?_
    refine run_seq ?_
    refine run_region' ?_
    refine ops_y (wn rfl) rfl (y_assign rfl) ?_
    refine ops_nil ?_
    refine goes_code ?_
    refine run_block ?_
    refine run_turn (nilrow 1) ?_
    refine run_turn (retell 1 (g := row (.slice none 0 0) 1 (i64c [])) rfl rfl) ?_
    refine run_loop getInts_r_S0 (fun s => [(0, bv), (5, .int .i64 (((lenD b 1).1 : Nat) : Int)), (9, .int .i64 ((s.i : Nat) : Int)), (6, .int .i64 ((s.p : Nat) : Int)), (8, s.v)]) (fun s => [ro bv 1 (u8c b), row s.v 1 (i64c s.o)]) (fun s => s.i ≤ (lenD b 1).1 ∧ s.p ≤ b.length ∧ s.o.length = s.i ∧ finN s.o s.p (getN getI ((lenD b 1).1 - s.i) (b.drop s.p)) = getL getI 1 b) (fun s => (lenD b 1).1 - s.i) [0, 1] ⟨0, (lenD b 1).2.1, .slice none 0 0, []⟩ ?_ (by decide) ?_ ?_ ?_
    · exact (vcons rfl (vcons rfl (vcons rfl (vcons rfl (vcons rfl (vnil))))))
    · rfl
    · try dsimp only
      exact ⟨by omega, by omega, rfl, getL_fin (by omega)⟩
    rintro ⟨i, p, v, o⟩ ⟨hi, hp, ho, hf⟩ L3 hL4
    dsimp only at *
    refine run_seq ?_
    refine run_seq ?_
    refine run_region' ?_
    refine ops_y (wn rfl) rfl (y_move rfl) ?_
    refine ops_y (wn rfl) rfl (y_move rfl) ?_
    refine ops_y (wn rfl) rfl (y_lss rfl rfl) ?_
    refine ops_nil ?_
    refine goes_code ?_
    refine run_cond _ rfl (fun hc5 => ?_) (fun hc5 => ?_)
    · -- B2t
      replace hc5 := of_decide_eq_true hc5
      refine run_skip ?_
      refine goes_code ?_
      refine run_seq ?_
      refine run_block ?_
      refine run_seq ?_
      refine run_region' ?_
      refine ops_y (wn rfl) rfl (y_move rfl) ?_
      refine ops_y (wn rfl) rfl (y_move rfl) ?_
      refine ops_t (wn rfl) rfl (t_slice (l := p) (r := b.length) 0 Try.runUnderlying28 Try.sizeOf5 rfl rfl (bd1 rfl) (.inl ⟨rfl, by rw [u8c_len]⟩) (by omega) (by rw [u8c_len]; omega)) ?_
      rintro v6 _ rfl
      refine ops_turn (retell 2 (g := ro v6 1 (u8c (b.drop p))) rfl (by simp [List.map_take, List.map_drop, List.take_of_length_le, u8c])) ?_
      refine ops_t (wn rfl) rfl (t_call (vs := [v6]) (cs := []) [⟨2, false⟩] rfl Try.call25 rfl (getInt_r v6 _ (by first | omega | (simp only [List.length_drop, List.length_take, List.length_append]; omega) | (simp; done))) (shows_cons 2 false rfl views_ro shows_nil) (.inl rfl)) ?_
      rintro _ _ ⟨_, ⟨rfl, rfl⟩, rfl⟩
      have hg7 := getI_any (b.drop p)
      refine ops_y (wn rfl) rfl (y_move rfl) ?_
      refine ops_y (wn rfl) rfl (y_extract rfl rfl) ?_
      refine ops_y (wn rfl) rfl (y_extract rfl rfl) ?_
      refine ops_y (wn rfl) rfl (y_extract rfl rfl) ?_
      refine ops_y (wn rfl) rfl (y_assign rfl) ?_
      refine ops_y (wn rfl) rfl (y_assign rfl) ?_
      refine ops_y (wn rfl) rfl (y_assign rfl) ?_
      refine ops_nil ?_
      refine goes_code ?_
      refine run_seq ?_
      refine run_seq ?_
      refine run_weak [(0, bv), (5, .int .i64 (((lenD b 1).1 : Nat) : Int)), (9, .int .i64 ((i : Nat) : Int)), (6, .int .i64 ((p : Nat) : Int)), (8, v), (10, .int .i64 ((getI (b.drop p)).1)), (11, .int .i64 (((getI (b.drop p)).2.1 : Nat) : Int)), (12, .int .i64 (((getI (b.drop p)).2.2 : Nat) : Int))] [0, 1] [ro bv 1 (u8c b), row v 1 (i64c o)] (vcons rfl (vcons rfl (vcons rfl (vcons rfl (vcons rfl (vcons rfl (vcons rfl (vcons rfl (vnil))))))))) (by decide) rfl ?_
      refine run_region' ?_
      refine ops_y (wn rfl) rfl (y_move rfl) ?_
      refine ops_y (wn rfl) rfl (y_neq rfl rfl) ?_
      refine ops_nil ?_
      refine goes_code ?_
      refine run_cond _ rfl (fun hc8 => ?_) (fun hc8 => ?_)
      · -- B3t
        replace hc8 := of_decide_eq_true hc8
        refine run_seq ?_
        refine run_region' ?_
        refine ops_y (wn rfl) rfl (y_move rfl) ?_
        refine ops_y (wn rfl) rfl (y_assign rfl) ?_
        refine ops_y (wn rfl) rfl (y_assign rfl) ?_
        refine ops_y (wn rfl) rfl (y_assign rfl) ?_
        refine ops_nil ?_
        refine goes_code ?_
        refine run_ret ?_
        refine fin_turn (nilrow 1) ?_
        refine fin_turn (retell 2 (g := row (.slice none 0 0) 1 (i64c [])) rfl rfl) ?_
        refine fin_slots [2, 3, 4] [(.slice none 0 0), .int .i64 0, .int .i64 (((getI (b.drop p)).2.2 : Nat) : Int)] [2] [row (.slice none 0 0) 1 (i64c [])] Try.results29 rfl (by decide) rfl ?_
        dsimp only [tup]
        rw [finN_bad (by omega) (by omega)] at hf; rw [← hf]; exact ⟨_, rfl, rfl⟩
      · -- B3f
        replace hc8 := of_decide_eq_false hc8
        refine run_skip ?_
        refine goes_code ?_
        refine run_seq ?_
        refine run_region' ?_
        refine ops_y (wn rfl) rfl (y_move rfl) ?_
        refine ops_y (wn rfl) rfl (y_move rfl) ?_
        refine ops_t (wn rfl) rfl (t_lit [.int .i64 ((getI (b.drop p)).1)] Try.runUnderlying22 Try.sizeOf3 Try.zeroValue3 rfl (by decide) (by decide) rfl (by simp [Value.cells])) ?_
        rintro v9 _ ⟨rfl, _⟩
        refine ops_turn (retell 2 (g := row v9 1 (i64c [(getI (b.drop p)).1])) rfl rfl) ?_
        refine ops_t (wn rfl) rfl (t_append (es := 1) 1 rfl Try.runUnderlying22 rfl Try.runUnderlying22 (.inr ⟨_, rfl⟩) Try.typeInfo3 rfl (by decide) Try.zeroValue3 rfl rfl rfl rfl (src_reads 2 rfl reads_row (i64c_ok _)) (by simp only [i64c_len, arrc_len, u8c_len, i64c_len, strc_len, List.length_append, List.length_cons, List.length_nil]; (show _ * 8 ≤ _); omega) (by simp only [i64c_len, arrc_len, u8c_len, i64c_len, strc_len, List.length_append, List.length_cons, List.length_nil]; unfold maxLen; omega)) ?_
        rintro v10 _ rfl
        refine ops_turn (retell 1 (g := row v10 1 (i64c (o ++ [(getI (b.drop p)).1]))) rfl (congrArg (row _ _) (i64c_append _ _))) ?_
        refine ops_y (wn rfl) rfl (y_assign rfl) ?_
        refine ops_nil ?_
        refine goes_code ?_
        refine run_region' ?_
        have hdr := @List.length_drop _ p b
        refine ops_y (wn rfl) rfl (y_move rfl) ?_
        refine ops_y (wn rfl) rfl (y_move rfl) ?_
        refine ops_y (wn rfl) rfl ((y_add rfl rfl).to (v64n (a := p) (b := ((getI (b.drop p)).2.1)) (by omega))) ?_
        refine ops_y (wn rfl) rfl (y_assign rfl) ?_
        refine ops_nil ?_
        refine goes_blk ?_
        refine goes_code ?_
        refine run_weak [(0, bv), (5, .int .i64 (((lenD b 1).1 : Nat) : Int)), (9, .int .i64 ((i : Nat) : Int)), (6, .int .i64 (((p + (getI (b.drop p)).2.1) : Nat) : Int)), (8, v10)] [0, 1] [ro bv 1 (u8c b), row v10 1 (i64c (o ++ [(getI (b.drop p)).1]))] (vcons rfl (vcons rfl (vcons rfl (vcons rfl (vcons rfl (vnil)))))) (by decide) rfl ?_
        refine run_region' ?_
        refine ops_y (wn rfl) rfl (y_move rfl) ?_
        refine ops_y (wn rfl) rfl ((y_add rfl rfl).to (v64n (a := i) (b := 1) (by omega))) ?_
        refine ops_y (wn rfl) rfl (y_assign rfl) ?_
        refine ops_nil ?_
        refine goes_loop hL4 ⟨i + 1, (p + (getI (b.drop p)).2.1), v10, (o ++ [(getI (b.drop p)).1])⟩ [0, 1] ?_ (by decide) ?_ ?_ ?_
        · exact (vcons rfl (vcons rfl (vcons rfl (vcons rfl (vcons rfl (vnil))))))
        · rfl
        · try dsimp only
          exact ⟨by omega, by simp only [List.length_drop] at *; omega, by rw [List.length_append, ho]; rfl, by rw [← hf]; exact (finN_step (one := getI) (by omega) (by omega)).symm⟩
        · try dsimp only
          omega
    · -- B2f
      replace hc5 := of_decide_eq_false hc5
      refine run_exit _ rfl ?_
      refine goes_code ?_
      refine run_seq ?_
      refine run_region' ?_
      refine ops_y (wn rfl) rfl (y_move rfl) ?_
      refine ops_y (wn rfl) rfl (y_move rfl) ?_
      refine ops_y (wn rfl) rfl (y_assign rfl) ?_
      refine ops_y (wn rfl) rfl (y_assign rfl) ?_
      refine ops_y (wn rfl) rfl (y_assign rfl) ?_
      refine ops_nil ?_
      refine goes_code ?_
      refine run_ret ?_
      refine fin_slots [2, 3, 4] [v, .int .i64 ((p : Nat) : Int), .int .i64 0] [1] [row v 1 (i64c o)] Try.results29 rfl (by decide) rfl ?_
      dsimp only [tup]
      rw [finN_end (by omega)] at hf; rw [← hf]; exact ⟨_, rfl, rfl⟩

theorem getStrs_p (bv : Value) (b : List UInt8) (hb : b.length ≤ 4294967296) :
    Meets Try.prog 31 [bv] [ro bv 1 (u8c b)] (fun v G => ∃ lv, v = .tuple #[lv, .int .i64 ((getL getS 1 b).2.1 : Nat), .int .i64 ((getL getS 1 b).2.2 : Nat)] ∧ G = [row lv 1 (strc (getL getS 1 b).1)]) := by
  refine fn_of_run Try.func31 rfl Try.ntmps31 rfl (fun w0 o0 => ?_)
  refine run_seq ?_
  refine run_region' ?_
  refine ops_y (wn rfl) rfl (y_assign rfl) ?_
  refine ops_y (wn rfl) rfl (y_assign rfl) ?_
  refine ops_y (wn rfl) rfl (y_assign rfl) ?_
  refine ops_nil ?_
  refine goes_code ?_
  refine run_seq ?_
  refine run_region' ?_
  refine ops_y (wn rfl) rfl (y_move rfl) ?_
  refine ops_t (wn rfl) rfl (t_call (vs := [bv, .int .i64 1, .func (.func 26) #[] #[]]) (cs := []) [⟨0, false⟩] rfl Try.call45 rfl (getStrs_g bv _ (by first | omega | (simp only [List.length_drop, List.length_take, List.length_append]; omega) | (simp; done))) (shows_cons 0 false rfl views_ro shows_nil) (.inl rfl)) ?_
  rintro _ _ ⟨_, ⟨v2, rfl, rfl⟩, rfl⟩
  have hd1 := getLS_any b
  refine ops_y (wn rfl) rfl (y_extract rfl rfl) ?_
  refine ops_y (wn rfl) rfl (y_extract rfl rfl) ?_
  refine ops_y (wn rfl) rfl (y_extract rfl rfl) ?_
  refine ops_y (wn rfl) rfl (y_assign rfl) ?_
  refine ops_y (wn rfl) rfl (y_assign rfl) ?_
  refine ops_y (wn rfl) rfl (y_assign rfl) ?_
  refine ops_nil ?_
  refine goes_code ?_
  refine run_ret ?_
  refine fin_slots [2, 3, 4] [v2, .int .i64 (((getL getS 1 b).2.1 : Nat) : Int), .int .i64 (((getL getS 1 b).2.2 : Nat) : Int)] [1] [row v2 1 (strc ((getL getS 1 b).1))] Try.results31 rfl (by decide) rfl ?_
  dsimp only [tup]
  exact ⟨_, rfl, rfl⟩

structure getStrs_r_S0 where
  i : Nat
  p : Nat
  v : Value
  o : List (List UInt8)
theorem getStrs_r (bv : Value) (b : List UInt8) (hb : b.length ≤ 4294967296) :
    Meets Try.prog 32 [bv] [ro bv 1 (u8c b)] (fun v G => ∃ lv, v = .tuple #[lv, .int .i64 ((getL getS 1 b).2.1 : Nat), .int .i64 ((getL getS 1 b).2.2 : Nat)] ∧ G = [row lv 1 (strc (getL getS 1 b).1)]) := by
  refine fn_of_run Try.func32 rfl Try.ntmps32 rfl (fun w0 o0 => ?_)
  refine run_seq ?_
  refine run_region' ?_
  refine ops_y (wn rfl) rfl (y_assign rfl) ?_
  refine ops_y (wn rfl) rfl (y_assign rfl) ?_
  refine ops_y (wn rfl) rfl (y_assign rfl) ?_
  refine ops_nil ?_
  refine goes_code ?_
  refine run_seq ?_
  refine run_region' ?_
  refine ops_y (wn rfl) rfl (y_move rfl) ?_
  refine ops_t (wn rfl) rfl (t_call (vs := [bv, .int .i64 1]) (cs := []) [⟨0, false⟩] rfl Try.call44 rfl (length_r bv _ (by first | omega | (simp only [List.length_drop, List.length_take, List.length_append]; omega) | (simp; done)) 1 (by omega) (by omega)) (shows_cons 0 false rfl views_ro shows_nil) (.inl rfl)) ?_
  rintro _ _ ⟨_, ⟨rfl, rfl⟩, rfl⟩
  have hg1 := lenD_any (b := b) (least := 1) (by omega)
  refine ops_y (wn rfl) rfl (y_move rfl) ?_
  refine ops_y (wn rfl) rfl (y_extract rfl rfl) ?_
  refine ops_y (wn rfl) rfl (y_extract rfl rfl) ?_
  refine ops_y (wn rfl) rfl (y_extract rfl rfl) ?_
  refine ops_y (wn rfl) rfl (y_assign rfl) ?_
  refine ops_y (wn rfl) rfl (y_assign rfl) ?_
  refine ops_y (wn rfl) rfl (y_assign rfl) ?_
  refine ops_nil ?_
  refine goes_code ?_
  refine run_seq ?_
  refine run_seq ?_
  refine run_weak [(0, bv), (2, .slice none 0 0), (3, .int .i64 0), (4, .int .i64 0), (5, .int .i64 (((lenD b 1).1 : Nat) : Int)), (6, .int .i64 (((lenD b 1).2.1 : Nat) : Int)), (7, .int .i64 (((lenD b 1).2.2 : Nat) : Int))] [0] [ro bv 1 (u8c b)] (vcons rfl (vcons rfl (vcons rfl (vcons rfl (vcons rfl (vcons rfl (vcons rfl (vnil)))))))) (by decide) rfl ?_
  refine run_region' ?_
  refine ops_y (wn rfl) rfl (y_move rfl) ?_
  refine ops_y (wn rfl) rfl (y_neq rfl rfl) ?_
  refine ops_nil ?_
  refine goes_code ?_
  refine run_cond _ rfl (fun hc2 => ?_) (fun hc2 => ?_)
  · -- B1t
    replace hc2 := of_decide_eq_true hc2
    refine run_seq ?_
    refine run_region' ?_
    refine ops_y (wn rfl) rfl (y_move rfl) ?_
    refine ops_y (wn rfl) rfl (y_assign rfl) ?_
    refine ops_y (wn rfl) rfl (y_assign rfl) ?_
    refine ops_y (wn rfl) rfl (y_assign rfl) ?_
    refine ops_nil ?_
    refine goes_code ?_
    refine run_ret ?_
    refine fin_turn (nilrow 1) ?_
    refine fin_turn (retell 1 (g := row (.slice none 0 0) 1 (strc [])) rfl rfl) ?_
    refine fin_slots [2, 3, 4] [(.slice none 0 0), .int .i64 0, .int .i64 (((lenD b 1).2.2 : Nat) : Int)] [1] [row (.slice none 0 0) 1 (strc [])] Try.results32 rfl (by decide) rfl ?_
    dsimp only [tup]
    rw [getL_err (by omega)]; exact ⟨_, rfl, rfl⟩
  · -- B1f
    replace hc2 := of_decide_eq_false hc2
    refine run_skip ?_
    refine goes_code ?_
    refine run_seq ?_
    refine run_region' ?_
    refine ops_y (wn rfl) rfl (y_assign rfl) ?_
    refine ops_nil ?_
    refine goes_code ?_
    refine run_seq ?_
    refine run_seq ?_
    refine run_region' ?_
    refine ops_y (wn rfl) rfl (y_assign rfl) ?_
    refine ops_nil ?_
    refine goes_code ?_
    refine run_block ?_
    refine run_turn (nilrow 1) ?_
    refine run_turn (retell 1 (g := row (.slice none 0 0) 1 (strc [])) rfl rfl) ?_
    refine run_loop getStrs_r_S0 (fun s => [(0, bv), (5, .int .i64 (((lenD b 1).1 : Nat) : Int)), (9, .int .i64 ((s.i : Nat) : Int)), (6, .int .i64 ((s.p : Nat) : Int)), (8, s.v)]) (fun s => [ro bv 1 (u8c b), row s.v 1 (strc s.o)]) (fun s => s.i ≤ (lenD b 1).1 ∧ s.p ≤ b.length ∧ s.o.length = s.i ∧ finN s.o s.p (getN getS ((lenD b 1).1 - s.i) (b.drop s.p)) = getL getS 1 b) (fun s => (lenD b 1).1 - s.i) [0, 1] ⟨0, (lenD b 1).2.1, .slice none 0 0, []⟩ ?_ (by decide) ?_ ?_ ?_
    · exact (vcons rfl (vcons rfl (vcons rfl (vcons rfl (vcons rfl (vnil))))))
    · rfl
    · try dsimp only
      exact ⟨by omega, by omega, rfl, getL_fin (by omega)⟩
    rintro ⟨i, p, v, o⟩ ⟨hi, hp, ho, hf⟩ L3 hL4
    dsimp only at *
    refine run_seq ?_
    refine run_seq ?_
    refine run_region' ?_
    refine ops_y (wn rfl) rfl (y_move rfl) ?_
    refine ops_y (wn rfl) rfl (y_move rfl) ?_
    refine ops_y (wn rfl) rfl (y_lss rfl rfl) ?_
    refine ops_nil ?_
    refine goes_code ?_
    refine run_cond _ rfl (fun hc5 => ?_) (fun hc5 => ?_)
    · -- B2t
      replace hc5 := of_decide_eq_true hc5
      refine run_skip ?_
      refine goes_code ?_
      refine run_seq ?_
      refine run_block ?_
      refine run_seq ?_
      refine run_region' ?_
      refine ops_y (wn rfl) rfl (y_move rfl) ?_
      refine ops_y (wn rfl) rfl (y_move rfl) ?_
      refine ops_t (wn rfl) rfl (t_slice (l := p) (r := b.length) 0 Try.runUnderlying28 Try.sizeOf5 rfl rfl (bd1 rfl) (.inl ⟨rfl, by rw [u8c_len]⟩) (by omega) (by rw [u8c_len]; omega)) ?_
      rintro v6 _ rfl
      refine ops_turn (retell 2 (g := ro v6 1 (u8c (b.drop p))) rfl (by simp [List.map_take, List.map_drop, List.take_of_length_le, u8c])) ?_
      refine ops_t (wn rfl) rfl (t_call (vs := [v6]) (cs := []) [⟨2, false⟩] rfl Try.call27 rfl (getS_r v6 _ (by first | omega | (simp only [List.length_drop, List.length_take, List.length_append]; omega) | (simp; done))) (shows_cons 2 false rfl views_ro shows_nil) (.inl rfl)) ?_
      rintro _ _ ⟨_, ⟨rfl, rfl⟩, rfl⟩
      have hg7 := getS_any (b.drop p)
      refine ops_y (wn rfl) rfl (y_move rfl) ?_
      refine ops_y (wn rfl) rfl (y_extract rfl rfl) ?_
      refine ops_y (wn rfl) rfl (y_extract rfl rfl) ?_
      refine ops_y (wn rfl) rfl (y_extract rfl rfl) ?_
      refine ops_y (wn rfl) rfl (y_assign rfl) ?_
      refine ops_y (wn rfl) rfl (y_assign rfl) ?_
      refine ops_y (wn rfl) rfl (y_assign rfl) ?_
      refine ops_nil ?_
      refine goes_code ?_
      refine run_seq ?_
      refine run_seq ?_
      refine run_weak [(0, bv), (5, .int .i64 (((lenD b 1).1 : Nat) : Int)), (9, .int .i64 ((i : Nat) : Int)), (6, .int .i64 ((p : Nat) : Int)), (8, v), (10, .string (bs ((getS (b.drop p)).1))), (11, .int .i64 (((getS (b.drop p)).2.1 : Nat) : Int)), (12, .int .i64 (((getS (b.drop p)).2.2 : Nat) : Int))] [0, 1] [ro bv 1 (u8c b), row v 1 (strc o)] (vcons rfl (vcons rfl (vcons rfl (vcons rfl (vcons rfl (vcons rfl (vcons rfl (vcons rfl (vnil))))))))) (by decide) rfl ?_
      refine run_region' ?_
      refine ops_y (wn rfl) rfl (y_move rfl) ?_
      refine ops_y (wn rfl) rfl (y_neq rfl rfl) ?_
      refine ops_nil ?_
      refine goes_code ?_
      refine run_cond _ rfl (fun hc8 => ?_) (fun hc8 => ?_)
      · -- B3t
        replace hc8 := of_decide_eq_true hc8
        refine run_seq ?_
        refine run_region' ?_
        refine ops_y (wn rfl) rfl (y_move rfl) ?_
        refine ops_y (wn rfl) rfl (y_assign rfl) ?_
        refine ops_y (wn rfl) rfl (y_assign rfl) ?_
        refine ops_y (wn rfl) rfl (y_assign rfl) ?_
        refine ops_nil ?_
        refine goes_code ?_
        refine run_ret ?_
        refine fin_turn (nilrow 1) ?_
        refine fin_turn (retell 2 (g := row (.slice none 0 0) 1 (strc [])) rfl rfl) ?_
        refine fin_slots [2, 3, 4] [(.slice none 0 0), .int .i64 0, .int .i64 (((getS (b.drop p)).2.2 : Nat) : Int)] [2] [row (.slice none 0 0) 1 (strc [])] Try.results32 rfl (by decide) rfl ?_
        dsimp only [tup]
        rw [finN_bad (by omega) (by omega)] at hf; rw [← hf]; exact ⟨_, rfl, rfl⟩
      · -- B3f
        replace hc8 := of_decide_eq_false hc8
        refine run_skip ?_
        refine goes_code ?_
        refine run_seq ?_
        refine run_region' ?_
        refine ops_y (wn rfl) rfl (y_move rfl) ?_
        refine ops_y (wn rfl) rfl (y_move rfl) ?_
        refine ops_t (wn rfl) rfl (t_lit [.string (bs ((getS (b.drop p)).1))] Try.runUnderlying23 Try.sizeOf9 Try.zeroValue9 rfl (by decide) (by decide) rfl (by simp [Value.cells])) ?_
        rintro v9 _ ⟨rfl, _⟩
        refine ops_turn (retell 2 (g := row v9 1 (strc [(getS (b.drop p)).1])) rfl rfl) ?_
        refine ops_t (wn rfl) rfl (t_append (es := 1) 1 rfl Try.runUnderlying23 rfl Try.runUnderlying23 (.inr ⟨_, rfl⟩) Try.typeInfo9 rfl (by decide) Try.zeroValue9 rfl rfl rfl rfl (src_reads 2 rfl reads_row (strc_ok _)) (by simp only [strc_len, arrc_len, u8c_len, i64c_len, strc_len, List.length_append, List.length_cons, List.length_nil]; (show _ * 16 ≤ _); omega) (by simp only [strc_len, arrc_len, u8c_len, i64c_len, strc_len, List.length_append, List.length_cons, List.length_nil]; unfold maxLen; omega)) ?_
        rintro v10 _ rfl
        refine ops_turn (retell 1 (g := row v10 1 (strc (o ++ [(getS (b.drop p)).1]))) rfl (congrArg (row _ _) (strc_append _ _))) ?_
        refine ops_y (wn rfl) rfl (y_assign rfl) ?_
        refine ops_nil ?_
        refine goes_code ?_
        refine run_region' ?_
        have hdr := @List.length_drop _ p b
        refine ops_y (wn rfl) rfl (y_move rfl) ?_
        refine ops_y (wn rfl) rfl (y_move rfl) ?_
        refine ops_y (wn rfl) rfl ((y_add rfl rfl).to (v64n (a := p) (b := ((getS (b.drop p)).2.1)) (by omega))) ?_
        refine ops_y (wn rfl) rfl (y_assign rfl) ?_
        refine ops_nil ?_
        refine goes_blk ?_
        refine goes_code ?_
        refine run_weak [(0, bv), (5, .int .i64 (((lenD b 1).1 : Nat) : Int)), (9, .int .i64 ((i : Nat) : Int)), (6, .int .i64 (((p + (getS (b.drop p)).2.1) : Nat) : Int)), (8, v10)] [0, 1] [ro bv 1 (u8c b), row v10 1 (strc (o ++ [(getS (b.drop p)).1]))] (vcons rfl (vcons rfl (vcons rfl (vcons rfl (vcons rfl (vnil)))))) (by decide) rfl ?_
        refine run_region' ?_
        refine ops_y (wn rfl) rfl (y_move rfl) ?_
        refine ops_y (wn rfl) rfl ((y_add rfl rfl).to (v64n (a := i) (b := 1) (by omega))) ?_
        refine ops_y (wn rfl) rfl (y_assign rfl) ?_
        refine ops_nil ?_
        refine goes_loop hL4 ⟨i + 1, (p + (getS (b.drop p)).2.1), v10, (o ++ [(getS (b.drop p)).1])⟩ [0, 1] ?_ (by decide) ?_ ?_ ?_
        · exact (vcons rfl (vcons rfl (vcons rfl (vcons rfl (vcons rfl (vnil))))))
        · rfl
        · try dsimp only
          exact ⟨by omega, by simp only [List.length_drop] at *; omega, by rw [List.length_append, ho]; rfl, by rw [← hf]; exact (finN_step (one := getS) (by omega) (by omega)).symm⟩
        · try dsimp only
          omega
    · -- B2f
      replace hc5 := of_decide_eq_false hc5
      refine run_exit _ rfl ?_
      refine goes_code ?_
      refine run_seq ?_
      refine run_region' ?_
      refine ops_y (wn rfl) rfl (y_move rfl) ?_
      refine ops_y (wn rfl) rfl (y_move rfl) ?_
      refine ops_y (wn rfl) rfl (y_assign rfl) ?_
      refine ops_y (wn rfl) rfl (y_assign rfl) ?_
      refine ops_y (wn rfl) rfl (y_assign rfl) ?_
      refine ops_nil ?_
      refine goes_code ?_
      refine run_ret ?_
      refine fin_slots [2, 3, 4] [v, .int .i64 ((p : Nat) : Int), .int .i64 0] [1] [row v 1 (strc o)] Try.results32 rfl (by decide) rfl ?_
      dsimp only [tup]
      rw [finN_end (by omega)] at hf; rw [← hf]; exact ⟨_, rfl, rfl⟩

theorem getDigs_p (bv : Value) (b : List UInt8) (hb : b.length ≤ 4294967296) :
    Meets Try.prog 34 [bv] [ro bv 1 (u8c b)] (fun v G => ∃ lv, v = .tuple #[lv, .int .i64 ((getL getD 16 b).2.1 : Nat), .int .i64 ((getL getD 16 b).2.2 : Nat)] ∧ G = [row lv 16 (arrc (getL getD 16 b).1)]) := by
  refine fn_of_run Try.func34 rfl Try.ntmps34 rfl (fun w0 o0 => ?_)
  refine run_seq ?_
  refine run_region' ?_
  refine ops_y (wn rfl) rfl (y_assign rfl) ?_
  refine ops_y (wn rfl) rfl (y_assign rfl) ?_
  refine ops_y (wn rfl) rfl (y_assign rfl) ?_
  refine ops_nil ?_
  refine goes_code ?_
  refine run_seq ?_
  refine run_region' ?_
  refine ops_y (wn rfl) rfl (y_move rfl) ?_
  refine ops_t (wn rfl) rfl (t_call (vs := [bv, .int .i64 16, .func (.func 47) #[] #[]]) (cs := []) [⟨0, false⟩] rfl Try.call46 rfl (getDigs_g bv _ (by first | omega | (simp only [List.length_drop, List.length_take, List.length_append]; omega) | (simp; done))) (shows_cons 0 false rfl views_ro shows_nil) (.inl rfl)) ?_
  rintro _ _ ⟨_, ⟨v2, rfl, rfl⟩, rfl⟩
  have hd1 := getLD_any b
  refine ops_y (wn rfl) rfl (y_extract rfl rfl) ?_
  refine ops_y (wn rfl) rfl (y_extract rfl rfl) ?_
  refine ops_y (wn rfl) rfl (y_extract rfl rfl) ?_
  refine ops_y (wn rfl) rfl (y_assign rfl) ?_
  refine ops_y (wn rfl) rfl (y_assign rfl) ?_
  refine ops_y (wn rfl) rfl (y_assign rfl) ?_
  refine ops_nil ?_
  refine goes_code ?_
  refine run_ret ?_
  refine fin_slots [2, 3, 4] [v2, .int .i64 (((getL getD 16 b).2.1 : Nat) : Int), .int .i64 (((getL getD 16 b).2.2 : Nat) : Int)] [1] [row v2 16 (arrc ((getL getD 16 b).1))] Try.results34 rfl (by decide) rfl ?_
  dsimp only [tup]
  exact ⟨_, rfl, rfl⟩

structure getDigs_r_S0 where
  i : Nat
  p : Nat
  v : Value
  o : List (List UInt8)
structure getDigs_r_S1 where
  j : Nat
  l : List UInt8
theorem getDigs_r (bv : Value) (b : List UInt8) (hb : b.length ≤ 4294967296) :
    Meets Try.prog 35 [bv] [ro bv 1 (u8c b)] (fun v G => ∃ lv, v = .tuple #[lv, .int .i64 ((getL getD 16 b).2.1 : Nat), .int .i64 ((getL getD 16 b).2.2 : Nat)] ∧ G = [row lv 16 (arrc (getL getD 16 b).1)]) := by
  refine fn_of_run Try.func35 rfl Try.ntmps35 rfl (fun w0 o0 => ?_)
  refine run_seq ?_
  refine run_region' ?_
  refine ops_y (wn rfl) rfl (y_assign rfl) ?_
  refine ops_y (wn rfl) rfl (y_assign rfl) ?_
  refine ops_y (wn rfl) rfl (y_assign rfl) ?_
  refine ops_nil ?_
  refine goes_code ?_
  refine run_seq ?_
  refine run_region' ?_
  refine ops_y (wn rfl) rfl (y_move rfl) ?_
  refine ops_t (wn rfl) rfl (t_call (vs := [bv, .int .i64 16]) (cs := []) [⟨0, false⟩] rfl Try.call44 rfl (length_r bv _ (by first | omega | (simp only [List.length_drop, List.length_take, List.length_append]; omega) | (simp; done)) 16 (by omega) (by omega)) (shows_cons 0 false rfl views_ro shows_nil) (.inl rfl)) ?_
  rintro _ _ ⟨_, ⟨rfl, rfl⟩, rfl⟩
  have hg1 := lenD_any (b := b) (least := 16) (by omega)
  refine ops_y (wn rfl) rfl (y_move rfl) ?_
  refine ops_y (wn rfl) rfl (y_extract rfl rfl) ?_
  refine ops_y (wn rfl) rfl (y_extract rfl rfl) ?_
  refine ops_y (wn rfl) rfl (y_extract rfl rfl) ?_
  refine ops_y (wn rfl) rfl (y_assign rfl) ?_
  refine ops_y (wn rfl) rfl (y_assign rfl) ?_
  refine ops_y (wn rfl) rfl (y_assign rfl) ?_
  refine ops_nil ?_
  refine goes_code ?_
  refine run_seq ?_
  refine run_seq ?_
  refine run_weak [(0, bv), (2, .slice none 0 0), (3, .int .i64 0), (4, .int .i64 0), (5, .int .i64 (((lenD b 16).1 : Nat) : Int)), (6, .int .i64 (((lenD b 16).2.1 : Nat) : Int)), (7, .int .i64 (((lenD b 16).2.2 : Nat) : Int))] [0] [ro bv 1 (u8c b)] (vcons rfl (vcons rfl (vcons rfl (vcons rfl (vcons rfl (vcons rfl (vcons rfl (vnil)))))))) (by decide) rfl ?_
  refine run_region' ?_
  refine ops_y (wn rfl) rfl (y_move rfl) ?_
  refine ops_y (wn rfl) rfl (y_neq rfl rfl) ?_
  refine ops_nil ?_
  refine goes_code ?_
  refine run_cond _ rfl (fun hc2 => ?_) (fun hc2 => ?_)
  · -- B1t
    replace hc2 := of_decide_eq_true hc2
    refine run_seq ?_
    refine run_region' ?_
    refine ops_y (wn rfl) rfl (y_move rfl) ?_
    refine ops_y (wn rfl) rfl (y_assign rfl) ?_
    refine ops_y (wn rfl) rfl (y_assign rfl) ?_
    refine ops_y (wn rfl) rfl (y_assign rfl) ?_
    refine ops_nil ?_
    refine goes_code ?_
    refine run_ret ?_
    refine fin_turn (nilrow 16) ?_
    refine fin_turn (retell 1 (g := row (.slice none 0 0) 16 (arrc [])) rfl rfl) ?_
    refine fin_slots [2, 3, 4] [(.slice none 0 0), .int .i64 0, .int .i64 (((lenD b 16).2.2 : Nat) : Int)] [1] [row (.slice none 0 0) 16 (arrc [])] Try.results35 rfl (by decide) rfl ?_
    dsimp only [tup]
    rw [getL_err (by omega)]; exact ⟨_, rfl, rfl⟩
  · -- B1f
    replace hc2 := of_decide_eq_false hc2
    refine run_skip ?_
    refine goes_code ?_
    refine run_seq ?_
    refine run_region' ?_
    refine ops_y (wn rfl) rfl (y_assign rfl) ?_
    refine ops_nil ?_
    refine goes_code ?_
    refine run_seq ?_
    refine run_seq ?_
    refine run_region' ?_
    refine ops_y (wn rfl) rfl (y_assign rfl) ?_
    refine ops_nil ?_
    refine goes_code ?_
    refine run_block ?_
    refine run_turn (nilrow 16) ?_
    refine run_turn (retell 1 (g := row (.slice none 0 0) 16 (arrc [])) rfl rfl) ?_
    refine run_loop getDigs_r_S0 (fun s => [(0, bv), (5, .int .i64 (((lenD b 16).1 : Nat) : Int)), (9, .int .i64 ((s.i : Nat) : Int)), (6, .int .i64 ((s.p : Nat) : Int)), (8, s.v)]) (fun s => [ro bv 1 (u8c b), row s.v 16 (arrc s.o)]) (fun s => s.i ≤ (lenD b 16).1 ∧ s.p ≤ b.length ∧ s.o.length = s.i ∧ finN s.o s.p (getN getD ((lenD b 16).1 - s.i) (b.drop s.p)) = getL getD 16 b ∧ s.p = (lenD b 16).2.1 + s.i * 16 ∧ ∀ d ∈ s.o, d.length = 16) (fun s => (lenD b 16).1 - s.i) [0, 1] ⟨0, (lenD b 16).2.1, .slice none 0 0, []⟩ ?_ (by decide) ?_ ?_ ?_
    · exact (vcons rfl (vcons rfl (vcons rfl (vcons rfl (vcons rfl (vnil))))))
    · rfl
    · try dsimp only
      exact ⟨by omega, by omega, rfl, getL_fin (by omega), by omega, by simp⟩
    rintro ⟨i, p, v, o⟩ ⟨hi, hp, ho, hf, hpp, hod⟩ L3 hL4
    dsimp only at *
    refine run_seq ?_
    refine run_seq ?_
    refine run_region' ?_
    refine ops_y (wn rfl) rfl (y_move rfl) ?_
    refine ops_y (wn rfl) rfl (y_move rfl) ?_
    refine ops_y (wn rfl) rfl (y_lss rfl rfl) ?_
    refine ops_nil ?_
    refine goes_code ?_
    refine run_cond _ rfl (fun hc5 => ?_) (fun hc5 => ?_)
    · -- B2t
      replace hc5 := of_decide_eq_true hc5
      refine run_skip ?_
      refine goes_code ?_
      refine run_seq ?_
      refine run_block ?_
      refine run_seq ?_
      refine run_region' ?_
      refine ops_t (wn rfl) rfl (t_alloc Try.zeroValue57) ?_
      rintro _ _ ⟨b6, rfl, rfl⟩
      refine ops_nil ?_
      refine goes_code ?_
      refine run_seq ?_
      refine run_seq ?_
      refine run_region' ?_
      refine ops_y (wn rfl) rfl (y_assign rfl) ?_
      refine ops_nil ?_
      refine goes_code ?_
      refine run_block ?_
      refine run_loop getDigs_r_S1 (fun s => [(0, bv), (5, .int .i64 (((lenD b 16).1 : Nat) : Int)), (9, .int .i64 ((i : Nat) : Int)), (6, .int .i64 ((p : Nat) : Int)), (8, v), (10, boxP b6 0), (11, .int .i64 ((s.j : Nat) : Int))]) (fun s => [ro bv 1 (u8c b), row v 16 (arrc o), box b6 (arr8 s.l)]) (fun s => s.j ≤ 16 ∧ s.l.length = 16 ∧ s.l = (b.drop p).take s.j ++ List.replicate (16 - s.j) 0) (fun s => 16 - s.j) [0, 1, 2] ⟨0, List.replicate 16 0⟩ ?_ (by decide) ?_ ?_ ?_
      · exact (vcons rfl (vcons rfl (vcons rfl (vcons rfl (vcons rfl (vcons rfl (vcons rfl (vnil))))))))
      · rfl
      · try dsimp only
        exact ⟨by omega, rfl, by simp⟩
      rintro ⟨j, l⟩ ⟨hj, hl, hlq⟩ L7 hL8
      dsimp only at *
      refine run_seq ?_
      refine run_seq ?_
      refine run_region' ?_
      refine ops_y (wn rfl) rfl (y_move rfl) ?_
      refine ops_y (wn rfl) rfl (y_lss rfl rfl) ?_
      refine ops_nil ?_
      refine goes_code ?_
      refine run_cond _ rfl (fun hc9 => ?_) (fun hc9 => ?_)
      · -- B3t
        replace hc9 := of_decide_eq_true hc9
        refine run_skip ?_
        refine goes_code ?_
        refine run_seq ?_
        refine run_block ?_
        refine run_region' ?_
        refine ops_y (wn rfl) rfl (y_move rfl) ?_
        refine ops_y (wn rfl) rfl (y_move rfl) ?_
        refine ops_y (wn rfl) rfl (y_move rfl) ?_
        refine ops_y (wn rfl) rfl (y_move rfl) ?_
        refine ops_y (wn rfl) rfl ((y_add rfl rfl).to (v64n (a := p) (b := j) (by omega))) ?_
        refine ops_y (wn rfl) rfl (y_indexAddr (n := (p + j)) 0 Try.runUnderlying28 Try.sizeOf5 rfl rfl rfl reads_ro (by rw [u8c_len]; omega)) ?_
        refine ops_y (wn rfl) rfl (y_load_elem (i := (p + j)) 0 Try.isAgg5 rfl rfl reads_ro (u8c_get (by omega))) ?_
        refine ops_y (wn rfl) rfl (OpY.to (v' := boxP b6 j) (y_indexAddr_box (n := j) Try.runUnderlying57 Try.sizeOf5 rfl rfl (by omega)) (congrArg (boxP b6) (by omega))) ?_
        refine ops_t (wn rfl) rfl (t_store8 (j := j) (l := l) (c := b[(p + j)]) 2 Try.sizeOf5 rfl rfl rfl (by omega)) ?_
        rintro _ _ ⟨rfl, rfl⟩
        refine ops_turn (retell 2 (g := box b6 (arr8 (l.set j (b[(p + j)])))) rfl rfl) ?_
        refine ops_nil ?_
        refine goes_blk ?_
        refine goes_code ?_
        refine run_weak [(0, bv), (5, .int .i64 (((lenD b 16).1 : Nat) : Int)), (9, .int .i64 ((i : Nat) : Int)), (6, .int .i64 ((p : Nat) : Int)), (8, v), (10, boxP b6 0), (11, .int .i64 ((j : Nat) : Int))] [0, 1, 2] [ro bv 1 (u8c b), row v 16 (arrc o), box b6 (arr8 (l.set j (b[(p + j)])))] (vcons rfl (vcons rfl (vcons rfl (vcons rfl (vcons rfl (vcons rfl (vcons rfl (vnil)))))))) (by decide) rfl ?_
        refine run_region' ?_
        refine ops_y (wn rfl) rfl (y_move rfl) ?_
        refine ops_y (wn rfl) rfl ((y_add rfl rfl).to (v64n (a := j) (b := 1) (by omega))) ?_
        refine ops_y (wn rfl) rfl (y_assign rfl) ?_
        refine ops_nil ?_
        refine goes_loop hL8 ⟨j + 1, (l.set j (b[(p + j)]))⟩ [0, 1, 2] ?_ (by decide) ?_ ?_ ?_
        · exact (vcons rfl (vcons rfl (vcons rfl (vcons rfl (vcons rfl (vcons rfl (vcons rfl (vnil))))))))
        · rfl
        · try dsimp only
          exact ⟨by omega, by rw [List.length_set]; exact hl, by rw [hlq]; exact fill_set (by omega) (by omega)⟩
        · try dsimp only
          omega
      · -- B3f
        replace hc9 := of_decide_eq_false hc9
        obtain rfl : j = 16 := by omega
        have hl2 : l = (b.drop p).take 16 := by rw [hlq]; simp
        refine run_exit _ rfl ?_
        refine goes_code ?_
        refine run_seq ?_
        refine run_region' ?_
        refine ops_y (wn rfl) rfl (y_move rfl) ?_
        refine ops_y (wn rfl) rfl (y_load_all 2 Try.isAgg57 Try.sizeOf57 rfl rfl (by rw [arr8_len]; exact hl)) ?_
        refine ops_t (wn rfl) rfl (t_lit [.agg (arr8 l).toArray] Try.runUnderlying24 Try.sizeOf57 Try.zeroValue57 rfl (by decide) (by decide) rfl (by simp [Value.cells, arr8_len, hl])) ?_
        rintro v10 _ ⟨rfl, _⟩
        refine ops_turn (retell 3 (g := row v10 16 (arrc [l])) rfl rfl) ?_
        refine ops_t (wn rfl) rfl (t_append (es := 16) 1 rfl Try.runUnderlying24 rfl Try.runUnderlying24 (.inr ⟨_, rfl⟩) Try.typeInfo57 rfl (by decide) Try.zeroValue57 rfl rfl rfl rfl (src_reads 3 rfl reads_row (arrc_ok _ (by simp [hl]))) (by simp only [arrc_len, arrc_len, u8c_len, i64c_len, strc_len, List.length_append, List.length_cons, List.length_nil]; (show _ * 16 ≤ _); omega) (by simp only [arrc_len, arrc_len, u8c_len, i64c_len, strc_len, List.length_append, List.length_cons, List.length_nil]; unfold maxLen; omega)) ?_
        rintro v11 _ rfl
        refine ops_turn (retell 1 (g := row v11 16 (arrc (o ++ [l]))) rfl (congrArg (row _ _) (arrc_append _ _))) ?_
        refine ops_y (wn rfl) rfl (y_assign rfl) ?_
        refine ops_nil ?_
        refine goes_code ?_
        refine run_region' ?_
        refine ops_y (wn rfl) rfl (y_move rfl) ?_
        refine ops_y (wn rfl) rfl ((y_add rfl rfl).to (v64n (a := p) (b := 16) (by omega))) ?_
        refine ops_y (wn rfl) rfl (y_assign rfl) ?_
        refine ops_nil ?_
        refine goes_blk ?_
        refine goes_code ?_
        refine run_weak [(0, bv), (5, .int .i64 (((lenD b 16).1 : Nat) : Int)), (9, .int .i64 ((i : Nat) : Int)), (6, .int .i64 (((p + 16) : Nat) : Int)), (8, v11)] [0, 1] [ro bv 1 (u8c b), row v11 16 (arrc (o ++ [l]))] (vcons rfl (vcons rfl (vcons rfl (vcons rfl (vcons rfl (vnil)))))) (by decide) rfl ?_
        refine run_region' ?_
        refine ops_y (wn rfl) rfl (y_move rfl) ?_
        refine ops_y (wn rfl) rfl ((y_add rfl rfl).to (v64n (a := i) (b := 1) (by omega))) ?_
        refine ops_y (wn rfl) rfl (y_assign rfl) ?_
        refine ops_nil ?_
        refine goes_loop hL4 ⟨i + 1, (p + 16), v11, (o ++ [l])⟩ [0, 1] ?_ (by decide) ?_ ?_ ?_
        · exact (vcons rfl (vcons rfl (vcons rfl (vcons rfl (vcons rfl (vnil))))))
        · rfl
        · try dsimp only
          exact ⟨by omega, by omega, by rw [List.length_append, ho]; rfl, by rw [← hf, hl2]; exact (finN_step (one := getD) (by omega) rfl).symm, by omega, by intro d hd; rcases List.mem_append.1 hd with h | h; exact hod d h; rw [List.mem_singleton.1 h]; exact hl⟩
        · try dsimp only
          omega
    · -- B2f
      replace hc5 := of_decide_eq_false hc5
      refine run_exit _ rfl ?_
      refine goes_code ?_
      refine run_seq ?_
      refine run_region' ?_
      refine ops_y (wn rfl) rfl (y_move rfl) ?_
      refine ops_y (wn rfl) rfl (y_move rfl) ?_
      refine ops_y (wn rfl) rfl (y_assign rfl) ?_
      refine ops_y (wn rfl) rfl (y_assign rfl) ?_
      refine ops_y (wn rfl) rfl (y_assign rfl) ?_
      refine ops_nil ?_
      refine goes_code ?_
      refine run_ret ?_
      refine fin_slots [2, 3, 4] [v, .int .i64 ((p : Nat) : Int), .int .i64 0] [1] [row v 16 (arrc o)] Try.results35 rfl (by decide) rfl ?_
      dsimp only [tup]
      rw [finN_end (by omega)] at hf; rw [← hf]; exact ⟨_, rfl, rfl⟩

structure sameInts_S0 where
  i : Nat
theorem sameInts (va vb : Value) (a b : List Int) (hla : a.length ≤ 4294967296) :
    Meets Try.prog 30 [va, vb] [ro va 1 (i64c a), ro vb 1 (i64c b)] (fun v G => v = .bool (decide (a = b)) ∧ G = []) := by
  refine fn_of_run Try.func30 rfl Try.ntmps30 rfl (fun w0 o0 => ?_)
  refine run_seq ?_
  refine run_region' ?_
  refine ops_y (wn rfl) rfl (y_assign rfl) ?_
  refine ops_nil ?_
  refine goes_code ?_
  refine run_seq ?_
  refine run_seq ?_
  refine run_region' ?_
  refine ops_y (wn rfl) rfl (y_move rfl) ?_
  refine ops_y (wn rfl) rfl ((y_len 0 rfl Try.runUnderlying22 rfl rfl reads_ro).to (congrArg (fun n : Nat => Value.int .i64 (n : Int)) (i64c_len _))) ?_
  refine ops_y (wn rfl) rfl (y_move rfl) ?_
  refine ops_y (wn rfl) rfl ((y_len 1 rfl Try.runUnderlying22 rfl rfl reads_ro).to (congrArg (fun n : Nat => Value.int .i64 (n : Int)) (i64c_len _))) ?_
  refine ops_y (wn rfl) rfl (y_neq rfl rfl) ?_
  refine ops_nil ?_
  refine goes_code ?_
  refine run_cond _ rfl (fun hc1 => ?_) (fun hc1 => ?_)
  · -- B1t
    replace hc1 := of_decide_eq_true hc1
    refine run_seq ?_
    refine run_region' ?_
    refine ops_y (wn rfl) rfl (y_assign rfl) ?_
    refine ops_nil ?_
    refine goes_code ?_
    refine run_ret ?_
    refine fin_slots [4] [.bool false] [] [] Try.results30 rfl (by decide) rfl ?_
    dsimp only [tup]
    rw [decide_eq_false (by rintro rfl; simp at *)]; exact ⟨rfl, rfl⟩
  · -- B1f
    replace hc1 := of_decide_eq_false hc1
    refine run_skip ?_
    refine goes_code ?_
    refine run_seq ?_
    refine run_seq ?_
    refine run_region' ?_
    refine ops_y (wn rfl) rfl (y_assign rfl) ?_
    refine ops_nil ?_
    refine goes_code ?_
    refine run_block ?_
    refine run_loop sameInts_S0 (fun s => [(0, va), (1, vb), (5, .int .i64 ((s.i : Nat) : Int))]) (fun s => [ro va 1 (i64c a), ro vb 1 (i64c b)]) (fun s => s.i ≤ a.length ∧ a.length = b.length ∧ a.take s.i = b.take s.i) (fun s => a.length - s.i) [0, 1] ⟨0⟩ ?_ (by decide) ?_ ?_ ?_
    · exact (vcons rfl (vcons rfl (vcons rfl (vnil))))
    · rfl
    · try dsimp only
      exact ⟨by omega, by omega, by simp⟩
    rintro ⟨i⟩ ⟨hi, hl, ht⟩ L2 hL3
    dsimp only at *
    refine run_seq ?_
    refine run_seq ?_
    refine run_region' ?_
    refine ops_y (wn rfl) rfl (y_move rfl) ?_
    refine ops_y (wn rfl) rfl (y_move rfl) ?_
    refine ops_y (wn rfl) rfl ((y_len 0 rfl Try.runUnderlying22 rfl rfl reads_ro).to (congrArg (fun n : Nat => Value.int .i64 (n : Int)) (i64c_len _))) ?_
    refine ops_y (wn rfl) rfl (y_lss rfl rfl) ?_
    refine ops_nil ?_
    refine goes_code ?_
    refine run_cond _ rfl (fun hc4 => ?_) (fun hc4 => ?_)
    · -- B2t
      replace hc4 := of_decide_eq_true hc4
      refine run_skip ?_
      refine goes_code ?_
      refine run_seq ?_
      refine run_block ?_
      refine run_seq ?_
      refine run_draw (by kernel_rfl) (by kernel_rfl) ?_
      refine still_y (wn rfl) rfl (y_move rfl) ?_
      refine still_y (wn rfl) rfl (y_move rfl) ?_
      refine still_y (wn rfl) rfl (y_indexAddr (n := i) 0 Try.runUnderlying22 Try.sizeOf3 rfl rfl rfl reads_ro (by rw [i64c_len]; omega)) ?_
      refine still_y (wn rfl) rfl (y_load_elem (i := i) 0 Try.isAgg3 rfl rfl reads_ro (i64c_get (by omega))) ?_
      refine still_y (wn rfl) rfl (y_move rfl) ?_
      refine still_y (wn rfl) rfl (y_move rfl) ?_
      refine still_y (wn rfl) rfl (y_indexAddr (n := i) 1 Try.runUnderlying22 Try.sizeOf3 rfl rfl rfl reads_ro (by rw [i64c_len]; omega)) ?_
      refine still_y (wn rfl) rfl (y_load_elem (i := i) 1 Try.isAgg3 rfl rfl reads_ro (i64c_get (by omega))) ?_
      refine still_y (wn rfl) rfl (y_neq rfl rfl) ?_
      refine still_nil ?_
      refine goes_code ?_
      refine run_cond _ rfl (fun hc5 => ?_) (fun hc5 => ?_)
      · -- B3t
        replace hc5 := of_decide_eq_true hc5
        have hne : a ≠ b := by rintro rfl; simp at hc5
        refine run_seq ?_
        refine run_weak [(0, va), (1, vb), (5, .int .i64 ((i : Nat) : Int))] [0, 1] [ro va 1 (i64c a), ro vb 1 (i64c b)] (vcons rfl (vcons rfl (vcons rfl (vnil)))) (by decide) rfl ?_
        refine run_region' ?_
        refine ops_y (wn rfl) rfl (y_assign rfl) ?_
        refine ops_nil ?_
        refine goes_code ?_
        refine run_ret ?_
        refine fin_slots [4] [.bool false] [] [] Try.results30 rfl (by decide) rfl ?_
        dsimp only [tup]
        rw [decide_eq_false hne]; exact ⟨rfl, rfl⟩
      · -- B3f
        replace hc5 := of_decide_eq_false hc5
        have hne : a[i] = b[i] := by simpa using hc5
        refine run_skip ?_
        refine goes_blk ?_
        refine goes_code ?_
        refine run_weak [(0, va), (1, vb), (5, .int .i64 ((i : Nat) : Int))] [0, 1] [ro va 1 (i64c a), ro vb 1 (i64c b)] (vcons rfl (vcons rfl (vcons rfl (vnil)))) (by decide) rfl ?_
        refine run_region' ?_
        refine ops_y (wn rfl) rfl (y_move rfl) ?_
        refine ops_y (wn rfl) rfl ((y_add rfl rfl).to (v64n (a := i) (b := 1) (by omega))) ?_
        refine ops_y (wn rfl) rfl (y_assign rfl) ?_
        refine ops_nil ?_
        refine goes_loop hL3 ⟨i + 1⟩ [0, 1] ?_ (by decide) ?_ ?_ ?_
        · exact (vcons rfl (vcons rfl (vcons rfl (vnil))))
        · rfl
        · try dsimp only
          exact ⟨by omega, hl, by rw [List.take_succ_eq_append_getElem (by omega), List.take_succ_eq_append_getElem (by omega), ht, hne]⟩
        · try dsimp only
          omega
    · -- B2f
      replace hc4 := of_decide_eq_false hc4
      have hab : a = b := by rw [List.take_of_length_le (by omega), List.take_of_length_le (by omega)] at ht; exact ht
      refine run_exit _ rfl ?_
      refine goes_code ?_
      refine run_seq ?_
      refine run_region' ?_
      refine ops_y (wn rfl) rfl (y_assign rfl) ?_
      refine ops_nil ?_
      refine goes_code ?_
      refine run_ret ?_
      refine fin_slots [4] [.bool true] [] [] Try.results30 rfl (by decide) rfl ?_
      dsimp only [tup]
      rw [decide_eq_true hab]; exact ⟨rfl, rfl⟩

structure sameTexts_S0 where
  i : Nat
theorem sameTexts (va vb : Value) (a b : List (List UInt8)) (hla : a.length ≤ 4294967296) :
    Meets Try.prog 33 [va, vb] [ro va 1 (strc a), ro vb 1 (strc b)] (fun v G => v = .bool (decide (a = b)) ∧ G = []) := by
  refine fn_of_run Try.func33 rfl Try.ntmps33 rfl (fun w0 o0 => ?_)
  refine run_seq ?_
  refine run_region' ?_
  refine ops_y (wn rfl) rfl (y_assign rfl) ?_
  refine ops_nil ?_
  refine goes_code ?_
  refine run_seq ?_
  refine run_seq ?_
  refine run_region' ?_
  refine ops_y (wn rfl) rfl (y_move rfl) ?_
  refine ops_y (wn rfl) rfl ((y_len 0 rfl Try.runUnderlying23 rfl rfl reads_ro).to (congrArg (fun n : Nat => Value.int .i64 (n : Int)) (strc_len _))) ?_
  refine ops_y (wn rfl) rfl (y_move rfl) ?_
  refine ops_y (wn rfl) rfl ((y_len 1 rfl Try.runUnderlying23 rfl rfl reads_ro).to (congrArg (fun n : Nat => Value.int .i64 (n : Int)) (strc_len _))) ?_
  refine ops_y (wn rfl) rfl (y_neq rfl rfl) ?_
  refine ops_nil ?_
  refine goes_code ?_
  refine run_cond _ rfl (fun hc1 => ?_) (fun hc1 => ?_)
  · -- B1t
    replace hc1 := of_decide_eq_true hc1
    refine run_seq ?_
    refine run_region' ?_
    refine ops_y (wn rfl) rfl (y_assign rfl) ?_
    refine ops_nil ?_
    refine goes_code ?_
    refine run_ret ?_
    refine fin_slots [4] [.bool false] [] [] Try.results33 rfl (by decide) rfl ?_
    dsimp only [tup]
    rw [decide_eq_false (by rintro rfl; simp at *)]; exact ⟨rfl, rfl⟩
  · -- B1f
    replace hc1 := of_decide_eq_false hc1
    refine run_skip ?_
    refine goes_code ?_
    refine run_seq ?_
    refine run_seq ?_
    refine run_region' ?_
    refine ops_y (wn rfl) rfl (y_assign rfl) ?_
    refine ops_nil ?_
    refine goes_code ?_
    refine run_block ?_
    refine run_loop sameTexts_S0 (fun s => [(0, va), (1, vb), (5, .int .i64 ((s.i : Nat) : Int))]) (fun s => [ro va 1 (strc a), ro vb 1 (strc b)]) (fun s => s.i ≤ a.length ∧ a.length = b.length ∧ a.take s.i = b.take s.i) (fun s => a.length - s.i) [0, 1] ⟨0⟩ ?_ (by decide) ?_ ?_ ?_
    · exact (vcons rfl (vcons rfl (vcons rfl (vnil))))
    · rfl
    · try dsimp only
      exact ⟨by omega, by omega, by simp⟩
    rintro ⟨i⟩ ⟨hi, hl, ht⟩ L2 hL3
    dsimp only at *
    refine run_seq ?_
    refine run_seq ?_
    refine run_region' ?_
    refine ops_y (wn rfl) rfl (y_move rfl) ?_
    refine ops_y (wn rfl) rfl (y_move rfl) ?_
    refine ops_y (wn rfl) rfl ((y_len 0 rfl Try.runUnderlying23 rfl rfl reads_ro).to (congrArg (fun n : Nat => Value.int .i64 (n : Int)) (strc_len _))) ?_
    refine ops_y (wn rfl) rfl (y_lss rfl rfl) ?_
    refine ops_nil ?_
    refine goes_code ?_
    refine run_cond _ rfl (fun hc4 => ?_) (fun hc4 => ?_)
    · -- B2t
      replace hc4 := of_decide_eq_true hc4
      refine run_skip ?_
      refine goes_code ?_
      refine run_seq ?_
      refine run_block ?_
      refine run_seq ?_
      refine run_draw (by kernel_rfl) (by kernel_rfl) ?_
      refine still_y (wn rfl) rfl (y_move rfl) ?_
      refine still_y (wn rfl) rfl (y_move rfl) ?_
      refine still_y (wn rfl) rfl (y_indexAddr (n := i) 0 Try.runUnderlying23 Try.sizeOf9 rfl rfl rfl reads_ro (by rw [strc_len]; omega)) ?_
      refine still_y (wn rfl) rfl (y_load_elem (i := i) 0 Try.isAgg9 rfl rfl reads_ro (strc_get (by omega))) ?_
      refine still_y (wn rfl) rfl (y_move rfl) ?_
      refine still_y (wn rfl) rfl (y_move rfl) ?_
      refine still_y (wn rfl) rfl (y_indexAddr (n := i) 1 Try.runUnderlying23 Try.sizeOf9 rfl rfl rfl reads_ro (by rw [strc_len]; omega)) ?_
      refine still_y (wn rfl) rfl (y_load_elem (i := i) 1 Try.isAgg9 rfl rfl reads_ro (strc_get (by omega))) ?_
      refine still_y (wn rfl) rfl (y_sneq rfl rfl) ?_
      refine still_nil ?_
      refine goes_code ?_
      refine run_cond _ rfl (fun hc5 => ?_) (fun hc5 => ?_)
      · -- B3t
        simp at hc5
        have hne : a ≠ b := by rintro rfl; simp at hc5
        refine run_seq ?_
        refine run_weak [(0, va), (1, vb), (5, .int .i64 ((i : Nat) : Int))] [0, 1] [ro va 1 (strc a), ro vb 1 (strc b)] (vcons rfl (vcons rfl (vcons rfl (vnil)))) (by decide) rfl ?_
        refine run_region' ?_
        refine ops_y (wn rfl) rfl (y_assign rfl) ?_
        refine ops_nil ?_
        refine goes_code ?_
        refine run_ret ?_
        refine fin_slots [4] [.bool false] [] [] Try.results33 rfl (by decide) rfl ?_
        dsimp only [tup]
        rw [decide_eq_false hne]; exact ⟨rfl, rfl⟩
      · -- B3f
        simp at hc5
        have hne : a[i] = b[i] := by simpa using hc5
        refine run_skip ?_
        refine goes_blk ?_
        refine goes_code ?_
        refine run_weak [(0, va), (1, vb), (5, .int .i64 ((i : Nat) : Int))] [0, 1] [ro va 1 (strc a), ro vb 1 (strc b)] (vcons rfl (vcons rfl (vcons rfl (vnil)))) (by decide) rfl ?_
        refine run_region' ?_
        refine ops_y (wn rfl) rfl (y_move rfl) ?_
        refine ops_y (wn rfl) rfl ((y_add rfl rfl).to (v64n (a := i) (b := 1) (by omega))) ?_
        refine ops_y (wn rfl) rfl (y_assign rfl) ?_
        refine ops_nil ?_
        refine goes_loop hL3 ⟨i + 1⟩ [0, 1] ?_ (by decide) ?_ ?_ ?_
        · exact (vcons rfl (vcons rfl (vcons rfl (vnil))))
        · rfl
        · try dsimp only
          exact ⟨by omega, hl, by rw [List.take_succ_eq_append_getElem (by omega), List.take_succ_eq_append_getElem (by omega), ht, hne]⟩
        · try dsimp only
          omega
    · -- B2f
      replace hc4 := of_decide_eq_false hc4
      have hab : a = b := by rw [List.take_of_length_le (by omega), List.take_of_length_le (by omega)] at ht; exact ht
      refine run_exit _ rfl ?_
      refine goes_code ?_
      refine run_seq ?_
      refine run_region' ?_
      refine ops_y (wn rfl) rfl (y_assign rfl) ?_
      refine ops_nil ?_
      refine goes_code ?_
      refine run_ret ?_
      refine fin_slots [4] [.bool true] [] [] Try.results33 rfl (by decide) rfl ?_
      dsimp only [tup]
      rw [decide_eq_true hab]; exact ⟨rfl, rfl⟩

structure sameDigs_S0 where
  i : Nat
theorem sameDigs (va vb : Value) (a b : List (List UInt8)) (hla : a.length ≤ 4294967296) (ha : ∀ d ∈ a, d.length = 16) (hb : ∀ d ∈ b, d.length = 16) :
    Meets Try.prog 36 [va, vb] [ro va 16 (arrc a), ro vb 16 (arrc b)] (fun v G => v = .bool (decide (a = b)) ∧ G = []) := by
  refine fn_of_run Try.func36 rfl Try.ntmps36 rfl (fun w0 o0 => ?_)
  refine run_seq ?_
  refine run_region' ?_
  refine ops_y (wn rfl) rfl (y_assign rfl) ?_
  refine ops_nil ?_
  refine goes_code ?_
  refine run_seq ?_
  refine run_seq ?_
  refine run_region' ?_
  refine ops_y (wn rfl) rfl (y_move rfl) ?_
  refine ops_y (wn rfl) rfl ((y_len 0 rfl Try.runUnderlying24 rfl rfl reads_ro).to (congrArg (fun n : Nat => Value.int .i64 (n : Int)) (arrc_len _))) ?_
  refine ops_y (wn rfl) rfl (y_move rfl) ?_
  refine ops_y (wn rfl) rfl ((y_len 1 rfl Try.runUnderlying24 rfl rfl reads_ro).to (congrArg (fun n : Nat => Value.int .i64 (n : Int)) (arrc_len _))) ?_
  refine ops_y (wn rfl) rfl (y_neq rfl rfl) ?_
  refine ops_nil ?_
  refine goes_code ?_
  refine run_cond _ rfl (fun hc1 => ?_) (fun hc1 => ?_)
  · -- B1t
    replace hc1 := of_decide_eq_true hc1
    refine run_seq ?_
    refine run_region' ?_
    refine ops_y (wn rfl) rfl (y_assign rfl) ?_
    refine ops_nil ?_
    refine goes_code ?_
    refine run_ret ?_
    refine fin_slots [4] [.bool false] [] [] Try.results36 rfl (by decide) rfl ?_
    dsimp only [tup]
    rw [decide_eq_false (by rintro rfl; simp at *)]; exact ⟨rfl, rfl⟩
  · -- B1f
    replace hc1 := of_decide_eq_false hc1
    refine run_skip ?_
    refine goes_code ?_
    refine run_seq ?_
    refine run_seq ?_
    refine run_region' ?_
    refine ops_y (wn rfl) rfl (y_assign rfl) ?_
    refine ops_nil ?_
    refine goes_code ?_
    refine run_block ?_
    refine run_loop sameDigs_S0 (fun s => [(0, va), (1, vb), (5, .int .i64 ((s.i : Nat) : Int))]) (fun s => [ro va 16 (arrc a), ro vb 16 (arrc b)]) (fun s => s.i ≤ a.length ∧ a.length = b.length ∧ a.take s.i = b.take s.i) (fun s => a.length - s.i) [0, 1] ⟨0⟩ ?_ (by decide) ?_ ?_ ?_
    · exact (vcons rfl (vcons rfl (vcons rfl (vnil))))
    · rfl
    · try dsimp only
      exact ⟨by omega, by omega, by simp⟩
    rintro ⟨i⟩ ⟨hi, hl, ht⟩ L2 hL3
    dsimp only at *
    refine run_seq ?_
    refine run_seq ?_
    refine run_region' ?_
    refine ops_y (wn rfl) rfl (y_move rfl) ?_
    refine ops_y (wn rfl) rfl (y_move rfl) ?_
    refine ops_y (wn rfl) rfl ((y_len 0 rfl Try.runUnderlying24 rfl rfl reads_ro).to (congrArg (fun n : Nat => Value.int .i64 (n : Int)) (arrc_len _))) ?_
    refine ops_y (wn rfl) rfl (y_lss rfl rfl) ?_
    refine ops_nil ?_
    refine goes_code ?_
    refine run_cond _ rfl (fun hc4 => ?_) (fun hc4 => ?_)
    · -- B2t
      replace hc4 := of_decide_eq_true hc4
      refine run_skip ?_
      refine goes_code ?_
      refine run_seq ?_
      refine run_block ?_
      refine run_seq ?_
      refine run_draw (by kernel_rfl) (by kernel_rfl) ?_
      refine still_y (wn rfl) rfl (y_move rfl) ?_
      refine still_y (wn rfl) rfl (y_move rfl) ?_
      refine still_y (wn rfl) rfl (y_indexAddr (n := i) 0 Try.runUnderlying24 Try.sizeOf57 rfl rfl rfl reads_ro (by rw [arrc_len]; omega)) ?_
      refine still_y (wn rfl) rfl (y_load_agg (i := i) 0 Try.isAgg57 Try.sizeOf57 rfl rfl reads_ro (arrc_get (by omega))) ?_
      refine still_y (wn rfl) rfl (y_move rfl) ?_
      refine still_y (wn rfl) rfl (y_move rfl) ?_
      refine still_y (wn rfl) rfl (y_indexAddr (n := i) 1 Try.runUnderlying24 Try.sizeOf57 rfl rfl rfl reads_ro (by rw [arrc_len]; omega)) ?_
      refine still_y (wn rfl) rfl (y_load_agg (i := i) 1 Try.isAgg57 Try.sizeOf57 rfl rfl reads_ro (arrc_get (by omega))) ?_
      refine still_y (wn rfl) rfl (y_neq8 Try.eqGuardType57 Try.runUnderlying57 Try.runUnderlying5 Try.sizeOf5 Try.isAgg5 rfl rfl (ha _ (List.getElem_mem _)) (hb _ (List.getElem_mem _))) ?_
      refine still_nil ?_
      refine goes_code ?_
      refine run_cond _ rfl (fun hc5 => ?_) (fun hc5 => ?_)
      · -- B3t
        simp at hc5
        have hne : a ≠ b := by rintro rfl; simp at hc5
        refine run_seq ?_
        refine run_weak [(0, va), (1, vb), (5, .int .i64 ((i : Nat) : Int))] [0, 1] [ro va 16 (arrc a), ro vb 16 (arrc b)] (vcons rfl (vcons rfl (vcons rfl (vnil)))) (by decide) rfl ?_
        refine run_region' ?_
        refine ops_y (wn rfl) rfl (y_assign rfl) ?_
        refine ops_nil ?_
        refine goes_code ?_
        refine run_ret ?_
        refine fin_slots [4] [.bool false] [] [] Try.results36 rfl (by decide) rfl ?_
        dsimp only [tup]
        rw [decide_eq_false hne]; exact ⟨rfl, rfl⟩
      · -- B3f
        simp at hc5
        have hne : a[i] = b[i] := by simpa using hc5
        refine run_skip ?_
        refine goes_blk ?_
        refine goes_code ?_
        refine run_weak [(0, va), (1, vb), (5, .int .i64 ((i : Nat) : Int))] [0, 1] [ro va 16 (arrc a), ro vb 16 (arrc b)] (vcons rfl (vcons rfl (vcons rfl (vnil)))) (by decide) rfl ?_
        refine run_region' ?_
        refine ops_y (wn rfl) rfl (y_move rfl) ?_
        refine ops_y (wn rfl) rfl ((y_add rfl rfl).to (v64n (a := i) (b := 1) (by omega))) ?_
        refine ops_y (wn rfl) rfl (y_assign rfl) ?_
        refine ops_nil ?_
        refine goes_loop hL3 ⟨i + 1⟩ [0, 1] ?_ (by decide) ?_ ?_ ?_
        · exact (vcons rfl (vcons rfl (vcons rfl (vnil))))
        · rfl
        · try dsimp only
          exact ⟨by omega, hl, by rw [List.take_succ_eq_append_getElem (by omega), List.take_succ_eq_append_getElem (by omega), ht, hne]⟩
        · try dsimp only
          omega
    · -- B2f
      replace hc4 := of_decide_eq_false hc4
      have hab : a = b := by rw [List.take_of_length_le (by omega), List.take_of_length_le (by omega)] at ht; exact ht
      refine run_exit _ rfl ?_
      refine goes_code ?_
      refine run_seq ?_
      refine run_region' ?_
      refine ops_y (wn rfl) rfl (y_assign rfl) ?_
      refine ops_nil ?_
      refine goes_code ?_
      refine run_ret ?_
      refine fin_slots [4] [.bool true] [] [] Try.results36 rfl (by decide) rfl ?_
      dsimp only [tup]
      rw [decide_eq_true hab]; exact ⟨rfl, rfl⟩

end Go.Proofs.Ytbhlfdklpihaiaa
