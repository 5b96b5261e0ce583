/-
  The walks of the lists' decoders.
-/
import Derived.Test.YtbhlfdklpihaiaaAbsArr
import Derived.Test.YtbhlfdklpihaiaaWireSane
import Derived.Test.YtbhlfdklpihaiaaProg
import Derived.Test.YtbhlfdklpihaiaaWalk2
namespace Go.Proofs.Ytbhlfdklpihaiaa
open Go.Abs
set_option linter.unusedVariables false
set_option linter.unusedSimpArgs false
set_option maxRecDepth 20000

theorem length_p (bv : Value) (b : List UInt8) (hb : b.length ≤ 4294967296) (m : Nat) (hm : 0 < m) (hm2 : m ≤ 4294967296) :
    Meets Try.prog 42 [bv, .int .i64 ((m : Nat) : Int)] [ro bv 1 (u8c b)] (fun v G => v = .tuple #[.int .i64 ((lenD b m).1 : Nat), .int .i64 ((lenD b m).2.1 : Nat), .int .i64 ((lenD b m).2.2 : Nat)] ∧ G = []) := by
  refine fn_of_run Try.func42 rfl Try.ntmps42 rfl (fun w0 o0 => ?_)
  refine run_seq ?_
  refine run_region' ?_
  refine ops_y (wn rfl) rfl (y_assign rfl) ?_
  refine ops_y (wn rfl) rfl (y_assign rfl) ?_
  refine ops_y (wn rfl) rfl (y_assign rfl) ?_
  refine ops_nil ?_
  refine goes_code ?_
  refine run_seq ?_
  refine run_region' ?_
  refine ops_y (wn rfl) rfl (y_move rfl) ?_
  refine ops_t (wn rfl) rfl (t_call (vs := [bv]) (cs := []) [⟨0, false⟩] rfl Try.call24 rfl (getInt_p bv _ (by first | omega | (simp only [List.length_drop, List.length_take, List.length_append]; omega) | (simp; done))) (shows_cons 0 false rfl views_ro shows_nil) (.inl rfl)) ?_
  rintro _ _ ⟨_, ⟨rfl, rfl⟩, rfl⟩
  have hg1 := getI_any b
  refine ops_y (wn rfl) rfl (y_move rfl) ?_
  refine ops_y (wn rfl) rfl (y_extract rfl rfl) ?_
  refine ops_y (wn rfl) rfl (y_extract rfl rfl) ?_
  refine ops_y (wn rfl) rfl (y_extract rfl rfl) ?_
  refine ops_y (wn rfl) rfl (y_assign rfl) ?_
  refine ops_y (wn rfl) rfl (y_assign rfl) ?_
  refine ops_y (wn rfl) rfl (y_assign rfl) ?_
  refine ops_nil ?_
  refine goes_code ?_
  refine run_seq ?_
  refine run_block ?_
  refine run_seq ?_
  refine run_weak [(0, bv), (1, .int .i64 ((m : Nat) : Int)), (4, .int .i64 0), (5, .int .i64 0), (6, .int .i64 0), (7, .int .i64 ((getI b).1)), (8, .int .i64 (((getI b).2.1 : Nat) : Int)), (9, .int .i64 (((getI b).2.2 : Nat) : Int))] [0] [ro bv 1 (u8c b)] (vcons rfl (vcons rfl (vcons rfl (vcons rfl (vcons rfl (vcons rfl (vcons rfl (vcons rfl (vnil))))))))) (by decide) rfl ?_
  refine run_region' ?_
  refine ops_y (wn rfl) rfl (y_move rfl) ?_
  refine ops_y (wn rfl) rfl (y_neq rfl rfl) ?_
  refine ops_y (wn rfl) rfl (y_assign rfl) ?_
  refine ops_nil ?_
  refine goes_code ?_
  refine run_cond _ rfl (fun hc2 => ?_) (fun hc2 => ?_)
  · -- B1t
    replace hc2 := of_decide_eq_true hc2
    refine run_seq ?_
    refine run_region' ?_
    refine ops_y (wn rfl) rfl (y_move rfl) ?_
    refine ops_y (wn rfl) rfl (y_assign rfl) ?_
    refine ops_y (wn rfl) rfl (y_assign rfl) ?_
    refine ops_y (wn rfl) rfl (y_assign rfl) ?_
    refine ops_nil ?_
    refine goes_code ?_
    refine run_ret ?_
    refine fin_slots [4, 5, 6] [.int .i64 0, .int .i64 0, .int .i64 (((getI b).2.2 : Nat) : Int)] [] [] Try.results42 rfl (by decide) rfl ?_
    dsimp only [tup]
    rw [lenD_1 (by omega)]; exact ⟨rfl, rfl⟩
  · -- B1f
    replace hc2 := of_decide_eq_false hc2
    refine run_seq ?_
    refine run_region' ?_
    refine ops_y (wn rfl) rfl (y_move rfl) ?_
    refine ops_y (wn rfl) rfl (y_lss rfl rfl) ?_
    refine ops_y (wn rfl) rfl (y_assign rfl) ?_
    refine ops_nil ?_
    refine goes_code ?_
    refine run_cond _ rfl (fun hc3 => ?_) (fun hc3 => ?_)
    · -- B2t
      replace hc3 := of_decide_eq_true hc3
      refine run_seq ?_
      refine run_region' ?_
      refine ops_y (wn rfl) rfl (y_assign rfl) ?_
      refine ops_y (wn rfl) rfl (y_assign rfl) ?_
      refine ops_y (wn rfl) rfl (y_assign rfl) ?_
      refine ops_nil ?_
      refine goes_code ?_
      refine run_ret ?_
      refine fin_slots [4, 5, 6] [.int .i64 0, .int .i64 0, .int .i64 11] [] [] Try.results42 rfl (by decide) rfl ?_
      dsimp only [tup]
      rw [lenD_2 (by omega) (by omega)]; exact ⟨rfl, rfl⟩
    · -- B2f
      replace hc3 := of_decide_eq_false hc3
      refine run_seq ?_
      refine run_region' ?_
      refine ops_y (wn rfl) rfl (y_move rfl) ?_
      refine ops_y (wn rfl) rfl (y_move rfl) ?_
      refine ops_y (wn rfl) rfl ((y_len 0 rfl Try.runUnderlying28 rfl rfl reads_ro).to (congrArg (fun n : Nat => Value.int .i64 (n : Int)) (u8c_len _))) ?_
      refine ops_y (wn rfl) rfl (y_move rfl) ?_
      refine ops_y (wn rfl) rfl (OpY.to (v' := .int .i64 (((b.length - (getI b).2.1) : Nat) : Int)) (y_sub rfl rfl) (v64s (by omega) (by omega))) ?_
      refine ops_y (wn rfl) rfl (y_move rfl) ?_
      obtain ⟨q, hqe⟩ : ∃ q, q = (b.length - (getI b).2.1) / m := ⟨_, rfl⟩
      have hq : q ≤ b.length - (getI b).2.1 := hqe ▸ Nat.div_le_self _ _
      refine ops_y (wn rfl) rfl (OpY.to (v' := .int .i64 ((q : Nat) : Int)) (y_quo rfl rfl (by omega)) (by rw [hqe]; exact v64d (by omega))) ?_
      refine ops_y (wn rfl) rfl (y_gtr rfl rfl) ?_
      refine ops_y (wn rfl) rfl (y_assign rfl) ?_
      refine ops_nil ?_
      refine goes_code ?_
      refine run_cond _ rfl (fun hc4 => ?_) (fun hc4 => ?_)
      · -- B3t
        replace hc4 := of_decide_eq_true hc4
        refine run_seq ?_
        refine run_weak [(4, .int .i64 0), (5, .int .i64 0), (6, .int .i64 0), (7, .int .i64 ((getI b).1)), (8, .int .i64 (((getI b).2.1 : Nat) : Int))] [0] [ro bv 1 (u8c b)] (vcons rfl (vcons rfl (vcons rfl (vcons rfl (vcons rfl (vnil)))))) (by decide) rfl ?_
        refine run_region' ?_
        refine ops_y (wn rfl) rfl (y_assign rfl) ?_
        refine ops_y (wn rfl) rfl (y_assign rfl) ?_
        refine ops_y (wn rfl) rfl (y_assign rfl) ?_
        refine ops_nil ?_
        refine goes_code ?_
        refine run_ret ?_
        refine fin_slots [4, 5, 6] [.int .i64 0, .int .i64 0, .int .i64 10] [] [] Try.results42 rfl (by decide) rfl ?_
        dsimp only [tup]
        rw [lenD_3 (by omega) (by omega) (by rw [← hqe]; omega)]; exact ⟨rfl, rfl⟩
      · -- B3f
        replace hc4 := of_decide_eq_false hc4
        refine run_skip ?_
        refine goes_blk ?_
        refine goes_code ?_
        refine run_seq ?_
        refine run_weak [(4, .int .i64 0), (5, .int .i64 0), (6, .int .i64 0), (7, .int .i64 ((getI b).1)), (8, .int .i64 (((getI b).2.1 : Nat) : Int))] [0] [ro bv 1 (u8c b)] (vcons rfl (vcons rfl (vcons rfl (vcons rfl (vcons rfl (vnil)))))) (by decide) rfl ?_
        refine run_region' ?_
        refine ops_y (wn rfl) rfl (OpY.to (v' := .int .i64 (((getI b).1.toNat : Nat) : Int)) (y_move rfl) (congrArg (fun n : Int => Value.int .i64 n) (by omega))) ?_
        refine ops_y (wn rfl) rfl (y_move rfl) ?_
        refine ops_y (wn rfl) rfl (y_assign rfl) ?_
        refine ops_y (wn rfl) rfl (y_assign rfl) ?_
        refine ops_y (wn rfl) rfl (y_assign rfl) ?_
        refine ops_nil ?_
        refine goes_code ?_
        refine run_ret ?_
        refine fin_slots [4, 5, 6] [.int .i64 (((getI b).1.toNat : Nat) : Int), .int .i64 (((getI b).2.1 : Nat) : Int), .int .i64 0] [] [] Try.results42 rfl (by decide) rfl ?_
        dsimp only [tup]
        rw [lenD_4 (by omega) (by omega) (by rw [← hqe]; omega)]; exact ⟨rfl, rfl⟩

theorem length_r (bv : Value) (b : List UInt8) (hb : b.length ≤ 4294967296) (m : Nat) (hm : 0 < m) (hm2 : m ≤ 4294967296) :
    Meets Try.prog 44 [bv, .int .i64 ((m : Nat) : Int)] [ro bv 1 (u8c b)] (fun v G => v = .tuple #[.int .i64 ((lenD b m).1 : Nat), .int .i64 ((lenD b m).2.1 : Nat), .int .i64 ((lenD b m).2.2 : Nat)] ∧ G = []) := by
  refine fn_of_run Try.func44 rfl Try.ntmps44 rfl (fun w0 o0 => ?_)
  refine run_seq ?_
  refine run_region' ?_
  refine ops_y (wn rfl) rfl (y_assign rfl) ?_
  refine ops_y (wn rfl) rfl (y_assign rfl) ?_
  refine ops_y (wn rfl) rfl (y_assign rfl) ?_
  refine ops_nil ?_
  refine goes_code ?_
  refine run_seq ?_
  refine run_region' ?_
  refine ops_y (wn rfl) rfl (y_move rfl) ?_
  refine ops_t (wn rfl) rfl (t_call (vs := [bv]) (cs := []) [⟨0, false⟩] rfl Try.call25 rfl (getInt_r bv _ (by first | omega | (simp only [List.length_drop, List.length_take, List.length_append]; omega) | (simp; done))) (shows_cons 0 false rfl views_ro shows_nil) (.inl rfl)) ?_
  rintro _ _ ⟨_, ⟨rfl, rfl⟩, rfl⟩
  have hg1 := getI_any b
  refine ops_y (wn rfl) rfl (y_move rfl) ?_
  refine ops_y (wn rfl) rfl (y_extract rfl rfl) ?_
  refine ops_y (wn rfl) rfl (y_extract rfl rfl) ?_
  refine ops_y (wn rfl) rfl (y_extract rfl rfl) ?_
  refine ops_y (wn rfl) rfl (y_assign rfl) ?_
  refine ops_y (wn rfl) rfl (y_assign rfl) ?_
  refine ops_y (wn rfl) rfl (y_assign rfl) ?_
  refine ops_nil ?_
  refine goes_code ?_
  refine run_seq ?_
  refine run_seq ?_
  refine run_weak [(0, bv), (1, .int .i64 ((m : Nat) : Int)), (4, .int .i64 0), (5, .int .i64 0), (6, .int .i64 0), (7, .int .i64 ((getI b).1)), (8, .int .i64 (((getI b).2.1 : Nat) : Int)), (9, .int .i64 (((getI b).2.2 : Nat) : Int))] [0] [ro bv 1 (u8c b)] (vcons rfl (vcons rfl (vcons rfl (vcons rfl (vcons rfl (vcons rfl (vcons rfl (vcons rfl (vnil))))))))) (by decide) rfl ?_
  refine run_region' ?_
  refine ops_y (wn rfl) rfl (y_move rfl) ?_
  refine ops_y (wn rfl) rfl (y_neq rfl rfl) ?_
  refine ops_nil ?_
  refine goes_code ?_
  refine run_cond _ rfl (fun hc2 => ?_) (fun hc2 => ?_)
  · -- B1t
    replace hc2 := of_decide_eq_true hc2
    refine run_seq ?_
    refine run_region' ?_
    refine ops_y (wn rfl) rfl (y_move rfl) ?_
    refine ops_y (wn rfl) rfl (y_assign rfl) ?_
    refine ops_y (wn rfl) rfl (y_assign rfl) ?_
    refine ops_y (wn rfl) rfl (y_assign rfl) ?_
    refine ops_nil ?_
    refine goes_code ?_
    refine run_ret ?_
    refine fin_slots [4, 5, 6] [.int .i64 0, .int .i64 0, .int .i64 (((getI b).2.2 : Nat) : Int)] [] [] Try.results44 rfl (by decide) rfl ?_
    dsimp only [tup]
    rw [lenD_1 (by omega)]; exact ⟨rfl, rfl⟩
  · -- B1f
    replace hc2 := of_decide_eq_false hc2
    refine run_skip ?_
    refine goes_code ?_
    refine run_seq ?_
    refine run_seq ?_
    refine run_region' ?_
    refine ops_y (wn rfl) rfl (y_move rfl) ?_
    refine ops_y (wn rfl) rfl (y_lss rfl rfl) ?_
    refine ops_nil ?_
    refine goes_code ?_
    refine run_cond _ rfl (fun hc3 => ?_) (fun hc3 => ?_)
    · -- B2t
      replace hc3 := of_decide_eq_true hc3
      refine run_seq ?_
      refine run_region' ?_
      refine ops_y (wn rfl) rfl (y_assign rfl) ?_
      refine ops_y (wn rfl) rfl (y_assign rfl) ?_
      refine ops_y (wn rfl) rfl (y_assign rfl) ?_
      refine ops_nil ?_
      refine goes_code ?_
      refine run_ret ?_
      refine fin_slots [4, 5, 6] [.int .i64 0, .int .i64 0, .int .i64 11] [] [] Try.results44 rfl (by decide) rfl ?_
      dsimp only [tup]
      rw [lenD_2 (by omega) (by omega)]; exact ⟨rfl, rfl⟩
    · -- B2f
      replace hc3 := of_decide_eq_false hc3
      refine run_skip ?_
      refine goes_code ?_
      refine run_seq ?_
      refine run_seq ?_
      refine run_region' ?_
      refine ops_y (wn rfl) rfl (y_move rfl) ?_
      refine ops_y (wn rfl) rfl (y_move rfl) ?_
      refine ops_y (wn rfl) rfl ((y_len 0 rfl Try.runUnderlying28 rfl rfl reads_ro).to (congrArg (fun n : Nat => Value.int .i64 (n : Int)) (u8c_len _))) ?_
      refine ops_y (wn rfl) rfl (y_move rfl) ?_
      refine ops_y (wn rfl) rfl (OpY.to (v' := .int .i64 (((b.length - (getI b).2.1) : Nat) : Int)) (y_sub rfl rfl) (v64s (by omega) (by omega))) ?_
      refine ops_y (wn rfl) rfl (y_move rfl) ?_
      obtain ⟨q, hqe⟩ : ∃ q, q = (b.length - (getI b).2.1) / m := ⟨_, rfl⟩
      have hq : q ≤ b.length - (getI b).2.1 := hqe ▸ Nat.div_le_self _ _
      refine ops_y (wn rfl) rfl (OpY.to (v' := .int .i64 ((q : Nat) : Int)) (y_quo rfl rfl (by omega)) (by rw [hqe]; exact v64d (by omega))) ?_
      refine ops_y (wn rfl) rfl (y_gtr rfl rfl) ?_
      refine ops_nil ?_
      refine goes_code ?_
      refine run_cond _ rfl (fun hc4 => ?_) (fun hc4 => ?_)
      · -- B3t
        replace hc4 := of_decide_eq_true hc4
        refine run_seq ?_
        refine run_weak [(4, .int .i64 0), (5, .int .i64 0), (6, .int .i64 0), (7, .int .i64 ((getI b).1)), (8, .int .i64 (((getI b).2.1 : Nat) : Int))] [0] [ro bv 1 (u8c b)] (vcons rfl (vcons rfl (vcons rfl (vcons rfl (vcons rfl (vnil)))))) (by decide) rfl ?_
        refine run_region' ?_
        refine ops_y (wn rfl) rfl (y_assign rfl) ?_
        refine ops_y (wn rfl) rfl (y_assign rfl) ?_
        refine ops_y (wn rfl) rfl (y_assign rfl) ?_
        refine ops_nil ?_
        refine goes_code ?_
        refine run_ret ?_
        refine fin_slots [4, 5, 6] [.int .i64 0, .int .i64 0, .int .i64 10] [] [] Try.results44 rfl (by decide) rfl ?_
        dsimp only [tup]
        rw [lenD_3 (by omega) (by omega) (by rw [← hqe]; omega)]; exact ⟨rfl, rfl⟩
      · -- B3f
        replace hc4 := of_decide_eq_false hc4
        refine run_skip ?_
        refine goes_code ?_
        refine run_seq ?_
        refine run_weak [(4, .int .i64 0), (5, .int .i64 0), (6, .int .i64 0), (7, .int .i64 ((getI b).1)), (8, .int .i64 (((getI b).2.1 : Nat) : Int))] [0] [ro bv 1 (u8c b)] (vcons rfl (vcons rfl (vcons rfl (vcons rfl (vcons rfl (vnil)))))) (by decide) rfl ?_
        refine run_region' ?_
        refine ops_y (wn rfl) rfl (OpY.to (v' := .int .i64 (((getI b).1.toNat : Nat) : Int)) (y_move rfl) (congrArg (fun n : Int => Value.int .i64 n) (by omega))) ?_
        refine ops_y (wn rfl) rfl (y_move rfl) ?_
        refine ops_y (wn rfl) rfl (y_assign rfl) ?_
        refine ops_y (wn rfl) rfl (y_assign rfl) ?_
        refine ops_y (wn rfl) rfl (y_assign rfl) ?_
        refine ops_nil ?_
        refine goes_code ?_
        refine run_ret ?_
        refine fin_slots [4, 5, 6] [.int .i64 (((getI b).1.toNat : Nat) : Int), .int .i64 (((getI b).2.1 : Nat) : Int), .int .i64 0] [] [] Try.results44 rfl (by decide) rfl ?_
        dsimp only [tup]
        rw [lenD_4 (by omega) (by omega) (by rw [← hqe]; omega)]; exact ⟨rfl, rfl⟩

theorem getS_p (bv : Value) (b : List UInt8) (hb : b.length ≤ 4294967296) :
    Meets Try.prog 26 [bv] [ro bv 1 (u8c b)] (fun v G => v = .tuple #[.string (bs (getS b).1), .int .i64 ((getS b).2.1 : Nat), .int .i64 ((getS b).2.2 : Nat)] ∧ G = []) := by
  refine fn_of_run Try.func26 rfl Try.ntmps26 rfl (fun w0 o0 => ?_)
  refine run_seq ?_
  refine run_region' ?_
  refine ops_y (wn rfl) rfl (y_assign rfl) ?_
  refine ops_y (wn rfl) rfl (y_assign rfl) ?_
  refine ops_y (wn rfl) rfl (y_assign rfl) ?_
  refine ops_nil ?_
  refine goes_code ?_
  refine run_seq ?_
  refine run_region' ?_
  refine ops_y (wn rfl) rfl (y_move rfl) ?_
  refine ops_t (wn rfl) rfl (t_call (vs := [bv, .int .i64 1]) (cs := []) [⟨0, false⟩] rfl Try.call42 rfl (length_p bv _ (by first | omega | (simp only [List.length_drop, List.length_take, List.length_append]; omega) | (simp; done)) 1 (by omega) (by omega)) (shows_cons 0 false rfl views_ro shows_nil) (.inl rfl)) ?_
  rintro _ _ ⟨_, ⟨rfl, rfl⟩, rfl⟩
  have hg1 := lenD_any (b := b) (least := 1) (by omega)
  refine ops_y (wn rfl) rfl (y_move rfl) ?_
  refine ops_y (wn rfl) rfl (y_extract rfl rfl) ?_
  refine ops_y (wn rfl) rfl (y_extract rfl rfl) ?_
  refine ops_y (wn rfl) rfl (y_extract rfl rfl) ?_
  refine ops_y (wn rfl) rfl (y_assign rfl) ?_
  refine ops_y (wn rfl) rfl (y_assign rfl) ?_
  refine ops_y (wn rfl) rfl (y_assign rfl) ?_
  refine ops_nil ?_
  refine goes_code ?_
  refine run_seq ?_
  refine run_seq ?_
  refine run_weak [(0, bv), (2, .string (bs [])), (3, .int .i64 0), (4, .int .i64 0), (5, .int .i64 (((lenD b 1).1 : Nat) : Int)), (6, .int .i64 (((lenD b 1).2.1 : Nat) : Int)), (7, .int .i64 (((lenD b 1).2.2 : Nat) : Int))] [0] [ro bv 1 (u8c b)] (vcons rfl (vcons rfl (vcons rfl (vcons rfl (vcons rfl (vcons rfl (vcons rfl (vnil)))))))) (by decide) rfl ?_
  refine run_region' ?_
  refine ops_y (wn rfl) rfl (y_move rfl) ?_
  refine ops_y (wn rfl) rfl (y_neq rfl rfl) ?_
  refine ops_nil ?_
  refine goes_code ?_
  refine run_cond _ rfl (fun hc2 => ?_) (fun hc2 => ?_)
  · -- B1t
    replace hc2 := of_decide_eq_true hc2
    refine run_seq ?_
    refine run_region' ?_
    refine ops_y (wn rfl) rfl (y_move rfl) ?_
    refine ops_y (wn rfl) rfl (y_assign rfl) ?_
    refine ops_y (wn rfl) rfl (y_assign rfl) ?_
    refine ops_y (wn rfl) rfl (y_assign rfl) ?_
    refine ops_nil ?_
    refine goes_code ?_
    refine run_ret ?_
    refine fin_slots [2, 3, 4] [.string (bs []), .int .i64 0, .int .i64 (((lenD b 1).2.2 : Nat) : Int)] [] [] Try.results26 rfl (by decide) rfl ?_
    dsimp only [tup]
    rw [getS_1 (by omega)]; exact ⟨rfl, rfl⟩
  · -- B1f
    replace hc2 := of_decide_eq_false hc2
    refine run_skip ?_
    refine goes_code ?_
    refine run_seq ?_
    refine run_region' ?_
    refine ops_y (wn rfl) rfl (y_move rfl) ?_
    refine ops_y (wn rfl) rfl (y_move rfl) ?_
    refine ops_y (wn rfl) rfl (y_move rfl) ?_
    refine ops_y (wn rfl) rfl (y_move rfl) ?_
    refine ops_y (wn rfl) rfl ((y_add rfl rfl).to (v64n (a := ((lenD b 1).2.1)) (b := ((lenD b 1).1)) (by omega))) ?_
    refine ops_t (wn rfl) rfl (t_slice (l := ((lenD b 1).2.1)) (r := ((lenD b 1).2.1 + (lenD b 1).1)) 0 Try.runUnderlying28 Try.sizeOf5 rfl rfl (bd1 rfl) (bd1 rfl) (by omega) (by rw [u8c_len]; omega)) ?_
    rintro v3 _ rfl
    refine ops_turn (retell 1 (g := ro v3 1 (u8c ((b.take ((lenD b 1).2.1 + (lenD b 1).1)).drop ((lenD b 1).2.1)))) rfl (by simp [List.map_take, List.map_drop, u8c])) ?_
    refine ops_y (wn rfl) rfl (y_b2s (l := ((b.take ((lenD b 1).2.1 + (lenD b 1).1)).drop ((lenD b 1).2.1))) 1 Try.runUnderlying28 Try.runUnderlying5 Try.runUnderlying9 rfl rfl reads_ro) ?_
    refine ops_y (wn rfl) rfl (y_move rfl) ?_
    refine ops_y (wn rfl) rfl (y_move rfl) ?_
    refine ops_y (wn rfl) rfl ((y_add rfl rfl).to (v64n (a := ((lenD b 1).2.1)) (b := ((lenD b 1).1)) (by omega))) ?_
    refine ops_y (wn rfl) rfl (y_assign rfl) ?_
    refine ops_y (wn rfl) rfl (y_assign rfl) ?_
    refine ops_y (wn rfl) rfl (y_assign rfl) ?_
    refine ops_nil ?_
    refine goes_code ?_
    refine run_ret ?_
    refine fin_slots [2, 3, 4] [.string (bs ((b.take ((lenD b 1).2.1 + (lenD b 1).1)).drop ((lenD b 1).2.1))), .int .i64 ((((lenD b 1).2.1 + (lenD b 1).1) : Nat) : Int), .int .i64 0] [] [] Try.results26 rfl (by decide) rfl ?_
    dsimp only [tup]
    rw [getS_2 (by omega)]; exact ⟨rfl, rfl⟩

theorem getS_r (bv : Value) (b : List UInt8) (hb : b.length ≤ 4294967296) :
    Meets Try.prog 27 [bv] [ro bv 1 (u8c b)] (fun v G => v = .tuple #[.string (bs (getS b).1), .int .i64 ((getS b).2.1 : Nat), .int .i64 ((getS b).2.2 : Nat)] ∧ G = []) := by
  refine fn_of_run Try.func27 rfl Try.ntmps27 rfl (fun w0 o0 => ?_)
  refine run_seq ?_
  refine run_region' ?_
  refine ops_y (wn rfl) rfl (y_assign rfl) ?_
  refine ops_y (wn rfl) rfl (y_assign rfl) ?_
  refine ops_y (wn rfl) rfl (y_assign rfl) ?_
  refine ops_nil ?_
  refine goes_code ?_
  refine run_seq ?_
  refine run_region' ?_
  refine ops_y (wn rfl) rfl (y_move rfl) ?_
  refine ops_t (wn rfl) rfl (t_call (vs := [bv]) (cs := []) [⟨0, false⟩] rfl Try.call25 rfl (getInt_r bv _ (by first | omega | (simp only [List.length_drop, List.length_take, List.length_append]; omega) | (simp; done))) (shows_cons 0 false rfl views_ro shows_nil) (.inl rfl)) ?_
  rintro _ _ ⟨_, ⟨rfl, rfl⟩, rfl⟩
  have hg1 := getI_any b
  refine ops_y (wn rfl) rfl (y_move rfl) ?_
  refine ops_y (wn rfl) rfl (y_extract rfl rfl) ?_
  refine ops_y (wn rfl) rfl (y_extract rfl rfl) ?_
  refine ops_y (wn rfl) rfl (y_extract rfl rfl) ?_
  refine ops_y (wn rfl) rfl (y_assign rfl) ?_
  refine ops_y (wn rfl) rfl (y_assign rfl) ?_
  refine ops_y (wn rfl) rfl (y_assign rfl) ?_
  refine ops_nil ?_
  refine goes_code ?_
  refine run_seq ?_
  refine run_seq ?_
  refine run_weak [(0, bv), (2, .string (bs [])), (3, .int .i64 0), (4, .int .i64 0), (5, .int .i64 ((getI b).1)), (6, .int .i64 (((getI b).2.1 : Nat) : Int)), (7, .int .i64 (((getI b).2.2 : Nat) : Int))] [0] [ro bv 1 (u8c b)] (vcons rfl (vcons rfl (vcons rfl (vcons rfl (vcons rfl (vcons rfl (vcons rfl (vnil)))))))) (by decide) rfl ?_
  refine run_region' ?_
  refine ops_y (wn rfl) rfl (y_move rfl) ?_
  refine ops_y (wn rfl) rfl (y_neq rfl rfl) ?_
  refine ops_nil ?_
  refine goes_code ?_
  refine run_cond _ rfl (fun hc2 => ?_) (fun hc2 => ?_)
  · -- B1t
    replace hc2 := of_decide_eq_true hc2
    refine run_seq ?_
    refine run_region' ?_
    refine ops_y (wn rfl) rfl (y_move rfl) ?_
    refine ops_y (wn rfl) rfl (y_assign rfl) ?_
    refine ops_y (wn rfl) rfl (y_assign rfl) ?_
    refine ops_y (wn rfl) rfl (y_assign rfl) ?_
    refine ops_nil ?_
    refine goes_code ?_
    refine run_ret ?_
    refine fin_slots [2, 3, 4] [.string (bs []), .int .i64 0, .int .i64 (((getI b).2.2 : Nat) : Int)] [] [] Try.results27 rfl (by decide) rfl ?_
    dsimp only [tup]
    rw [getS_1 (by rw [lenD_1 (by omega)]; show (getI b).2.2 ≠ 0; omega), lenD_1 (by omega)]; exact ⟨rfl, rfl⟩
  · -- B1f
    replace hc2 := of_decide_eq_false hc2
    refine run_skip ?_
    refine goes_code ?_
    refine run_seq ?_
    refine run_seq ?_
    refine run_region' ?_
    refine ops_y (wn rfl) rfl (y_move rfl) ?_
    refine ops_y (wn rfl) rfl (y_lss rfl rfl) ?_
    refine ops_nil ?_
    refine goes_code ?_
    refine run_cond _ rfl (fun hc3 => ?_) (fun hc3 => ?_)
    · -- B2t
      replace hc3 := of_decide_eq_true hc3
      refine run_seq ?_
      refine run_region' ?_
      refine ops_y (wn rfl) rfl (y_assign rfl) ?_
      refine ops_y (wn rfl) rfl (y_assign rfl) ?_
      refine ops_y (wn rfl) rfl (y_assign rfl) ?_
      refine ops_nil ?_
      refine goes_code ?_
      refine run_ret ?_
      refine fin_slots [2, 3, 4] [.string (bs []), .int .i64 0, .int .i64 11] [] [] Try.results27 rfl (by decide) rfl ?_
      dsimp only [tup]
      rw [getS_1 (by rw [lenD_2 (by omega) (by omega)]; decide), lenD_2 (by omega) (by omega)]; exact ⟨rfl, rfl⟩
    · -- B2f
      replace hc3 := of_decide_eq_false hc3
      refine run_skip ?_
      refine goes_code ?_
      refine run_seq ?_
      refine run_seq ?_
      refine run_region' ?_
      refine ops_y (wn rfl) rfl (y_move rfl) ?_
      refine ops_y (wn rfl) rfl (y_move rfl) ?_
      refine ops_y (wn rfl) rfl ((y_len 0 rfl Try.runUnderlying28 rfl rfl reads_ro).to (congrArg (fun n : Nat => Value.int .i64 (n : Int)) (u8c_len _))) ?_
      refine ops_y (wn rfl) rfl (y_move rfl) ?_
      refine ops_y (wn rfl) rfl (OpY.to (v' := .int .i64 (((b.length - (getI b).2.1) : Nat) : Int)) (y_sub rfl rfl) (v64s (by omega) (by omega))) ?_
      refine ops_y (wn rfl) rfl (y_gtr rfl rfl) ?_
      refine ops_nil ?_
      refine goes_code ?_
      refine run_cond _ rfl (fun hc4 => ?_) (fun hc4 => ?_)
      · -- B3t
        replace hc4 := of_decide_eq_true hc4
        refine run_seq ?_
        refine run_weak [(0, bv), (2, .string (bs [])), (3, .int .i64 0), (4, .int .i64 0), (5, .int .i64 ((getI b).1)), (6, .int .i64 (((getI b).2.1 : Nat) : Int))] [0] [ro bv 1 (u8c b)] (vcons rfl (vcons rfl (vcons rfl (vcons rfl (vcons rfl (vcons rfl (vnil))))))) (by decide) rfl ?_
        refine run_region' ?_
        refine ops_y (wn rfl) rfl (y_assign rfl) ?_
        refine ops_y (wn rfl) rfl (y_assign rfl) ?_
        refine ops_y (wn rfl) rfl (y_assign rfl) ?_
        refine ops_nil ?_
        refine goes_code ?_
        refine run_ret ?_
        refine fin_slots [2, 3, 4] [.string (bs []), .int .i64 0, .int .i64 10] [] [] Try.results27 rfl (by decide) rfl ?_
        dsimp only [tup]
        rw [getS_1 (by rw [lenD_3 (by omega) (by omega) (by rw [Nat.div_one]; omega)]; decide), lenD_3 (by omega) (by omega) (by rw [Nat.div_one]; omega)]; exact ⟨rfl, rfl⟩
      · -- B3f
        replace hc4 := of_decide_eq_false hc4
        refine run_skip ?_
        refine goes_code ?_
        refine run_seq ?_
        refine run_weak [(0, bv), (2, .string (bs [])), (3, .int .i64 0), (4, .int .i64 0), (5, .int .i64 ((getI b).1)), (6, .int .i64 (((getI b).2.1 : Nat) : Int))] [0] [ro bv 1 (u8c b)] (vcons rfl (vcons rfl (vcons rfl (vcons rfl (vcons rfl (vcons rfl (vnil))))))) (by decide) rfl ?_
        refine run_region' ?_
        refine ops_y (wn rfl) rfl (y_move rfl) ?_
        refine ops_y (wn rfl) rfl (y_move rfl) ?_
        refine ops_y (wn rfl) rfl (y_move rfl) ?_
        have hd := lenD_4 (b := b) (m := 1) (by omega) (by omega) (by rw [Nat.div_one]; omega)
        have he := getS_2 (b := b) (by rw [hd])
        rw [hd] at he
        refine ops_y (wn rfl) rfl (OpY.to (v' := .int .i64 (((getI b).1.toNat : Nat) : Int)) (y_move rfl) (congrArg (fun n : Int => Value.int .i64 n) (by omega))) ?_
        refine ops_y (wn rfl) rfl ((y_add rfl rfl).to (v64n (a := ((getI b).2.1)) (b := ((getI b).1.toNat)) (by omega))) ?_
        refine ops_t (wn rfl) rfl (t_slice (l := ((getI b).2.1)) (r := ((getI b).2.1 + (getI b).1.toNat)) 0 Try.runUnderlying28 Try.sizeOf5 rfl rfl (bd1 rfl) (bd1 rfl) (by omega) (by rw [u8c_len]; omega)) ?_
        rintro v5 _ rfl
        refine ops_turn (retell 1 (g := ro v5 1 (u8c ((b.take ((getI b).2.1 + (getI b).1.toNat)).drop ((getI b).2.1)))) rfl (by simp [List.map_take, List.map_drop, u8c])) ?_
        refine ops_y (wn rfl) rfl (y_b2s (l := ((b.take ((getI b).2.1 + (getI b).1.toNat)).drop ((getI b).2.1))) 1 Try.runUnderlying28 Try.runUnderlying5 Try.runUnderlying9 rfl rfl reads_ro) ?_
        refine ops_y (wn rfl) rfl (y_move rfl) ?_
        refine ops_y (wn rfl) rfl (OpY.to (v' := .int .i64 (((getI b).1.toNat : Nat) : Int)) (y_move rfl) (congrArg (fun n : Int => Value.int .i64 n) (by omega))) ?_
        refine ops_y (wn rfl) rfl ((y_add rfl rfl).to (v64n (a := ((getI b).2.1)) (b := ((getI b).1.toNat)) (by omega))) ?_
        refine ops_y (wn rfl) rfl (y_assign rfl) ?_
        refine ops_y (wn rfl) rfl (y_assign rfl) ?_
        refine ops_y (wn rfl) rfl (y_assign rfl) ?_
        refine ops_nil ?_
        refine goes_code ?_
        refine run_ret ?_
        refine fin_slots [2, 3, 4] [.string (bs ((b.take ((getI b).2.1 + (getI b).1.toNat)).drop ((getI b).2.1))), .int .i64 ((((getI b).2.1 + (getI b).1.toNat) : Nat) : Int), .int .i64 0] [] [] Try.results27 rfl (by decide) rfl ?_
        dsimp only [tup]
        rw [he]; exact ⟨rfl, rfl⟩

theorem getD_p (bv : Value) (b : List UInt8) (hb : b.length ≤ 4294967296) (h16 : 16 ≤ b.length) :
    Meets Try.prog 47 [bv] [ro bv 1 (u8c b)] (fun v G => v = .tuple #[.agg (arr8 (b.take 16)).toArray, .int .i64 16, .int .i64 0] ∧ G = []) := by
  refine fn_of_run Try.func47 rfl Try.ntmps47 rfl (fun w0 o0 => ?_)
  refine run_seq ?_
  refine run_region' ?_
  refine ops_t (wn rfl) rfl (t_alloc Try.zeroValue57) ?_
  rintro _ _ ⟨b1, rfl, rfl⟩
  refine ops_y (wn rfl) rfl (y_assign rfl) ?_
  refine ops_y (wn rfl) rfl (y_assign rfl) ?_
  refine ops_nil ?_
  refine goes_code ?_
  refine run_seq ?_
  refine run_region' ?_
  refine ops_y (wn rfl) rfl (y_move rfl) ?_
  refine ops_t (wn rfl) rfl (t_slice (l := 0) (r := 16) 0 Try.runUnderlying28 Try.sizeOf5 rfl rfl bd0 (bd1 rfl) (by omega) (by rw [u8c_len]; omega)) ?_
  rintro v2 _ rfl
  refine ops_turn (retell 2 (g := ro v2 1 (u8c (b.take 16))) rfl (by simp [List.map_take, List.map_drop, u8c])) ?_
  refine ops_y (wn rfl) rfl (y_s2a 2 Try.runUnderlying57 rfl rfl reads_ro (by rw [u8c_len, List.length_take]; omega) (by decide)) ?_
  refine ops_y (wn rfl) rfl (y_load_arr8 2 Try.isAgg57 Try.sizeOf57 rfl rfl reads_ro (by simp only [u8c_len, List.length_take]; omega) (by decide)) ?_
  refine ops_t (wn rfl) rfl (t_store_all (c := arr8 ((b.take 16).take 16)) 1 Try.sizeOf57 rfl rfl rfl (by rw [arr8_len]; exact (by simp only [List.length_take]; omega)) (by first | rfl | (rw [arr8_len]; exact rfl)) (arr8_one _)) ?_
  rintro _ _ ⟨rfl, rfl⟩
  refine ops_y (wn rfl) rfl (y_assign rfl) ?_
  refine ops_y (wn rfl) rfl (y_assign rfl) ?_
  refine ops_nil ?_
  refine goes_code ?_
  refine run_ret ?_
  refine fin_res [.cell 2 57, .tmp 3, .tmp 4] [.agg (arr8 ((b.take 16).take 16)).toArray, .int .i64 16, .int .i64 0] [] [] Try.results47 rfl (rescons (res_box 1 Try.isAgg57 Try.sizeOf57 rfl rfl (by rw [arr8_len]; exact (by simp only [List.length_take]; omega))) (rescons (res_tmp rfl) (rescons (res_tmp rfl) resnil))) (by decide) rfl ?_
  dsimp only [tup]
  rw [List.take_take]; exact ⟨rfl, rfl⟩

structure getInts_g_S0 where
  i : Nat
  p : Nat
  v : Value
  o : List Int
theorem getInts_g (bv : Value) (b : List UInt8) (hb : b.length ≤ 4294967296) :
    Meets Try.prog 43 [bv, .int .i64 1, .func (.func 24) #[] #[]] [ro bv 1 (u8c b)] (fun v G => ∃ lv, v = .tuple #[lv, .int .i64 ((getL getI 1 b).2.1 : Nat), .int .i64 ((getL getI 1 b).2.2 : Nat)] ∧ G = [row lv 1 (i64c (getL getI 1 b).1)]) := by
  refine fn_of_run Try.func43 rfl Try.ntmps43 rfl (fun w0 o0 => ?_)
  refine run_seq ?_
  refine run_region' ?_
  refine ops_y (wn rfl) rfl (y_assign rfl) ?_
  refine ops_y (wn rfl) rfl (y_assign rfl) ?_
  refine ops_y (wn rfl) rfl (y_assign rfl) ?_
  refine ops_nil ?_
  refine goes_code ?_
  refine run_seq ?_
  refine run_region' ?_
  refine ops_y (wn rfl) rfl (y_move rfl) ?_
  refine ops_y (wn rfl) rfl (y_move rfl) ?_
  refine ops_t (wn rfl) rfl (t_call (vs := [bv, .int .i64 1]) (cs := []) [⟨0, false⟩] rfl Try.call42 rfl (length_p bv _ (by first | omega | (simp only [List.length_drop, List.length_take, List.length_append]; omega) | (simp; done)) 1 (by omega) (by omega)) (shows_cons 0 false rfl views_ro shows_nil) (.inl rfl)) ?_
  rintro _ _ ⟨_, ⟨rfl, rfl⟩, rfl⟩
  have hg1 := lenD_any (b := b) (least := 1) (by omega)
  refine ops_y (wn rfl) rfl (y_move rfl) ?_
  refine ops_y (wn rfl) rfl (y_extract rfl rfl) ?_
  refine ops_y (wn rfl) rfl (y_extract rfl rfl) ?_
  refine ops_y (wn rfl) rfl (y_extract rfl rfl) ?_
  refine ops_y (wn rfl) rfl (y_assign rfl) ?_
  refine ops_y (wn rfl) rfl (y_assign rfl) ?_
  refine ops_y (wn rfl) rfl (y_assign rfl) ?_
  refine ops_nil ?_
  refine goes_code ?_
  refine run_seq ?_
  refine run_seq ?_
  refine run_weak [(0, bv), (2, .func (.func 24) #[] #[]), (6, .slice none 0 0), (7, .int .i64 0), (8, .int .i64 0), (9, .int .i64 (((lenD b 1).1 : Nat) : Int)), (10, .int .i64 (((lenD b 1).2.1 : Nat) : Int)), (11, .int .i64 (((lenD b 1).2.2 : Nat) : Int))] [0] [ro bv 1 (u8c b)] (vcons rfl (vcons rfl (vcons rfl (vcons rfl (vcons rfl (vcons rfl (vcons rfl (vcons rfl (vnil))))))))) (by decide) rfl ?_
  refine run_region' ?_
  refine ops_y (wn rfl) rfl (y_move rfl) ?_
  refine ops_y (wn rfl) rfl (y_neq rfl rfl) ?_
  refine ops_nil ?_
  refine goes_code ?_
  refine run_cond _ rfl (fun hc2 => ?_) (fun hc2 => ?_)
  · -- B1t
    replace hc2 := of_decide_eq_true hc2
    refine run_seq ?_
    refine run_region' ?_
    refine ops_y (wn rfl) rfl (y_move rfl) ?_
    refine ops_y (wn rfl) rfl (y_assign rfl) ?_
    refine ops_y (wn rfl) rfl (y_assign rfl) ?_
    refine ops_y (wn rfl) rfl (y_assign rfl) ?_
    refine ops_nil ?_
    refine goes_code ?_
    refine run_ret ?_
    refine fin_turn (nilrow 1) ?_
    refine fin_turn (retell 1 (g := row (.slice none 0 0) 1 (i64c [])) rfl rfl) ?_
    refine fin_slots [6, 7, 8] [(.slice none 0 0), .int .i64 0, .int .i64 (((lenD b 1).2.2 : Nat) : Int)] [1] [row (.slice none 0 0) 1 (i64c [])] Try.results43 rfl (by decide) rfl ?_
    dsimp only [tup]
    rw [getL_err (by omega)]; exact ⟨_, rfl, rfl⟩
  · -- B1f
    replace hc2 := of_decide_eq_false hc2
    refine run_skip ?_
    refine goes_code ?_
    refine run_seq ?_
    refine run_region' ?_
    refine ops_y (wn rfl) rfl (y_assign rfl) ?_
    refine ops_nil ?_
    refine goes_code ?_
    refine run_seq ?_
    refine run_seq ?_
    refine run_region' ?_
    refine ops_y (wn rfl) rfl (y_move rfl) ?_
    refine ops_y (wn rfl) rfl (y_move rfl) ?_
    refine ops_nil ?_
    refine goes_code ?_
    refine run_block ?_
    refine run_turn (nilrow 1) ?_
    refine run_turn (retell 1 (g := row (.slice none 0 0) 1 (i64c [])) rfl rfl) ?_
    refine run_loop getInts_g_S0 (fun s => [(0, bv), (2, .func (.func 24) #[] #[]), (26, .int .i64 (((lenD b 1).1 : Nat) : Int)), (27, .int .i64 ((s.i : Nat) : Int)), (10, .int .i64 ((s.p : Nat) : Int)), (12, s.v)]) (fun s => [ro bv 1 (u8c b), row s.v 1 (i64c s.o)]) (fun s => s.i ≤ (lenD b 1).1 ∧ s.p ≤ b.length ∧ s.o.length = s.i ∧ finN s.o s.p (getN getI ((lenD b 1).1 - s.i) (b.drop s.p)) = getL getI 1 b) (fun s => (lenD b 1).1 - s.i) [0, 1] ⟨0, (lenD b 1).2.1, .slice none 0 0, []⟩ ?_ (by decide) ?_ ?_ ?_
    · exact (vcons rfl (vcons rfl (vcons rfl (vcons rfl (vcons rfl (vcons rfl (vnil)))))))
    · rfl
    · try dsimp only
      exact ⟨by omega, by omega, rfl, getL_fin (by omega)⟩
    rintro ⟨i, p, v, o⟩ ⟨hi, hp, ho, hf⟩ L3 hL4
    dsimp only at *
    refine run_seq ?_
    refine run_region' ?_
    refine ops_y (wn rfl) rfl (y_lss rfl rfl) ?_
    refine ops_nil ?_
    refine goes_code ?_
    refine run_seq ?_
    refine run_cond _ rfl (fun hc5 => ?_) (fun hc5 => ?_)
    · -- B2t
      replace hc5 := of_decide_eq_true hc5
      refine run_skip ?_
      refine goes_code ?_
      refine run_seq ?_
      refine run_block ?_
      refine run_seq ?_
      refine run_region' ?_
      refine ops_y (wn rfl) rfl (y_move rfl) ?_
      refine ops_y (wn rfl) rfl (y_move rfl) ?_
      refine ops_y (wn rfl) rfl (y_move rfl) ?_
      refine ops_t (wn rfl) rfl (t_slice (l := p) (r := b.length) 0 Try.runUnderlying28 Try.sizeOf5 rfl rfl (bd1 rfl) (.inl ⟨rfl, by rw [u8c_len]⟩) (by omega) (by rw [u8c_len]; omega)) ?_
      rintro v6 _ rfl
      refine ops_turn (retell 2 (g := ro v6 1 (u8c (b.drop p))) rfl (by simp [List.map_take, List.map_drop, List.take_of_length_le, u8c])) ?_
      refine ops_t (wn rfl) rfl (t_call (vs := [v6]) (cs := []) [⟨2, false⟩] rfl Try.call24 rfl (getInt_p v6 _ (by first | omega | (simp only [List.length_drop, List.length_take, List.length_append]; omega) | (simp; done))) (shows_cons 2 false rfl views_ro shows_nil) (.inl rfl)) ?_
      rintro _ _ ⟨_, ⟨rfl, rfl⟩, rfl⟩
      have hg7 := getI_any (b.drop p)
      refine ops_y (wn rfl) rfl (y_move rfl) ?_
      refine ops_y (wn rfl) rfl (y_extract rfl rfl) ?_
      refine ops_y (wn rfl) rfl (y_extract rfl rfl) ?_
      refine ops_y (wn rfl) rfl (y_extract rfl rfl) ?_
      refine ops_y (wn rfl) rfl (y_assign rfl) ?_
      refine ops_y (wn rfl) rfl (y_assign rfl) ?_
      refine ops_y (wn rfl) rfl (y_assign rfl) ?_
      refine ops_nil ?_
      refine goes_code ?_
      refine run_seq ?_
      refine run_seq ?_
      refine run_weak [(0, bv), (2, .func (.func 24) #[] #[]), (26, .int .i64 (((lenD b 1).1 : Nat) : Int)), (27, .int .i64 ((i : Nat) : Int)), (10, .int .i64 ((p : Nat) : Int)), (12, v), (13, .int .i64 ((getI (b.drop p)).1)), (14, .int .i64 (((getI (b.drop p)).2.1 : Nat) : Int)), (15, .int .i64 (((getI (b.drop p)).2.2 : Nat) : Int))] [0, 1] [ro bv 1 (u8c b), row v 1 (i64c o)] (vcons rfl (vcons rfl (vcons rfl (vcons rfl (vcons rfl (vcons rfl (vcons rfl (vcons rfl (vcons rfl (vnil)))))))))) (by decide) rfl ?_
      refine run_region' ?_
      refine ops_y (wn rfl) rfl (y_move rfl) ?_
      refine ops_y (wn rfl) rfl (y_neq rfl rfl) ?_
      refine ops_nil ?_
      refine goes_code ?_
      refine run_cond _ rfl (fun hc8 => ?_) (fun hc8 => ?_)
      · -- B3t
        replace hc8 := of_decide_eq_true hc8
        refine run_seq ?_
        refine run_region' ?_
        refine ops_y (wn rfl) rfl (y_move rfl) ?_
        refine ops_y (wn rfl) rfl (y_assign rfl) ?_
        refine ops_y (wn rfl) rfl (y_assign rfl) ?_
        refine ops_y (wn rfl) rfl (y_assign rfl) ?_
        refine ops_nil ?_
        refine goes_code ?_
        refine run_ret ?_
        refine fin_turn (nilrow 1) ?_
        refine fin_turn (retell 2 (g := row (.slice none 0 0) 1 (i64c [])) rfl rfl) ?_
        refine fin_slots [6, 7, 8] [(.slice none 0 0), .int .i64 0, .int .i64 (((getI (b.drop p)).2.2 : Nat) : Int)] [2] [row (.slice none 0 0) 1 (i64c [])] Try.results43 rfl (by decide) rfl ?_
        dsimp only [tup]
        rw [finN_bad (by omega) (by omega)] at hf; rw [← hf]; exact ⟨_, rfl, rfl⟩
      · -- B3f
        replace hc8 := of_decide_eq_false hc8
        refine run_skip ?_
        refine goes_code ?_
        refine run_region' ?_
        refine ops_y (wn rfl) rfl (y_move rfl) ?_
        refine ops_y (wn rfl) rfl (y_move rfl) ?_
        refine ops_t (wn rfl) rfl (t_lit [.int .i64 ((getI (b.drop p)).1)] Try.runUnderlying22 Try.sizeOf3 Try.zeroValue3 rfl (by decide) (by decide) rfl (by simp [Value.cells])) ?_
        rintro v9 _ ⟨rfl, _⟩
        refine ops_turn (retell 2 (g := row v9 1 (i64c [(getI (b.drop p)).1])) rfl rfl) ?_
        refine ops_t (wn rfl) rfl (t_append (es := 1) 1 rfl Try.runUnderlying22 rfl Try.runUnderlying22 (.inr ⟨_, rfl⟩) Try.typeInfo3 rfl (by decide) Try.zeroValue3 rfl rfl rfl rfl (src_reads 2 rfl reads_row (i64c_ok _)) (by simp only [i64c_len, arrc_len, u8c_len, i64c_len, strc_len, List.length_append, List.length_cons, List.length_nil]; (show _ * 8 ≤ _); omega) (by simp only [i64c_len, arrc_len, u8c_len, i64c_len, strc_len, List.length_append, List.length_cons, List.length_nil]; unfold maxLen; omega)) ?_
        rintro v10 _ rfl
        refine ops_turn (retell 1 (g := row v10 1 (i64c (o ++ [(getI (b.drop p)).1]))) rfl (congrArg (row _ _) (i64c_append _ _))) ?_
        have hdr := @List.length_drop _ p b
        refine ops_y (wn rfl) rfl (y_move rfl) ?_
        refine ops_y (wn rfl) rfl (y_move rfl) ?_
        refine ops_y (wn rfl) rfl ((y_add rfl rfl).to (v64n (a := p) (b := ((getI (b.drop p)).2.1)) (by omega))) ?_
        refine ops_y (wn rfl) rfl (y_assign rfl) ?_
        refine ops_y (wn rfl) rfl (y_assign rfl) ?_
        refine ops_nil ?_
        refine goes_blk ?_
        refine goes_code ?_
        refine run_weak [(0, bv), (2, .func (.func 24) #[] #[]), (26, .int .i64 (((lenD b 1).1 : Nat) : Int)), (27, .int .i64 ((i : Nat) : Int)), (10, .int .i64 (((p + (getI (b.drop p)).2.1) : Nat) : Int)), (12, v10)] [0, 1] [ro bv 1 (u8c b), row v10 1 (i64c (o ++ [(getI (b.drop p)).1]))] (vcons rfl (vcons rfl (vcons rfl (vcons rfl (vcons rfl (vcons rfl (vnil))))))) (by decide) rfl ?_
        refine run_region' ?_
        refine ops_y (wn rfl) rfl ((y_add rfl rfl).to (v64n (a := i) (b := 1) (by omega))) ?_
        refine ops_y (wn rfl) rfl (y_move rfl) ?_
        refine ops_nil ?_
        refine goes_loop hL4 ⟨i + 1, (p + (getI (b.drop p)).2.1), v10, (o ++ [(getI (b.drop p)).1])⟩ [0, 1] ?_ (by decide) ?_ ?_ ?_
        · exact (vcons rfl (vcons rfl (vcons rfl (vcons rfl (vcons rfl (vcons rfl (vnil)))))))
        · rfl
        · try dsimp only
          exact ⟨by omega, by simp only [List.length_drop] at *; omega, by rw [List.length_append, ho]; rfl, by rw [← hf]; exact (finN_step (one := getI) (by omega) (by omega)).symm⟩
        · try dsimp only
          omega
    · -- B2f
      replace hc5 := of_decide_eq_false hc5
      refine run_exit _ rfl ?_
      refine goes_code ?_
      refine run_seq ?_
      refine run_region' ?_
      refine ops_y (wn rfl) rfl (y_move rfl) ?_
      refine ops_y (wn rfl) rfl (y_move rfl) ?_
      refine ops_y (wn rfl) rfl (y_assign rfl) ?_
      refine ops_y (wn rfl) rfl (y_assign rfl) ?_
      refine ops_y (wn rfl) rfl (y_assign rfl) ?_
      refine ops_nil ?_
      refine goes_code ?_
      refine run_ret ?_
      refine fin_slots [6, 7, 8] [v, .int .i64 ((p : Nat) : Int), .int .i64 0] [1] [row v 1 (i64c o)] Try.results43 rfl (by decide) rfl ?_
      dsimp only [tup]
      rw [finN_end (by omega)] at hf; rw [← hf]; exact ⟨_, rfl, rfl⟩

structure getStrs_g_S0 where
  i : Nat
  p : Nat
  v : Value
  o : List (List UInt8)
theorem getStrs_g (bv : Value) (b : List UInt8) (hb : b.length ≤ 4294967296) :
    Meets Try.prog 45 [bv, .int .i64 1, .func (.func 26) #[] #[]] [ro bv 1 (u8c b)] (fun v G => ∃ lv, v = .tuple #[lv, .int .i64 ((getL getS 1 b).2.1 : Nat), .int .i64 ((getL getS 1 b).2.2 : Nat)] ∧ G = [row lv 1 (strc (getL getS 1 b).1)]) := by
  refine fn_of_run Try.func45 rfl Try.ntmps45 rfl (fun w0 o0 => ?_)
  refine run_seq ?_
  refine run_region' ?_
  refine ops_y (wn rfl) rfl (y_assign rfl) ?_
  refine ops_y (wn rfl) rfl (y_assign rfl) ?_
  refine ops_y (wn rfl) rfl (y_assign rfl) ?_
  refine ops_nil ?_
  refine goes_code ?_
  refine run_seq ?_
  refine run_region' ?_
  refine ops_y (wn rfl) rfl (y_move rfl) ?_
  refine ops_y (wn rfl) rfl (y_move rfl) ?_
  refine ops_t (wn rfl) rfl (t_call (vs := [bv, .int .i64 1]) (cs := []) [⟨0, false⟩] rfl Try.call42 rfl (length_p bv _ (by first | omega | (simp only [List.length_drop, List.length_take, List.length_append]; omega) | (simp; done)) 1 (by omega) (by omega)) (shows_cons 0 false rfl views_ro shows_nil) (.inl rfl)) ?_
  rintro _ _ ⟨_, ⟨rfl, rfl⟩, rfl⟩
  have hg1 := lenD_any (b := b) (least := 1) (by omega)
  refine ops_y (wn rfl) rfl (y_move rfl) ?_
  refine ops_y (wn rfl) rfl (y_extract rfl rfl) ?_
  refine ops_y (wn rfl) rfl (y_extract rfl rfl) ?_
  refine ops_y (wn rfl) rfl (y_extract rfl rfl) ?_
  refine ops_y (wn rfl) rfl (y_assign rfl) ?_
  refine ops_y (wn rfl) rfl (y_assign rfl) ?_
  refine ops_y (wn rfl) rfl (y_assign rfl) ?_
  refine ops_nil ?_
  refine goes_code ?_
  refine run_seq ?_
  refine run_seq ?_
  refine run_weak [(0, bv), (2, .func (.func 26) #[] #[]), (6, .slice none 0 0), (7, .int .i64 0), (8, .int .i64 0), (9, .int .i64 (((lenD b 1).1 : Nat) : Int)), (10, .int .i64 (((lenD b 1).2.1 : Nat) : Int)), (11, .int .i64 (((lenD b 1).2.2 : Nat) : Int))] [0] [ro bv 1 (u8c b)] (vcons rfl (vcons rfl (vcons rfl (vcons rfl (vcons rfl (vcons rfl (vcons rfl (vcons rfl (vnil))))))))) (by decide) rfl ?_
  refine run_region' ?_
  refine ops_y (wn rfl) rfl (y_move rfl) ?_
  refine ops_y (wn rfl) rfl (y_neq rfl rfl) ?_
  refine ops_nil ?_
  refine goes_code ?_
  refine run_cond _ rfl (fun hc2 => ?_) (fun hc2 => ?_)
  · -- B1t
    replace hc2 := of_decide_eq_true hc2
    refine run_seq ?_
    refine run_region' ?_
    refine ops_y (wn rfl) rfl (y_move rfl) ?_
    refine ops_y (wn rfl) rfl (y_assign rfl) ?_
    refine ops_y (wn rfl) rfl (y_assign rfl) ?_
    refine ops_y (wn rfl) rfl (y_assign rfl) ?_
    refine ops_nil ?_
    refine goes_code ?_
    refine run_ret ?_
    refine fin_turn (nilrow 1) ?_
    refine fin_turn (retell 1 (g := row (.slice none 0 0) 1 (strc [])) rfl rfl) ?_
    refine fin_slots [6, 7, 8] [(.slice none 0 0), .int .i64 0, .int .i64 (((lenD b 1).2.2 : Nat) : Int)] [1] [row (.slice none 0 0) 1 (strc [])] Try.results45 rfl (by decide) rfl ?_
    dsimp only [tup]
    rw [getL_err (by omega)]; exact ⟨_, rfl, rfl⟩
  · -- B1f
    replace hc2 := of_decide_eq_false hc2
    refine run_skip ?_
    refine goes_code ?_
    refine run_seq ?_
    refine run_region' ?_
    refine ops_y (wn rfl) rfl (y_assign rfl) ?_
    refine ops_nil ?_
    refine goes_code ?_
    refine run_seq ?_
    refine run_seq ?_
    refine run_region' ?_
    refine ops_y (wn rfl) rfl (y_move rfl) ?_
    refine ops_y (wn rfl) rfl (y_move rfl) ?_
    refine ops_nil ?_
    refine goes_code ?_
    refine run_block ?_
    refine run_turn (nilrow 1) ?_
    refine run_turn (retell 1 (g := row (.slice none 0 0) 1 (strc [])) rfl rfl) ?_
    refine run_loop getStrs_g_S0 (fun s => [(0, bv), (2, .func (.func 26) #[] #[]), (26, .int .i64 (((lenD b 1).1 : Nat) : Int)), (27, .int .i64 ((s.i : Nat) : Int)), (10, .int .i64 ((s.p : Nat) : Int)), (12, s.v)]) (fun s => [ro bv 1 (u8c b), row s.v 1 (strc s.o)]) (fun s => s.i ≤ (lenD b 1).1 ∧ s.p ≤ b.length ∧ s.o.length = s.i ∧ finN s.o s.p (getN getS ((lenD b 1).1 - s.i) (b.drop s.p)) = getL getS 1 b) (fun s => (lenD b 1).1 - s.i) [0, 1] ⟨0, (lenD b 1).2.1, .slice none 0 0, []⟩ ?_ (by decide) ?_ ?_ ?_
    · exact (vcons rfl (vcons rfl (vcons rfl (vcons rfl (vcons rfl (vcons rfl (vnil)))))))
    · rfl
    · try dsimp only
      exact ⟨by omega, by omega, rfl, getL_fin (by omega)⟩
    rintro ⟨i, p, v, o⟩ ⟨hi, hp, ho, hf⟩ L3 hL4
    dsimp only at *
    refine run_seq ?_
    refine run_region' ?_
    refine ops_y (wn rfl) rfl (y_lss rfl rfl) ?_
    refine ops_nil ?_
    refine goes_code ?_
    refine run_seq ?_
    refine run_cond _ rfl (fun hc5 => ?_) (fun hc5 => ?_)
    · -- B2t
      replace hc5 := of_decide_eq_true hc5
      refine run_skip ?_
      refine goes_code ?_
      refine run_seq ?_
      refine run_block ?_
      refine run_seq ?_
      refine run_region' ?_
      refine ops_y (wn rfl) rfl (y_move rfl) ?_
      refine ops_y (wn rfl) rfl (y_move rfl) ?_
      refine ops_y (wn rfl) rfl (y_move rfl) ?_
      refine ops_t (wn rfl) rfl (t_slice (l := p) (r := b.length) 0 Try.runUnderlying28 Try.sizeOf5 rfl rfl (bd1 rfl) (.inl ⟨rfl, by rw [u8c_len]⟩) (by omega) (by rw [u8c_len]; omega)) ?_
      rintro v6 _ rfl
      refine ops_turn (retell 2 (g := ro v6 1 (u8c (b.drop p))) rfl (by simp [List.map_take, List.map_drop, List.take_of_length_le, u8c])) ?_
      refine ops_t (wn rfl) rfl (t_call (vs := [v6]) (cs := []) [⟨2, false⟩] rfl Try.call26 rfl (getS_p v6 _ (by first | omega | (simp only [List.length_drop, List.length_take, List.length_append]; omega) | (simp; done))) (shows_cons 2 false rfl views_ro shows_nil) (.inl rfl)) ?_
      rintro _ _ ⟨_, ⟨rfl, rfl⟩, rfl⟩
      have hg7 := getS_any (b.drop p)
      refine ops_y (wn rfl) rfl (y_move rfl) ?_
      refine ops_y (wn rfl) rfl (y_extract rfl rfl) ?_
      refine ops_y (wn rfl) rfl (y_extract rfl rfl) ?_
      refine ops_y (wn rfl) rfl (y_extract rfl rfl) ?_
      refine ops_y (wn rfl) rfl (y_assign rfl) ?_
      refine ops_y (wn rfl) rfl (y_assign rfl) ?_
      refine ops_y (wn rfl) rfl (y_assign rfl) ?_
      refine ops_nil ?_
      refine goes_code ?_
      refine run_seq ?_
      refine run_seq ?_
      refine run_weak [(0, bv), (2, .func (.func 26) #[] #[]), (26, .int .i64 (((lenD b 1).1 : Nat) : Int)), (27, .int .i64 ((i : Nat) : Int)), (10, .int .i64 ((p : Nat) : Int)), (12, v), (13, .string (bs ((getS (b.drop p)).1))), (14, .int .i64 (((getS (b.drop p)).2.1 : Nat) : Int)), (15, .int .i64 (((getS (b.drop p)).2.2 : Nat) : Int))] [0, 1] [ro bv 1 (u8c b), row v 1 (strc o)] (vcons rfl (vcons rfl (vcons rfl (vcons rfl (vcons rfl (vcons rfl (vcons rfl (vcons rfl (vcons rfl (vnil)))))))))) (by decide) rfl ?_
      refine run_region' ?_
      refine ops_y (wn rfl) rfl (y_move rfl) ?_
      refine ops_y (wn rfl) rfl (y_neq rfl rfl) ?_
      refine ops_nil ?_
      refine goes_code ?_
      refine run_cond _ rfl (fun hc8 => ?_) (fun hc8 => ?_)
      · -- B3t
        replace hc8 := of_decide_eq_true hc8
        refine run_seq ?_
        refine run_region' ?_
        refine ops_y (wn rfl) rfl (y_move rfl) ?_
        refine ops_y (wn rfl) rfl (y_assign rfl) ?_
        refine ops_y (wn rfl) rfl (y_assign rfl) ?_
        refine ops_y (wn rfl) rfl (y_assign rfl) ?_
        refine ops_nil ?_
        refine goes_code ?_
        refine run_ret ?_
        refine fin_turn (nilrow 1) ?_
        refine fin_turn (retell 2 (g := row (.slice none 0 0) 1 (strc [])) rfl rfl) ?_
        refine fin_slots [6, 7, 8] [(.slice none 0 0), .int .i64 0, .int .i64 (((getS (b.drop p)).2.2 : Nat) : Int)] [2] [row (.slice none 0 0) 1 (strc [])] Try.results45 rfl (by decide) rfl ?_
        dsimp only [tup]
        rw [finN_bad (by omega) (by omega)] at hf; rw [← hf]; exact ⟨_, rfl, rfl⟩
      · -- B3f
        replace hc8 := of_decide_eq_false hc8
        refine run_skip ?_
        refine goes_code ?_
        refine run_region' ?_
        refine ops_y (wn rfl) rfl (y_move rfl) ?_
        refine ops_y (wn rfl) rfl (y_move rfl) ?_
        refine ops_t (wn rfl) rfl (t_lit [.string (bs ((getS (b.drop p)).1))] Try.runUnderlying23 Try.sizeOf9 Try.zeroValue9 rfl (by decide) (by decide) rfl (by simp [Value.cells])) ?_
        rintro v9 _ ⟨rfl, _⟩
        refine ops_turn (retell 2 (g := row v9 1 (strc [(getS (b.drop p)).1])) rfl rfl) ?_
        refine ops_t (wn rfl) rfl (t_append (es := 1) 1 rfl Try.runUnderlying23 rfl Try.runUnderlying23 (.inr ⟨_, rfl⟩) Try.typeInfo9 rfl (by decide) Try.zeroValue9 rfl rfl rfl rfl (src_reads 2 rfl reads_row (strc_ok _)) (by simp only [strc_len, arrc_len, u8c_len, i64c_len, strc_len, List.length_append, List.length_cons, List.length_nil]; (show _ * 16 ≤ _); omega) (by simp only [strc_len, arrc_len, u8c_len, i64c_len, strc_len, List.length_append, List.length_cons, List.length_nil]; unfold maxLen; omega)) ?_
        rintro v10 _ rfl
        refine ops_turn (retell 1 (g := row v10 1 (strc (o ++ [(getS (b.drop p)).1]))) rfl (congrArg (row _ _) (strc_append _ _))) ?_
        have hdr := @List.length_drop _ p b
        refine ops_y (wn rfl) rfl (y_move rfl) ?_
        refine ops_y (wn rfl) rfl (y_move rfl) ?_
        refine ops_y (wn rfl) rfl ((y_add rfl rfl).to (v64n (a := p) (b := ((getS (b.drop p)).2.1)) (by omega))) ?_
        refine ops_y (wn rfl) rfl (y_assign rfl) ?_
        refine ops_y (wn rfl) rfl (y_assign rfl) ?_
        refine ops_nil ?_
        refine goes_blk ?_
        refine goes_code ?_
        refine run_weak [(0, bv), (2, .func (.func 26) #[] #[]), (26, .int .i64 (((lenD b 1).1 : Nat) : Int)), (27, .int .i64 ((i : Nat) : Int)), (10, .int .i64 (((p + (getS (b.drop p)).2.1) : Nat) : Int)), (12, v10)] [0, 1] [ro bv 1 (u8c b), row v10 1 (strc (o ++ [(getS (b.drop p)).1]))] (vcons rfl (vcons rfl (vcons rfl (vcons rfl (vcons rfl (vcons rfl (vnil))))))) (by decide) rfl ?_
        refine run_region' ?_
        refine ops_y (wn rfl) rfl ((y_add rfl rfl).to (v64n (a := i) (b := 1) (by omega))) ?_
        refine ops_y (wn rfl) rfl (y_move rfl) ?_
        refine ops_nil ?_
        refine goes_loop hL4 ⟨i + 1, (p + (getS (b.drop p)).2.1), v10, (o ++ [(getS (b.drop p)).1])⟩ [0, 1] ?_ (by decide) ?_ ?_ ?_
        · exact (vcons rfl (vcons rfl (vcons rfl (vcons rfl (vcons rfl (vcons rfl (vnil)))))))
        · rfl
        · try dsimp only
          exact ⟨by omega, by simp only [List.length_drop] at *; omega, by rw [List.length_append, ho]; rfl, by rw [← hf]; exact (finN_step (one := getS) (by omega) (by omega)).symm⟩
        · try dsimp only
          omega
    · -- B2f
      replace hc5 := of_decide_eq_false hc5
      refine run_exit _ rfl ?_
      refine goes_code ?_
      refine run_seq ?_
      refine run_region' ?_
      refine ops_y (wn rfl) rfl (y_move rfl) ?_
      refine ops_y (wn rfl) rfl (y_move rfl) ?_
      refine ops_y (wn rfl) rfl (y_assign rfl) ?_
      refine ops_y (wn rfl) rfl (y_assign rfl) ?_
      refine ops_y (wn rfl) rfl (y_assign rfl) ?_
      refine ops_nil ?_
      refine goes_code ?_
      refine run_ret ?_
      refine fin_slots [6, 7, 8] [v, .int .i64 ((p : Nat) : Int), .int .i64 0] [1] [row v 1 (strc o)] Try.results45 rfl (by decide) rfl ?_
      dsimp only [tup]
      rw [finN_end (by omega)] at hf; rw [← hf]; exact ⟨_, rfl, rfl⟩

structure getDigs_g_S0 where
  i : Nat
  p : Nat
  v : Value
  o : List (List UInt8)
theorem getDigs_g (bv : Value) (b : List UInt8) (hb : b.length ≤ 4294967296) :
    Meets Try.prog 46 [bv, .int .i64 16, .func (.func 47) #[] #[]] [ro bv 1 (u8c b)] (fun v G => ∃ lv, v = .tuple #[lv, .int .i64 ((getL getD 16 b).2.1 : Nat), .int .i64 ((getL getD 16 b).2.2 : Nat)] ∧ G = [row lv 16 (arrc (getL getD 16 b).1)]) := by
  refine fn_of_run Try.func46 rfl Try.ntmps46 rfl (fun w0 o0 => ?_)
  refine run_seq ?_
  refine run_region' ?_
  refine ops_y (wn rfl) rfl (y_assign rfl) ?_
  refine ops_y (wn rfl) rfl (y_assign rfl) ?_
  refine ops_y (wn rfl) rfl (y_assign rfl) ?_
  refine ops_nil ?_
  refine goes_code ?_
  refine run_seq ?_
  refine run_region' ?_
  refine ops_y (wn rfl) rfl (y_move rfl) ?_
  refine ops_y (wn rfl) rfl (y_move rfl) ?_
  refine ops_t (wn rfl) rfl (t_call (vs := [bv, .int .i64 16]) (cs := []) [⟨0, false⟩] rfl Try.call42 rfl (length_p bv _ (by first | omega | (simp only [List.length_drop, List.length_take, List.length_append]; omega) | (simp; done)) 16 (by omega) (by omega)) (shows_cons 0 false rfl views_ro shows_nil) (.inl rfl)) ?_
  rintro _ _ ⟨_, ⟨rfl, rfl⟩, rfl⟩
  have hg1 := lenD_any (b := b) (least := 16) (by omega)
  refine ops_y (wn rfl) rfl (y_move rfl) ?_
  refine ops_y (wn rfl) rfl (y_extract rfl rfl) ?_
  refine ops_y (wn rfl) rfl (y_extract rfl rfl) ?_
  refine ops_y (wn rfl) rfl (y_extract rfl rfl) ?_
  refine ops_y (wn rfl) rfl (y_assign rfl) ?_
  refine ops_y (wn rfl) rfl (y_assign rfl) ?_
  refine ops_y (wn rfl) rfl (y_assign rfl) ?_
  refine ops_nil ?_
  refine goes_code ?_
  refine run_seq ?_
  refine run_seq ?_
  refine run_weak [(0, bv), (2, .func (.func 47) #[] #[]), (6, .slice none 0 0), (7, .int .i64 0), (8, .int .i64 0), (9, .int .i64 (((lenD b 16).1 : Nat) : Int)), (10, .int .i64 (((lenD b 16).2.1 : Nat) : Int)), (11, .int .i64 (((lenD b 16).2.2 : Nat) : Int))] [0] [ro bv 1 (u8c b)] (vcons rfl (vcons rfl (vcons rfl (vcons rfl (vcons rfl (vcons rfl (vcons rfl (vcons rfl (vnil))))))))) (by decide) rfl ?_
  refine run_region' ?_
  refine ops_y (wn rfl) rfl (y_move rfl) ?_
  refine ops_y (wn rfl) rfl (y_neq rfl rfl) ?_
  refine ops_nil ?_
  refine goes_code ?_
  refine run_cond _ rfl (fun hc2 => ?_) (fun hc2 => ?_)
  · -- B1t
    replace hc2 := of_decide_eq_true hc2
    refine run_seq ?_
    refine run_region' ?_
    refine ops_y (wn rfl) rfl (y_move rfl) ?_
    refine ops_y (wn rfl) rfl (y_assign rfl) ?_
    refine ops_y (wn rfl) rfl (y_assign rfl) ?_
    refine ops_y (wn rfl) rfl (y_assign rfl) ?_
    refine ops_nil ?_
    refine goes_code ?_
    refine run_ret ?_
    refine fin_turn (nilrow 16) ?_
    refine fin_turn (retell 1 (g := row (.slice none 0 0) 16 (arrc [])) rfl rfl) ?_
    refine fin_slots [6, 7, 8] [(.slice none 0 0), .int .i64 0, .int .i64 (((lenD b 16).2.2 : Nat) : Int)] [1] [row (.slice none 0 0) 16 (arrc [])] Try.results46 rfl (by decide) rfl ?_
    dsimp only [tup]
    rw [getL_err (by omega)]; exact ⟨_, rfl, rfl⟩
  · -- B1f
    replace hc2 := of_decide_eq_false hc2
    refine run_skip ?_
    refine goes_code ?_
    refine run_seq ?_
    refine run_region' ?_
    refine ops_y (wn rfl) rfl (y_assign rfl) ?_
    refine ops_nil ?_
    refine goes_code ?_
    refine run_seq ?_
    refine run_seq ?_
    refine run_region' ?_
    refine ops_y (wn rfl) rfl (y_move rfl) ?_
    refine ops_y (wn rfl) rfl (y_move rfl) ?_
    refine ops_nil ?_
    refine goes_code ?_
    refine run_block ?_
    refine run_turn (nilrow 16) ?_
    refine run_turn (retell 1 (g := row (.slice none 0 0) 16 (arrc [])) rfl rfl) ?_
    refine run_loop getDigs_g_S0 (fun s => [(0, bv), (2, .func (.func 47) #[] #[]), (26, .int .i64 (((lenD b 16).1 : Nat) : Int)), (27, .int .i64 ((s.i : Nat) : Int)), (10, .int .i64 ((s.p : Nat) : Int)), (12, s.v)]) (fun s => [ro bv 1 (u8c b), row s.v 16 (arrc s.o)]) (fun s => s.i ≤ (lenD b 16).1 ∧ s.p ≤ b.length ∧ s.o.length = s.i ∧ finN s.o s.p (getN getD ((lenD b 16).1 - s.i) (b.drop s.p)) = getL getD 16 b ∧ s.p = (lenD b 16).2.1 + s.i * 16 ∧ ∀ d ∈ s.o, d.length = 16) (fun s => (lenD b 16).1 - s.i) [0, 1] ⟨0, (lenD b 16).2.1, .slice none 0 0, []⟩ ?_ (by decide) ?_ ?_ ?_
    · exact (vcons rfl (vcons rfl (vcons rfl (vcons rfl (vcons rfl (vcons rfl (vnil)))))))
    · rfl
    · try dsimp only
      exact ⟨by omega, by omega, rfl, getL_fin (by omega), by omega, by simp⟩
    rintro ⟨i, p, v, o⟩ ⟨hi, hp, ho, hf, hpp, hod⟩ L3 hL4
    dsimp only at *
    refine run_seq ?_
    refine run_region' ?_
    refine ops_y (wn rfl) rfl (y_lss rfl rfl) ?_
    refine ops_nil ?_
    refine goes_code ?_
    refine run_seq ?_
    refine run_cond _ rfl (fun hc5 => ?_) (fun hc5 => ?_)
    · -- B2t
      replace hc5 := of_decide_eq_true hc5
      refine run_skip ?_
      refine goes_code ?_
      refine run_seq ?_
      refine run_block ?_
      refine run_seq ?_
      refine run_region' ?_
      refine ops_y (wn rfl) rfl (y_move rfl) ?_
      refine ops_y (wn rfl) rfl (y_move rfl) ?_
      refine ops_y (wn rfl) rfl (y_move rfl) ?_
      refine ops_t (wn rfl) rfl (t_slice (l := p) (r := b.length) 0 Try.runUnderlying28 Try.sizeOf5 rfl rfl (bd1 rfl) (.inl ⟨rfl, by rw [u8c_len]⟩) (by omega) (by rw [u8c_len]; omega)) ?_
      rintro v6 _ rfl
      refine ops_turn (retell 2 (g := ro v6 1 (u8c (b.drop p))) rfl (by simp [List.map_take, List.map_drop, List.take_of_length_le, u8c])) ?_
      refine ops_t (wn rfl) rfl (t_call (vs := [v6]) (cs := []) [⟨2, false⟩] rfl Try.call47 rfl (getD_p v6 _ (by first | omega | (simp only [List.length_drop, List.length_take, List.length_append]; omega) | (simp; done)) (by first | omega | (simp only [List.length_drop, List.length_take, List.length_append]; omega) | (simp; done))) (shows_cons 2 false rfl views_ro shows_nil) (.inl rfl)) ?_
      rintro _ _ ⟨_, ⟨rfl, rfl⟩, rfl⟩
      have hT7 : (((b.drop p).take 16)).length = 16 := by simp only [List.length_take, List.length_drop]; omega
      refine ops_y (wn rfl) rfl (y_move rfl) ?_
      refine ops_y (wn rfl) rfl (y_extract rfl rfl) ?_
      refine ops_y (wn rfl) rfl (y_extract rfl rfl) ?_
      refine ops_y (wn rfl) rfl (y_extract rfl rfl) ?_
      refine ops_t (wn rfl) rfl (t_alloc Try.zeroValue57) ?_
      rintro _ _ ⟨b8, rfl, rfl⟩
      refine ops_t (wn rfl) rfl (t_store_all (c := arr8 ((b.drop p).take 16)) 3 Try.sizeOf57 rfl rfl rfl (by rw [arr8_len]; exact hT7) (by first | rfl | (rw [arr8_len]; exact rfl)) (arr8_one _)) ?_
      rintro _ _ ⟨rfl, rfl⟩
      refine ops_y (wn rfl) rfl (y_assign rfl) ?_
      refine ops_y (wn rfl) rfl (y_assign rfl) ?_
      refine ops_nil ?_
      refine goes_code ?_
      refine run_seq ?_
      refine run_seq ?_
      refine run_weak [(0, bv), (2, .func (.func 47) #[] #[]), (26, .int .i64 (((lenD b 16).1 : Nat) : Int)), (27, .int .i64 ((i : Nat) : Int)), (10, .int .i64 ((p : Nat) : Int)), (12, v), (13, boxP b8 0), (14, .int .i64 16), (15, .int .i64 0)] [0, 1, 3] [ro bv 1 (u8c b), row v 16 (arrc o), box b8 (arr8 ((b.drop p).take 16))] (vcons rfl (vcons rfl (vcons rfl (vcons rfl (vcons rfl (vcons rfl (vcons rfl (vcons rfl (vcons rfl (vnil)))))))))) (by decide) rfl ?_
      refine run_region' ?_
      refine ops_y (wn rfl) rfl (y_move rfl) ?_
      refine ops_y (wn rfl) rfl (OpY.to (v' := .bool false) (y_neq rfl rfl) rfl) ?_
      refine ops_nil ?_
      refine goes_code ?_
      refine run_cond_f rfl ?_
      refine run_skip ?_
      refine goes_code ?_
      refine run_region' ?_
      refine ops_y (wn rfl) rfl (y_move rfl) ?_
      refine ops_y (wn rfl) rfl (y_load_all 2 Try.isAgg57 Try.sizeOf57 rfl rfl (by rw [arr8_len]; exact hT7)) ?_
      refine ops_t (wn rfl) rfl (t_lit [.agg (arr8 ((b.drop p).take 16)).toArray] Try.runUnderlying24 Try.sizeOf57 Try.zeroValue57 rfl (by decide) (by decide) rfl (by simp [Value.cells, arr8_len, hT7])) ?_
      rintro v9 _ ⟨rfl, _⟩
      refine ops_turn (retell 3 (g := row v9 16 (arrc [((b.drop p).take 16)])) rfl rfl) ?_
      refine ops_t (wn rfl) rfl (t_append (es := 16) 1 rfl Try.runUnderlying24 rfl Try.runUnderlying24 (.inr ⟨_, rfl⟩) Try.typeInfo57 rfl (by decide) Try.zeroValue57 rfl rfl rfl rfl (src_reads 3 rfl reads_row (arrc_ok _ (by simp [hT7]))) (by simp only [arrc_len, arrc_len, u8c_len, i64c_len, strc_len, List.length_append, List.length_cons, List.length_nil]; (show _ * 16 ≤ _); omega) (by simp only [arrc_len, arrc_len, u8c_len, i64c_len, strc_len, List.length_append, List.length_cons, List.length_nil]; unfold maxLen; omega)) ?_
      rintro v10 _ rfl
      refine ops_turn (retell 1 (g := row v10 16 (arrc (o ++ [((b.drop p).take 16)]))) rfl (congrArg (row _ _) (arrc_append _ _))) ?_
      have hdr := @List.length_drop _ p b
      refine ops_y (wn rfl) rfl (y_move rfl) ?_
      refine ops_y (wn rfl) rfl (y_move rfl) ?_
      refine ops_y (wn rfl) rfl ((y_add rfl rfl).to (v64n (a := p) (b := 16) (by omega))) ?_
      refine ops_y (wn rfl) rfl (y_assign rfl) ?_
      refine ops_y (wn rfl) rfl (y_assign rfl) ?_
      refine ops_nil ?_
      refine goes_blk ?_
      refine goes_code ?_
      refine run_weak [(0, bv), (2, .func (.func 47) #[] #[]), (26, .int .i64 (((lenD b 16).1 : Nat) : Int)), (27, .int .i64 ((i : Nat) : Int)), (10, .int .i64 (((p + 16) : Nat) : Int)), (12, v10)] [0, 1] [ro bv 1 (u8c b), row v10 16 (arrc (o ++ [((b.drop p).take 16)]))] (vcons rfl (vcons rfl (vcons rfl (vcons rfl (vcons rfl (vcons rfl (vnil))))))) (by decide) rfl ?_
      refine run_region' ?_
      refine ops_y (wn rfl) rfl ((y_add rfl rfl).to (v64n (a := i) (b := 1) (by omega))) ?_
      refine ops_y (wn rfl) rfl (y_move rfl) ?_
      refine ops_nil ?_
      refine goes_loop hL4 ⟨i + 1, (p + 16), v10, (o ++ [((b.drop p).take 16)])⟩ [0, 1] ?_ (by decide) ?_ ?_ ?_
      · exact (vcons rfl (vcons rfl (vcons rfl (vcons rfl (vcons rfl (vcons rfl (vnil)))))))
      · rfl
      · try dsimp only
        exact ⟨by omega, by simp only [List.length_drop] at *; omega, by rw [List.length_append, ho]; rfl, by rw [← hf]; exact (finN_step (one := getD) (by omega) rfl).symm, by omega, by intro d hd; rcases List.mem_append.1 hd with h | h; exact hod d h; rw [List.mem_singleton.1 h, List.length_take, List.length_drop]; omega⟩
      · try dsimp only
        omega
    · -- B2f
      replace hc5 := of_decide_eq_false hc5
      refine run_exit _ rfl ?_
      refine goes_code ?_
      refine run_seq ?_
      refine run_region' ?_
      refine ops_y (wn rfl) rfl (y_move rfl) ?_
      refine ops_y (wn rfl) rfl (y_move rfl) ?_
      refine ops_y (wn rfl) rfl (y_assign rfl) ?_
      refine ops_y (wn rfl) rfl (y_assign rfl) ?_
      refine ops_y (wn rfl) rfl (y_assign rfl) ?_
      refine ops_nil ?_
      refine goes_code ?_
      refine run_ret ?_
      refine fin_slots [6, 7, 8] [v, .int .i64 ((p : Nat) : Int), .int .i64 0] [1] [row v 16 (arrc o)] Try.results46 rfl (by decide) rfl ?_
      dsimp only [tup]
      rw [finN_end (by omega)] at hf; rw [← hf]; exact ⟨_, rfl, rfl⟩

end Go.Proofs.Ytbhlfdklpihaiaa
