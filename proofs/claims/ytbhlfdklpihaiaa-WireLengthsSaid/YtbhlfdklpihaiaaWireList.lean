/-
  Decoding lists in plain words.
-/
import Derived.Test.YtbhlfdklpihaiaaWireSpec
namespace Go.Abs
theorem lenD_1 {b : List UInt8} {m : Nat} (h : (getI b).2.2 ≠ 0) : lenD b m = (0, 0, (getI b).2.2) := by unfold lenD; simp only; rw [if_pos h]
theorem lenD_2 {b : List UInt8} {m : Nat} (h : (getI b).2.2 = 0) (h2 : (getI b).1 < 0) : lenD b m = (0, 0, 11) := by unfold lenD; simp only; rw [if_neg (by omega), if_pos h2]
theorem lenD_3 {b : List UInt8} {m : Nat} (h : (getI b).2.2 = 0) (h2 : ¬ (getI b).1 < 0) (h3 : (b.length - (getI b).2.1) / m < (getI b).1.toNat) : lenD b m = (0, 0, 10) := by
  unfold lenD; simp only; rw [if_neg (by omega), if_neg h2, if_pos h3]
theorem lenD_4 {b : List UInt8} {m : Nat} (h : (getI b).2.2 = 0) (h2 : ¬ (getI b).1 < 0) (h3 : ¬ (b.length - (getI b).2.1) / m < (getI b).1.toNat) : lenD b m = ((getI b).1.toNat, (getI b).2.1, 0) := by
  unfold lenD; simp only; rw [if_neg (by omega), if_neg h2, if_neg h3]
theorem getS_1 {b : List UInt8} (h : (lenD b 1).2.2 ≠ 0) : getS b = ([], 0, (lenD b 1).2.2) := by unfold getS; simp only; rw [if_pos h]
theorem getS_2 {b : List UInt8} (h : (lenD b 1).2.2 = 0) : getS b = ((b.take ((lenD b 1).2.1 + (lenD b 1).1)).drop (lenD b 1).2.1, (lenD b 1).2.1 + (lenD b 1).1, 0) := by
  unfold getS; simp only; rw [if_neg (by omega), List.drop_take, show (lenD b 1).2.1 + (lenD b 1).1 - (lenD b 1).2.1 = (lenD b 1).1 by omega]
theorem v64d {a m : Nat} (h : a ≤ 9223372036854775807) : Value.int .i64 (IntKind.i64.wrap ((a : Int).tdiv (m : Int))) = .int .i64 ((a / m : Nat) : Int) := by
  have hq := Nat.div_le_self a m
  have h0 : (0 : Int) ≤ ((a / m : Nat) : Int) := Int.natCast_nonneg _
  rw [Int.tdiv_eq_ediv_of_nonneg (Int.natCast_nonneg a), ← Int.natCast_ediv, wrap_i64 (by omega) (by omega)]
variable {α : Type} {one : List UInt8 → α × Nat × Nat} {b : List UInt8} {m at_ i n : Nat} {o : List α}
def finN (o : List α) (at_ : Nat) (x : List α × Nat × Nat) : List α × Nat × Nat := if x.2.2 = 0 then (o ++ x.1, at_ + x.2.1, 0) else ([], 0, x.2.2)
theorem getN_err : ∀ (n : Nat) (b : List UInt8), (getN one n b).2.2 ≠ 0 → getN one n b = ([], 0, (getN one n b).2.2)
  | 0, b, h => by simp [getN] at h
  | n + 1, b, h => by
    unfold getN at h ⊢
    simp only at h ⊢
    by_cases h1 : (one b).2.2 ≠ 0
    · rw [if_pos h1]
    · rw [if_neg h1] at h ⊢
      by_cases h2 : (getN one n (b.drop (one b).2.1)).2.2 ≠ 0
      · rw [if_pos h2]
      · rw [if_neg h2] at h; exact absurd rfl h
theorem getL_err (h : (lenD b m).2.2 ≠ 0) : getL one m b = ([], 0, (lenD b m).2.2) := by unfold getL; simp only; rw [if_pos h]
theorem getL_fin (h : (lenD b m).2.2 = 0) : finN [] (lenD b m).2.1 (getN one ((lenD b m).1 - 0) (b.drop (lenD b m).2.1)) = getL one m b := by
  unfold getL finN
  by_cases h1 : (getN one (lenD b m).1 (b.drop (lenD b m).2.1)).2.2 = 0 <;> simp [h, h1]
theorem finN_step (hi : i < n) (h : (one (b.drop at_)).2.2 = 0) :
    finN o at_ (getN one (n - i) (b.drop at_)) = finN (o ++ [(one (b.drop at_)).1]) (at_ + (one (b.drop at_)).2.1) (getN one (n - (i + 1)) (b.drop (at_ + (one (b.drop at_)).2.1))) := by
  rw [show n - i = (n - (i + 1)) + 1 by omega, getN]
  unfold finN
  by_cases h1 : (getN one (n - (i + 1)) (b.drop (at_ + (one (b.drop at_)).2.1))).2.2 = 0 <;> simp [h, h1, List.drop_drop, Nat.add_assoc]
theorem finN_bad (hi : i < n) (h : (one (b.drop at_)).2.2 ≠ 0) : finN o at_ (getN one (n - i) (b.drop at_)) = ([], 0, (one (b.drop at_)).2.2) := by
  rw [show n - i = (n - (i + 1)) + 1 by omega, getN]
  simp only
  rw [if_pos h]
  unfold finN
  simp [h]
theorem finN_end (hi : n ≤ i) : finN o at_ (getN one (n - i) (b.drop at_)) = (o, at_, 0) := by
  rw [show n - i = 0 by omega, getN]; simp [finN]
end Go.Abs
