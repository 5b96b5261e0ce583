/-
  The plain laws BucketWaitsExactly and BucketRefillsInSteps.
-/
import Derived.Test.YtpalglggjndmlaaW5
import Derived.Test.YtpalglggjndmlaaPb
namespace Go.Proofs.Ytpalglggjndmlaa
open Go.Abs
set_option linter.unusedSimpArgs false
set_option linter.unusedVariables false
theorem waits_true (b : B) (n t : Int) (hb : b.wf) (hn : wfI .i64 n) (ht : wfI .i64 t) : ∃ m, law12_BucketWaitsExactly m b n t = some true := by
  refine ⟨10, ?_⟩
  unfold law12_BucketWaitsExactly
  rw [Valid_eq, (Wait_both b n (wf64 hn)).1, sanity_true 0]
  by_cases h0 : OK b ∧ 1 ≤ n ∧ n ≤ 1073741824
  · obtain ⟨h, hn1⟩ := h0
    have e : (((!decide (OK b)) || decide (n < 1)) || decide (1073741824 < n)) = false := by simp [h]; omega
    simp only [Option.bind_some, e, cond_false]
    have hr := h.room
    obtain ⟨_, _, h3, h4, h5, h6, h7, h8, h9, h10⟩ := id h
    have hm := mul_bound (a := n) (b := b.Den) (by omega) (by omega) (by omega) h6
    -- the instant that is tried where there is no wait
    have hat : ∀ k : Int → Option Bool, (bindJ (S := Int) (cond (decide (t < b.At) || decide (1099511627776 < t)) (some (.go 1099511627776)) (some (.go t))) k) = k (if t < b.At ∨ 1099511627776 < t then 1099511627776 else t) := by
      intro k
      by_cases hc : t < b.At ∨ 1099511627776 < t
      · have : (decide (t < b.At) || decide (1099511627776 < t)) = true := by simpa using hc
        rw [this, if_pos hc]; rfl
      · have : (decide (t < b.At) || decide (1099511627776 < t)) = false := by simp; omega
        rw [this, if_neg hc]; rfl
    have hin : b.At ≤ (if t < b.At ∨ 1099511627776 < t then 1099511627776 else t) ∧ (if t < b.At ∨ 1099511627776 < t then 1099511627776 else t) ≤ 1099511627776 := by split <;> omega
    generalize (if t < b.At ∨ 1099511627776 < t then 1099511627776 else t) = t' at hat hin
    by_cases hc : b.Cap < n
    · have hw : wait b n = (0, 2) := by simp [wait, h, hn1, hc]
      have hcd : b.Cap * b.Den < n * b.Den := Int.mul_lt_mul_of_pos_right hc (by omega)
      have htk := take_low h hn1 hin.1 hin.2 (Int.lt_of_le_of_lt held_le hcd)
      simp only [hw, hat, Take_eq, htk]
      rfl
    · have hcd : n * b.Den ≤ b.Cap * b.Den := Int.mul_le_mul_of_nonneg_right (by omega) (by omega)
      by_cases hl : n * b.Den ≤ b.Level
      · have hw : wait b n = (b.At, 0) := by simp [wait, h, hn1, hc, hl]
        have htk := take_high h hn1 (Int.le_refl b.At) h10 (by rw [held_at h]; exact hl)
        have e2 : (decide (b.At ≤ t) || decide (t < b.At)) = true := by simp; omega
        simp only [hw, Take_eq, htk, e2]
        rw [w64 (x := b.At - 1) (by omega) (by omega)]
        have e3 : decide (b.At - 1 < b.At) = true := by simp; omega
        simp [e3]
      · by_cases hz : b.Num = 0 ∨ b.Num * (1099511627776 - b.At) < n * b.Den - b.Level
        · have hw : wait b n = (0, 4) := by simp [wait, h, hn1, hc, hl, hz]
          have hlow : held b t' < n * b.Den := by
            unfold held
            have : b.Level + b.Num * (t' - b.At) < n * b.Den := by
              rcases hz with hz | hz
              · rw [hz]; omega
              · have := mul_mono h3 (show t' - b.At ≤ 1099511627776 - b.At by omega); omega
            omega
          have htk := take_low h hn1 hin.1 hin.2 hlow
          simp only [hw, hat, Take_eq, htk]
          rfl
        · have hp : 1 ≤ b.Num := by omega
          have hw : wait b n = (b.At + (n * b.Den - b.Level - 1) / b.Num + 1, 0) := by simp [wait, h, hn1, hc, hl, hz]
          have hq0 : 0 ≤ (n * b.Den - b.Level - 1) / b.Num := Int.ediv_nonneg (by omega) (by omega)
          have hq1 : (n * b.Den - b.Level - 1) / b.Num < 1099511627776 - b.At := Int.ediv_lt_of_lt_mul (by omega) (by have := Int.mul_comm b.Num (1099511627776 - b.At); omega)
          have hq2 : b.Num * ((n * b.Den - b.Level - 1) / b.Num) ≤ n * b.Den - b.Level - 1 := Int.mul_ediv_self_le (by omega)
          have hq3 : n * b.Den - b.Level - 1 < b.Num * ((n * b.Den - b.Level - 1) / b.Num) + b.Num := Int.lt_mul_ediv_self_add (by omega)
          generalize hq : (n * b.Den - b.Level - 1) / b.Num = q at *
          have hhigh : n * b.Den ≤ held b (b.At + q + 1) := by
            unfold held
            have : b.Num * (b.At + q + 1 - b.At) = b.Num * q + b.Num := by rw [show b.At + q + 1 - b.At = q + 1 by omega, Int.mul_add, Int.mul_one]
            omega
          have htk := take_high h hn1 (show b.At ≤ b.At + q + 1 by omega) (show b.At + q + 1 ≤ 1099511627776 by omega) hhigh
          have hlow : ∀ x, b.At ≤ x → x ≤ b.At + q → take b x n = (B0, 4) := by
            intro x hx1 hx2
            refine take_low h hn1 hx1 (by omega) ?_
            unfold held
            have := mul_mono h3 (show x - b.At ≤ q by omega)
            omega
          have e2 : decide (b.At + q + 1 < b.At) = false := by simp; omega
          simp only [hw, Take_eq, htk, e2]
          rw [w64 (x := b.At + q + 1 - 1) (by omega) (by omega)]
          by_cases hb2 : b.At + q + 1 ≤ t ∨ t < b.At
          · have e3 : (decide (b.At + q + 1 ≤ t) || decide (t < b.At)) = true := by simpa using hb2
            have e4 : decide (b.At + q + 1 - 1 < b.At) = false := by simp; omega
            have e5 := hlow (b.At + q + 1 - 1) (by omega) (by omega)
            simp only [e3, ne_eq, not_true_eq_false, decide_false, Bool.or_self, Option.bind_some, cond_false, cond_true, bindJ_go]
            simp only [e4, e5, cond_false]
            rfl
          · have e3 : (decide (b.At + q + 1 ≤ t) || decide (t < b.At)) = false := by simp; omega
            have e4 : decide (t < b.At) = false := by simp; omega
            have e5 := hlow t (by omega) (by omega)
            simp only [e3, ne_eq, not_true_eq_false, decide_false, Bool.or_self, Option.bind_some, cond_false, bindJ_go]
            simp only [e4, e5, cond_false]
            rfl
  · have e : (((!decide (OK b)) || decide (n < 1)) || decide (1073741824 < n)) = true := by
      by_cases h : OK b
      · have h0' : ¬ (1 ≤ n ∧ n ≤ 1073741824) := fun x => h0 ⟨h, x⟩
        simp [h]; omega
      · simp [h]
    simp only [Option.bind_some, e, cond_true]
end Go.Proofs.Ytpalglggjndmlaa
