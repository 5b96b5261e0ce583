/-
  The plain law BucketRefillsInSteps.
-/
import Derived.Test.YtpalglggjndmlaaW6
import Derived.Test.YtpalglggjndmlaaPb
namespace Go.Proofs.Ytpalglggjndmlaa
open Go.Abs
set_option linter.unusedSimpArgs false
set_option linter.unusedVariables false
theorem steps_true (b : B) (t u l : Int) (hb : b.wf) (ht : wfI .i64 t) (hu : wfI .i64 u) (hl : wfI .i64 l) : ∃ m, law12_BucketRefillsInSteps m b t u l = some true := by
  refine ⟨10, ?_⟩
  unfold law12_BucketRefillsInSteps
  rw [Valid_eq, sanity_true 0]
  by_cases h0 : OK b ∧ b.At ≤ t ∧ t ≤ u ∧ u ≤ 1099511627776
  · obtain ⟨h, h1, h2, h3⟩ := h0
    have e : ((((!decide (OK b)) || decide (t < b.At)) || decide (u < t)) || decide (1099511627776 < u)) = false := by simp [h]; omega
    have hx := refill_held h h1 (show t ≤ 1099511627776 by omega)
    have hv := refill_valid h h1 (show t ≤ 1099511627776 by omega)
    have hz := refill_held h (show b.At ≤ u by omega) h3
    have hvz := refill_valid h (show b.At ≤ u by omega) h3
    rw [hx] at hv
    rw [hz] at hvz
    have hy : refill ⟨b.Cap, b.Num, b.Den, held b t, t⟩ u = (⟨b.Cap, b.Num, b.Den, held b u, u⟩, 0) := by
      rw [refill_held hv h2 h3, held_step h h1 h2]; rfl
    simp only [Option.bind_some, e, cond_false, Refill_eq, hx, hy, hz, Tokens_eq, hv, hvz, if_true]
    have hmono : held b t ≤ held b u := by
      rw [held_step h h1 h2]
      have : 0 ≤ b.Num * (u - t) := Int.mul_nonneg h.2.2.1 (by omega)
      have := held_le (b := b) (t := t)
      omega
    have htok : decide (held b u / b.Den < held b t / b.Den) = false := by
      have := Int.ediv_le_ediv (show 0 < b.Den by have := h.2.2.2.2.1; omega) hmono
      simp; omega
    simp only [ne_eq, not_true_eq_false, decide_false, decide_true, Bool.and_self, Bool.not_true, Bool.or_self, cond_false, bindJ_go, htok]
    by_cases hl2 : 0 ≤ l ∧ l ≤ b.Level
    · have e2 : (decide (l < 0) || decide (b.Level < l)) = false := by simp; omega
      have hr := h.room
      obtain ⟨a1, a2, a3, a4, a5, a6, a7, a8, a9, a10⟩ := id h
      have hc : OK ⟨b.Cap, b.Num, b.Den, b.Level - l, b.At⟩ := ⟨a1, a2, a3, a4, a5, a6, by dsimp only; omega, by dsimp only; omega, a9, a10⟩
      have hw := refill_held hc (show b.At ≤ u by omega) h3
      have hg := held_nonneg hc (show b.At ≤ u by omega) h3
      have hg2 := held_nonneg h (show b.At ≤ u by omega) h3
      have hk := held_le (b := b) (t := u)
      have hle : held ⟨b.Cap, b.Num, b.Den, b.Level - l, b.At⟩ u ≤ held b u ∧ held b u - held ⟨b.Cap, b.Num, b.Den, b.Level - l, b.At⟩ u ≤ l := by
        unfold held; dsimp only; omega
      simp only [e2, cond_false]
      rw [w64 (x := b.Level - l) (by omega) (by omega)]
      simp only [hw, Option.bind_some]
      rw [w64 (x := held b u - held ⟨b.Cap, b.Num, b.Den, b.Level - l, b.At⟩ u) (by omega) (by omega)]
      simp [hle.1, hle.2]
    · have e2 : (decide (l < 0) || decide (b.Level < l)) = true := by simp; omega
      simp only [e2, cond_true, Option.bind_some]
  · have e : ((((!decide (OK b)) || decide (t < b.At)) || decide (u < t)) || decide (1099511627776 < u)) = true := by
      by_cases h : OK b
      · have h0' : ¬ (b.At ≤ t ∧ t ≤ u ∧ u ≤ 1099511627776) := fun x => h0 ⟨h, x⟩
        simp [h]; omega
      · simp [h]
    simp only [Option.bind_some, e, cond_true]
end Go.Proofs.Ytpalglggjndmlaa
