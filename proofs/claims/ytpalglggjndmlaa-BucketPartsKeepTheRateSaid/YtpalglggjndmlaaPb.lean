/-
  More on buckets in plain words: when tokens can be taken; refilling in steps.
-/
import Derived.Test.YtpalglggjndmlaaPa
import Derived.Test.YtpalglggjndmlaaOpn
namespace Go.Proofs.Ytpalglggjndmlaa
open Go.Abs
set_option linter.unusedSimpArgs false
set_option linter.unusedVariables false
theorem sanity_true (k : Nat) : law12_sanity (k + 10) = some true := by rfl
/-- what a bucket holds at an instant -/
def held (b : B) (t : Int) : Int := min (b.Cap * b.Den) (b.Level + b.Num * (t - b.At))
theorem held_at {b : B} (h : OK b) : held b b.At = b.Level := by
  unfold held
  rw [Int.sub_self, Int.mul_zero]
  have := h.2.2.2.2.2.2.2.1
  omega
theorem held_nonneg {b : B} {t : Int} (h : OK b) (h1 : b.At ≤ t) (h2 : t ≤ 1099511627776) : 0 ≤ held b t := by
  have := gain h h1 h2
  have := h.room
  have := h.2.2.2.2.2.2.1
  unfold held; omega
theorem held_le {b : B} {t : Int} : held b t ≤ b.Cap * b.Den := by unfold held; omega
theorem mul_step (n a t u : Int) : n * (u - a) = n * (t - a) + n * (u - t) := by rw [← Int.mul_add]; congr 1; omega
theorem held_step {b : B} {t u : Int} (h : OK b) (h1 : b.At ≤ t) (h2 : t ≤ u) : held b u = min (b.Cap * b.Den) (held b t + b.Num * (u - t)) := by
  have hs := mul_step b.Num b.At t u
  have : 0 ≤ b.Num * (u - t) := Int.mul_nonneg h.2.2.1 (by omega)
  unfold held
  rw [hs]
  omega
theorem refill_held {b : B} {t : Int} (h : OK b) (h1 : b.At ≤ t) (h2 : t ≤ 1099511627776) : refill b t = (⟨b.Cap, b.Num, b.Den, held b t, t⟩, 0) := refill_ok h h1 h2
theorem take_case {b : B} {t n : Int} (h : OK b) (hn : 1 ≤ n ∧ n ≤ 1073741824) (h1 : b.At ≤ t) (h2 : t ≤ 1099511627776) :
    take b t n = if held b t < n * b.Den then (B0, 4) else (⟨b.Cap, b.Num, b.Den, held b t - n * b.Den, t⟩, 0) := by
  unfold take
  rw [if_pos ⟨h, hn⟩, refill_held h h1 h2]
  simp only [if_true]
theorem take_low {b : B} {t n : Int} (h : OK b) (hn : 1 ≤ n ∧ n ≤ 1073741824) (h1 : b.At ≤ t) (h2 : t ≤ 1099511627776) (h3 : held b t < n * b.Den) : take b t n = (B0, 4) := by
  rw [take_case h hn h1 h2, if_pos h3]
theorem take_high {b : B} {t n : Int} (h : OK b) (hn : 1 ≤ n ∧ n ≤ 1073741824) (h1 : b.At ≤ t) (h2 : t ≤ 1099511627776) (h3 : n * b.Den ≤ held b t) : take b t n = (⟨b.Cap, b.Num, b.Den, held b t - n * b.Den, t⟩, 0) := by
  rw [take_case h hn h1 h2, if_neg (by omega)]
theorem mul_mono {c a b : Int} (hc : 0 ≤ c) (h : a ≤ b) : c * a ≤ c * b := Int.mul_le_mul_of_nonneg_left h hc
end Go.Proofs.Ytpalglggjndmlaa
