/-
  The plain law GraphTreesMatchSpec.
-/
import Derived.Test.YtgelifcckhemiaaPt
import Derived.Test.YtgelifcckhemiaaW5
import Derived.Test.YtgelifcckhemiaaSane
import Derived.Test.YtgelifcckhemiaaAbsEnd4
namespace Go.Proofs.Ytgelifcckhemiaa
open Go.Abs
set_option linter.unusedSimpArgs false
set_option linter.unusedVariables false
theorem bels_len {p : List Int} {v : Int} : (bels p v).length ≤ p.length := by
  unfold bels
  have : ∀ l : List Nat, (l.flatMap (belF p v)).length ≤ l.length := by
    intro l
    induction l with
    | nil => simp
    | cons x r ih =>
      rw [List.flatMap_cons, List.length_append, List.length_cons]
      have : (belF p v x).length ≤ 1 := by unfold belF; split <;> simp
      omega
  simpa using this (List.range p.length)
theorem trees_true (p : List Int) (v : Int) (hp : ∀ a ∈ p, wfI .i64 a) (hv : wfI .i64 v) : ∃ m, law09_GraphTreesMatchSpec m p v = some true := by
  refine ⟨p.length + 300 + 40, ?_⟩
  unfold law09_GraphTreesMatchSpec
  have hs := sane (p.length + 300)
  generalize hn : p.length + 300 + 40 = n at *
  by_cases hc : (decide (40 < (p.length : Int)) && decide ((p.length : Int) ≤ 256) || decide (300 < (p.length : Int))) = true
  · rw [hc]; simp [hs, obind]
  · have hc' : (decide (40 < (p.length : Int)) && decide ((p.length : Int) ≤ 256) || decide (300 < (p.length : Int))) = false := by simpa using hc
    rw [hc', Depths_eq n (by omega), Climb_eq v n (by omega), Below_eq v n (by omega), rDepths_eq n (by omega), rClimb_eq v n (by omega), rBelow_eq v n (by omega), hs]
    simp only [cond_false, obind, Option.bind_some, cond_true]
    by_cases h : p.length ≤ 256 ∧ wfp p
    · have hd : (deps p).length ≤ p.length := by simp [deps]
      have hc := ch_len_le (p := p) p.length v
      have hb := bels_len (p := p) (v := v)
      simp only [if_pos h]
      rw [Same_eq n (by omega) (by omega)]
      by_cases hv' : 0 ≤ v ∧ v < p.length
      · simp only [if_pos hv', Option.bind_some]
        rw [Same_eq n (by omega) (by omega), Same_eq n (by omega) (by omega)]
        simp
      · simp only [if_neg hv', Option.bind_some]
        rw [Same_eq n (by simp) (by simp; omega)]
        simp
    · simp only [if_neg h]
      rw [Same_eq n (by simp) (by simp; omega)]
      simp
end Go.Proofs.Ytgelifcckhemiaa
