/-
  The plain law BucketMatchesSpec.
-/
import Derived.Test.YtpalglggjndmlaaW3
import Derived.Test.YtpalglggjndmlaaPa
import Derived.Test.YtpalglggjndmlaaOpn
namespace Go.Proofs.Ytpalglggjndmlaa
open Go.Abs
set_option linter.unusedSimpArgs false
theorem sanity_true (k : Nat) : law12_sanity (k + 10) = some true := by rfl
theorem matches_true (b : B) (t n u : Int) (hb : b.wf) (ht : wfI .i64 t) (hn : wfI .i64 n) (hu : wfI .i64 u) : ∃ m, law12_BucketMatchesSpec m b t n u = some true := by
  refine ⟨10, ?_⟩
  unfold law12_BucketMatchesSpec
  rw [New_eq, Refill_eq, Take_eq, (Wait_both b n (wf64 hn)).1, (Most_both b t u (wf64 ht) (wf64 hu)).1, rNew_eq, rRefill_eq, rTake_eq, (Wait_both b n (wf64 hn)).2, (Most_both b t u (wf64 ht) (wf64 hu)).2, sanity_true 0,
    Valid_eq, rValid_eq, Tokens_eq, rTokens_eq]
  split <;> simp
end Go.Proofs.Ytpalglggjndmlaa
