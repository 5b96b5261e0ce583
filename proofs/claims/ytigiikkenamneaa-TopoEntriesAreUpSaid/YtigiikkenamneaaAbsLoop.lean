/-
  A loop whose rounds are counted: walked round by round. A row whose elements are slices.
-/
import Derived.Test.YtigiikkenamneaaAbsArr
import Derived.LoopNIn
namespace Go.Abs
variable {E : Env} {k : List KI} {V : VF} {H : List HA}
theorem run_times {c : Code} (n : Nat) (h : Run E c (.loop (Code.roundsIn (FR E.r) 0 E.P c (Qof E k) n) :: k) V H) : Run E (.loop c) k V H := fun a w r => wpIn_loop_rounds (n + 1) (h a w r)
theorem goes_times {c : Code} {n : Nat} (h : Run E c (.loop (Code.roundsIn (FR E.r) 0 E.P c (Qof E k) n) :: k) V H) : Goes E (.loop (Code.roundsIn (FR E.r) 0 E.P c (Qof E k) (n + 1)) :: k) V H := fun a w r => h a w r
/-- values as cells -/
def valc (l : List Value) : List (List Value) := l.map fun v => [v]
theorem valc_len (l : List Value) : (valc l).length = l.length := by simp [valc]
theorem valc_get {l : List Value} {i : Nat} (h : i < l.length) : (valc l)[i]? = some [l[i]] := by simp [valc, h]
/-- a slice is one cell -/
theorem ops_isslice {ops : Array Oper} {r : List Oper} (m : Nat) {h : HA} {v : Value} {es : Nat} {cells : List (List Value)} (hm : H[m]? = some h) (hr : Reads h v es cells) (hk : v.cells = #[v] → Ops E ops r k V H) : Ops E ops r k V H := by
  intro a w q
  obtain ⟨h1, h2, h3, o, hb, ht, hs⟩ := q
  obtain ⟨x, cap, e, _⟩ := hr.is w o m (hs m h hm)
  exact hk (by rw [e]; rfl) a w ⟨h1, h2, h3, o, hb, ht, hs⟩
end Go.Abs
