/-
  More arguments of a claim's frame: slices of integers, numbers.
-/
import Derived.Test.YtigiikkenamneaaAbsEnd
namespace Go.Abs
open Go.Sem Go.ChangeShapes Go.RowKit
theorem i64_in {n : Int} (h : (Lit.int .i64 n).wf = true) : -9223372036854775808 ≤ n ∧ n ≤ 9223372036854775807 := by
  simp only [Lit.wf, Bool.and_eq_true, decide_eq_true_eq] at h
  exact h
theorem ints_in {w : World} {a : Addr} {len cap : Nat} {zs : List Int} (h1 : len ≤ cap) (h2 : cap ≤ maxLen) (h3 : len ≤ zs.length) (hc : ∀ i, i < zs.length → w.cell? (a.add i) = some (.int .i64 (zs.getD i 0)))
    (hw : ∀ n ∈ zs, (Lit.int .i64 n).wf = true) : ∃ l : List Int, l.length = len ∧ (∀ n ∈ l, -9223372036854775808 ≤ n ∧ n ≤ 9223372036854775807) ∧ SliceIs w (fun b => (fun _ => Ow.no : Own) b = .no) (.slice (some a) len cap) 1 (i64c l) := by
  refine ⟨zs.take len, by simp; omega, fun n hn => i64_in (hw n (List.mem_of_mem_take hn)), cells_open (by simp [i64c]; omega) h1 h2 (by simp) (by omega) ?_ ?_⟩
  · intro c hc; simp only [i64c, List.mem_map] at hc; obtain ⟨_, _, rfl⟩ := hc; rfl
  · intro x hx i c hi j v hj
    cases hx
    simp only [i64c, List.getElem?_map, Option.map_eq_some_iff] at hi
    obtain ⟨n, hn, rfl⟩ := hi
    have hj0 : j = 0 := by have := (List.getElem?_eq_some_iff.1 hj).1; simpa using this
    subst hj0
    simp at hj
    have hlt : i < zs.length := by have := (List.getElem?_eq_some_iff.1 hn).1; rw [List.length_take] at this; omega
    have hn2 : zs[i] = n := by
      obtain ⟨h5, h6⟩ := List.getElem?_eq_some_iff.1 hn
      rw [← h6]; simp
    have := hc i hlt
    rw [List.getD_eq_getElem?_getD, List.getElem?_eq_getElem hlt, Option.getD_some, hn2] at this
    rw [Nat.mul_one, Nat.add_zero, this, ← hj]
end Go.Abs
