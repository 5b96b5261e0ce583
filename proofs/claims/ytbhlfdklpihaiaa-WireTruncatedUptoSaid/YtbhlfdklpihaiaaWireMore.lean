/-
  How long an encoded list of strings is.
-/
import Derived.Test.YtbhlfdklpihaiaaWireCanon
namespace Go.Abs
theorem flatS_len : ∀ (l : List (List UInt8)), (∀ s ∈ l, s.length ≤ 4294967296) → (l.flatMap encS).length ≤ l.length * 10 + (l.map List.length).sum
  | [], _ => by simp
  | s :: l, h => by
    have ih := flatS_len l (fun y hy => h y (List.mem_cons_of_mem _ hy))
    have hs := h s (List.mem_cons_self ..)
    have h2 := (encI_len (n := (s.length : Int)) (by omega) (by omega)).2
    rw [List.flatMap_cons, List.length_append, List.length_cons, List.map_cons, List.sum_cons, encS, List.length_append]
    omega
theorem encLS_len (l : List (List UInt8)) (hl : l.length ≤ 4294967296) (hn : ∀ s ∈ l, s.length ≤ 4294967296) : (encL encS l).length ≤ 10 + l.length * 10 + (l.map List.length).sum := by
  have h := flatS_len l hn
  have h2 := (encI_len (n := (l.length : Int)) (by omega) (by omega)).2
  unfold encL; rw [List.length_append]; omega
theorem mem_sum : ∀ (l : List (List UInt8)) (s : List UInt8), s ∈ l → s.length ≤ (l.map List.length).sum
  | [], _, h => by simp at h
  | x :: l, s, h => by
    rw [List.map_cons, List.sum_cons]
    rcases List.mem_cons.1 h with rfl | h
    · omega
    · have := mem_sum l s h; omega
end Go.Abs
