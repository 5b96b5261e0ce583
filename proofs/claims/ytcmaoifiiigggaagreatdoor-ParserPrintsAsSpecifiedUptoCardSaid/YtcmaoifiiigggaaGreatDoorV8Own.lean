/-
  Shorter names.
-/
import Derived.WalkKit
set_option linter.unusedVariables false
namespace Go
theorem yA {α : Type} (a b c : List α) : a ++ b ++ c = a ++ (b ++ c) := List.append_assoc a b c
theorem yB {α : Type} {a b : List α} : (a ++ b).length = a.length + b.length := List.length_append
theorem yC {α : Type} {a : α} {b : List α} : (a :: b).length = b.length + 1 := rfl
theorem yD {α : Type} (a : List α) : [] ++ a = a := rfl
theorem yE {α : Type} {a : α} {b c : List α} : (a :: b) ++ c = a :: (b ++ c) := rfl
theorem yF {α : Type} : ([] : List α).length = 0 := rfl
theorem yG (b : Bool) : b = true ∨ b = false := Bool.eq_false_or_eq_true b
theorem yH (n : Nat) : ¬n < 0 := Nat.not_lt_zero n
theorem yI {α β : Type} {f : α → β} {a : α} {l : List α} : (a :: l).map f = f a :: l.map f := rfl
theorem yJ {α : Type} {a b : α} : cond false a b = b := rfl
theorem yK {α : Type} {a b : α} : cond true a b = a := rfl
theorem yX (n : Nat) : 0 ≤ n := Nat.zero_le n
theorem yY (n : Nat) : (n : Int).toNat = n := rfl
theorem yZ : (¬False) = True := not_false_eq_true
theorem y0 {α : Type} {a : α} : ¬a ∈ [] := List.not_mem_nil
theorem y1 {α : Type} {a b : α} {l : List α} : a ∈ b :: l ↔ a = b ∨ a ∈ l := List.mem_cons
theorem yN : (false = true) = False := Bool.false_eq_true
theorem yO {α β : Type} (a : α) (f : α → Option β) : (some a).bind f = f a := rfl
theorem yP {h : Decidable False} : @decide False h = false := decide_false h
theorem yQ {h : Decidable True} : @decide True h = true := decide_true h
theorem yR {α : Sort _} {h : Decidable False} (a b : α) : @ite α False h a b = b := if_false a b
theorem yS {α : Sort _} {h : Decidable True} (a b : α) : @ite α True h a b = a := if_true a b
theorem yT : (!false) = true := rfl
theorem yU : (!true) = false := rfl
theorem yV : (¬True) = False := not_true_eq_false
theorem yW {a b : Nat} : (a : Int) < (b : Int) ↔ a < b := Int.ofNat_lt
theorem yL {p : Prop} [i : Decidable p] (h : ¬p) : decide p = false := decide_eq_false h
theorem yM {p : Prop} [i : Decidable p] (h : p) : decide p = true := decide_eq_true h
end Go
