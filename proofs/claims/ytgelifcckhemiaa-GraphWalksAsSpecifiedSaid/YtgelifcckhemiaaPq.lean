/-
  Lists compared, in plain words.
-/
import Derived.Test.YtgelifcckhemiaaFe
import Derived.Test.YtgelifcckhemiaaAbsPlain
namespace Go.Proofs.Ytgelifcckhemiaa
open Go.Abs
set_option linter.unusedSimpArgs false
set_option linter.unusedVariables false
theorem Same_eq {a b : List Int} (n : Nat) (hl : a.length ≤ 4294967296) (hn : a.length < n) : ref09_Same n a b = some (decide (a = b)) := by
  unfold ref09_Same
  by_cases he : a.length = b.length
  · have e : decide ((a.length : Int) ≠ (b.length : Int)) = false := by simp; omega
    simp only [e, cond_false]
    have k1 : iter (ref09_Same_L1 a b) n 0 = some (foldL (S := Unit) (R := Lp Unit Bool) (fun _ (i : Nat) => cond (decide (a[i]? = b[i]?)) (.go ()) (.stop (.stop false))) .go () (List.range a.length)) := by
      refine iter_range a.length (fun (i : Nat) (_ : Unit) => (i : Int)) (fun (_ : Unit) (i : Nat) => cond (decide (a[i]? = b[i]?)) (.go ()) (.stop (.stop false))) (.go : Unit → Lp Unit Bool) (fun _ _ => True) (fun i s _ hi => ?_) (fun s _ => ?_) n () trivial hn
      · refine ⟨?_, fun _ _ => trivial⟩
        unfold ref09_Same_L1
        have e : decide ((i : Int) < (a.length : Int)) = true := by simpa using hi
        simp only [e, cond_true]
        rw [idx_get (List.getElem?_eq_getElem hi), idx_get (List.getElem?_eq_getElem (show i < b.length by omega)), w64 (by omega) (by omega), List.getElem?_eq_getElem hi, List.getElem?_eq_getElem (show i < b.length by omega)]
        by_cases h : a[i] = b[i]'(by omega) <;> simp [h]
      · unfold ref09_Same_L1; simp
    rw [k1, foldL_all (fun i => decide (a[i]? = b[i]?)) (.stop false) _ (fun x _ => rfl)]
    by_cases h : a = b
    · subst h
      have : ((List.range a.length).all fun i => decide (a[i]? = a[i]?)) = true := by rw [List.all_eq_true]; intro i _; simp
      rw [this]; simp
    · have : ((List.range a.length).all fun i => decide (a[i]? = b[i]?)) = false := by
        rw [Bool.eq_false_iff]; intro hh
        refine h (List.ext_getElem? fun i => ?_)
        by_cases hi : i < a.length
        · have := List.all_eq_true.1 hh i (by simpa using hi); simpa using this
        · rw [List.getElem?_eq_none (by omega), List.getElem?_eq_none (by omega)]
      simp only [this, cond_false, bindJ_stop, h, decide_false]
  · have e : decide ((a.length : Int) ≠ (b.length : Int)) = true := by simp; omega
    have : a ≠ b := fun h => he (by rw [h])
    simp [e, this]
end Go.Proofs.Ytgelifcckhemiaa
