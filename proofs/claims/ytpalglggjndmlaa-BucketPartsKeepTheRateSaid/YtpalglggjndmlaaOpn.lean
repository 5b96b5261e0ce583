/-
  The arguments of the bucket laws, opened.
-/
import Derived.Test.YtpalglggjndmlaaFa
import Derived.Test.YtpalglggjndmlaaAbsEnd4
namespace Go.Proofs.Ytpalglggjndmlaa
open Go.Abs
set_option linter.unusedVariables false
set_option linter.unusedSimpArgs false
set_option maxRecDepth 20000

open Go.Sem Go.ChangeShapes Go.RowKit
def S_api_Bucket.wf (x : S_api_Bucket) : Prop := wfI .i64 x.Cap ∧ wfI .i64 x.Num ∧ wfI .i64 x.Den ∧ wfI .i64 x.Level ∧ wfI .i64 x.At
theorem S_api_Bucket.opn {H : Type} {enc : TypeId × Value → H} {w : World} {base : Nat} {sp : Nat → Bool} {held : Bool} : Opens enc Try.prog w base sp held 23 S_api_Bucket.enc S_api_Bucket.wf := by
  intro fuel cs x h
  obtain ⟨xs, n, _, _, hl, hlen, hf⟩ := DataW.trod_struct Try.underlying23 h
  have hl' : cs.length = 5 := hl.trans (by kernel_rfl)
  have hx : xs.length = 5 := hlen
  have k3 : Try.prog.cellsOf 3 = 1 := by kernel_rfl
  match cs, hl' with
  | [c0, c1, c2, c3, c4], _ =>
    have f0 := hf 0 _ rfl
    rw [List.getElem?_eq_getElem (show 0 < xs.length by omega)] at f0
    obtain ⟨a0, e0, w0⟩ := opn_int Try.underlying3 _ _ _ f0
    simp [k3, eInt, eStr, eBool] at e0
    have f1 := hf 1 _ rfl
    rw [List.getElem?_eq_getElem (show 1 < xs.length by omega)] at f1
    obtain ⟨a1, e1, w1⟩ := opn_int Try.underlying3 _ _ _ f1
    simp [k3, eInt, eStr, eBool] at e1
    have f2 := hf 2 _ rfl
    rw [List.getElem?_eq_getElem (show 2 < xs.length by omega)] at f2
    obtain ⟨a2, e2, w2⟩ := opn_int Try.underlying3 _ _ _ f2
    simp [k3, eInt, eStr, eBool] at e2
    have f3 := hf 3 _ rfl
    rw [List.getElem?_eq_getElem (show 3 < xs.length by omega)] at f3
    obtain ⟨a3, e3, w3⟩ := opn_int Try.underlying3 _ _ _ f3
    simp [k3, eInt, eStr, eBool] at e3
    have f4 := hf 4 _ rfl
    rw [List.getElem?_eq_getElem (show 4 < xs.length by omega)] at f4
    obtain ⟨a4, e4, w4⟩ := opn_int Try.underlying3 _ _ _ f4
    simp [k3, eInt, eStr, eBool] at e4
    exact ⟨⟨a0, a1, a2, a3, a4⟩, by simp [S_api_Bucket.enc, e0, e1, e2, e3, e4], w0, w1, w2, w3, w4⟩
def S_ref12_Number.wf (x : S_ref12_Number) : Prop := wfI .i64 x.N ∧ wfI .i64 x.E
theorem S_ref12_Number.opn {H : Type} {enc : TypeId × Value → H} {w : World} {base : Nat} {sp : Nat → Bool} {held : Bool} : Opens enc Try.prog w base sp held 38 S_ref12_Number.enc S_ref12_Number.wf := by
  intro fuel cs x h
  obtain ⟨xs, n, _, _, hl, hlen, hf⟩ := DataW.trod_struct Try.underlying38 h
  have hl' : cs.length = 2 := hl.trans (by kernel_rfl)
  have hx : xs.length = 2 := hlen
  have k3 : Try.prog.cellsOf 3 = 1 := by kernel_rfl
  have k24 : Try.prog.cellsOf 24 = 1 := by kernel_rfl
  match cs, hl' with
  | [c0, c1], _ =>
    have f0 := hf 0 _ rfl
    rw [List.getElem?_eq_getElem (show 0 < xs.length by omega)] at f0
    obtain ⟨a0, e0, w0⟩ := opn_int Try.underlying3 _ _ _ f0
    simp [k3, eInt, eStr, eBool] at e0
    have f1 := hf 1 _ rfl
    rw [List.getElem?_eq_getElem (show 1 < xs.length by omega)] at f1
    obtain ⟨a1, e1, w1⟩ := opn_int Try.underlying24 _ _ _ f1
    simp [k24, eInt, eStr, eBool] at e1
    exact ⟨⟨a0, a1⟩, by simp [S_ref12_Number.enc, e0, e1], w0, w1⟩
def S_law12_Try.wf (x : S_law12_Try) : Prop := wfI .u8 x.After ∧ wfI .u8 x.N ∧ wfI .u8 x.Part
theorem S_law12_Try.opn {H : Type} {enc : TypeId × Value → H} {w : World} {base : Nat} {sp : Nat → Bool} {held : Bool} : Opens enc Try.prog w base sp held 48 S_law12_Try.enc S_law12_Try.wf := by
  intro fuel cs x h
  obtain ⟨xs, n, _, _, hl, hlen, hf⟩ := DataW.trod_struct Try.underlying48 h
  have hl' : cs.length = 3 := hl.trans (by kernel_rfl)
  have hx : xs.length = 3 := hlen
  have k5 : Try.prog.cellsOf 5 = 1 := by kernel_rfl
  match cs, hl' with
  | [c0, c1, c2], _ =>
    have f0 := hf 0 _ rfl
    rw [List.getElem?_eq_getElem (show 0 < xs.length by omega)] at f0
    obtain ⟨a0, e0, w0⟩ := opn_int Try.underlying5 _ _ _ f0
    simp [k5, eInt, eStr, eBool] at e0
    have f1 := hf 1 _ rfl
    rw [List.getElem?_eq_getElem (show 1 < xs.length by omega)] at f1
    obtain ⟨a1, e1, w1⟩ := opn_int Try.underlying5 _ _ _ f1
    simp [k5, eInt, eStr, eBool] at e1
    have f2 := hf 2 _ rfl
    rw [List.getElem?_eq_getElem (show 2 < xs.length by omega)] at f2
    obtain ⟨a2, e2, w2⟩ := opn_int Try.underlying5 _ _ _ f2
    simp [k5, eInt, eStr, eBool] at e2
    exact ⟨⟨a0, a1, a2⟩, by simp [S_law12_Try.enc, e0, e1, e2], w0, w1, w2⟩

end Go.Proofs.Ytpalglggjndmlaa
