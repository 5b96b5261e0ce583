/-
  Arguments of a claim's frame, opened by their types: numbers, truth values, strings, structs of these, slices of what is opened.
-/
import Derived.Test.YtigiikkenamneaaAbsEnd3
import Derived.Test.YtigiikkenamneaaAbsLift2
namespace Go.Abs
open Go.Sem Go.ChangeShapes Go.RowKit
section
variable {H : Type} {enc : TypeId × Value → H} {P : Program} {w : World} {base : Nat} {sp : Nat → Bool} {held : Bool}
def wfI (k : IntKind) (n : Int) : Prop := (Lit.int k n).wf = true
theorem wf64 {n : Int} (h : wfI .i64 n) : -9223372036854775808 ≤ n ∧ n ≤ 9223372036854775807 := by
  simp only [wfI, Lit.wf, Bool.and_eq_true, decide_eq_true_eq] at h; exact h
theorem wf8 {n : Int} (h : wfI .u8 n) : 0 ≤ n ∧ n ≤ 255 := by
  simp only [wfI, Lit.wf, Bool.and_eq_true, decide_eq_true_eq] at h; exact h
/-- a type is opened: what is read of it lies in the cells 'F a', and a is well formed -/
def Opens (enc : TypeId × Value → H) (P : Program) (w : World) (base : Nat) (sp : Nat → Bool) (held : Bool) (t : TypeId) {α : Type} (F : α → List Value) (wf : α → Prop) : Prop :=
  ∀ (fuel : Nat) (cs : List Value) (x : DataW H × List MemPlace), DataW.trod enc P w base sp held fuel t cs = some x → ∃ a, cs = F a ∧ wf a
theorem opn_int {t : TypeId} {k : IntKind} (ht : P.underlying t = some (.int k)) : Opens enc P w base sp held t (eInt k) (wfI k) := by
  intro fuel cs x h
  obtain ⟨n, hc, _, hw⟩ := DataW.trod_int ht h
  exact ⟨n, hc, hw⟩
/-- the elements of a slice that is opened -/
theorem opn_slice {t e : TypeId} {es : Nat} {α : Type} {F : α → List Value} {wf : α → Prop} (ht : P.underlying t = some (.slice e)) (hce : P.cellsOf e = es) (hes : 0 < es) (hF : ∀ a, (F a).length = es)
    (ho : Opens enc P w base sp held e F wf) {fuel : Nat} {cs : List Value} {x : DataW H × List MemPlace} (h : DataW.trod enc P w base sp held fuel t cs = some x) :
    ∃ (v : Value) (l : List α), cs = [v] ∧ (∀ a ∈ l, wf a) ∧ SliceIs w (fun b => (fun _ => Ow.no : Own) b = .no) v es (l.map F) ∧
      ((x = (.nil, []) ∧ l = []) ∨ ∃ ys rs ps, x = (.slice ys rs, ps) ∧ ys.length = l.length) := by
  rcases DataW.trod_slice ht h with ⟨rfl, hx⟩ | ⟨a, len, cap, elems, rest, m, _, rfl, rfl, hb, hl, hm, hlen, hel', hsp, hns⟩
  · exact ⟨_, [], rfl, by simp, slice_nil, .inl ⟨hx, rfl⟩⟩
  · have each : ∀ i, i < len → ∃ d : α, wf d ∧ ∀ j v, (F d)[j]? = some v → w.cell? (a.add (i * es + j)) = some v := by
      intro i hi
      have h1 := hel' i hi
      rw [List.getElem?_eq_getElem (by omega), hce, Option.bind_eq_some_iff] at h1
      obtain ⟨cs', hcs, hy⟩ := h1
      obtain ⟨d, rfl, hd⟩ := ho _ _ _ hy
      refine ⟨d, hd, fun j v hj => ?_⟩
      have hjlt : j < es := by have := (List.getElem?_eq_some_iff.1 hj).1; rw [hF] at this; omega
      have := (World.cells?_some hcs).2.2 j hjlt
      rw [hj] at this
      rw [← this]
      congr 1
      unfold Addr.add
      by_cases e1 : i * es = 0
      · rw [if_pos e1]; simp [e1]
      · rw [if_neg e1, if_neg (by omega)]
        by_cases e2 : j = 0
        · simp [e2]
        · rw [if_neg e2]; simp [Nat.add_assoc]
    have hch : ∃ l : List α, l.length = len ∧ ∀ i d, l[i]? = some d → wf d ∧ ∀ j v, (F d)[j]? = some v → w.cell? (a.add (i * es + j)) = some v := by
      clear hel' hlen hsp hns hl h
      induction len with
      | zero => exact ⟨[], rfl, by simp⟩
      | succ k ih =>
        obtain ⟨l, hl1, hl2⟩ := ih (fun i hi => each i (by omega))
        obtain ⟨d, hd1, hd2⟩ := each k (by omega)
        refine ⟨l ++ [d], by simp [hl1], fun i d' hi => ?_⟩
        by_cases hik : i < k
        · rw [List.getElem?_append_left (by omega)] at hi; exact hl2 i d' hi
        · rw [List.getElem?_append_right (by omega)] at hi
          have : i = k := by have := (List.getElem?_eq_some_iff.1 hi).1; simp at this; omega
          subst this
          rw [hl1, Nat.sub_self] at hi
          simp at hi
          subst hi
          exact ⟨hd1, hd2⟩
    obtain ⟨l, hl1, hl2⟩ := hch
    refine ⟨_, l, rfl, ?_, ?_, .inr ⟨_, _, _, rfl, by simp [hlen, hl1]⟩⟩
    · intro d hd
      obtain ⟨i, hi⟩ := List.getElem?_of_mem hd
      exact (hl2 i d hi).1
    · refine cells_open (by rw [List.length_map, hl1]) hl hm (by simp) hes ?_ ?_
      · intro c hc
        obtain ⟨d, hd, rfl⟩ := List.mem_map.1 hc
        exact hF d
      · intro x hx i c hi j v hj
        cases hx
        simp only [List.getElem?_map, Option.map_eq_some_iff] at hi
        obtain ⟨d, hd, rfl⟩ := hi
        exact (hl2 i d hd).2 j v hj
end
end Go.Abs
