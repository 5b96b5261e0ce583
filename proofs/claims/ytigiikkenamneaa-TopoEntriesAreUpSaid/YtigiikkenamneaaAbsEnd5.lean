/-
  Arguments of a claim's frame, opened by their types: structs and slices with further slices in them.
-/
import Derived.Test.YtigiikkenamneaaAbsEnd4
import Derived.Test.YtigiikkenamneaaAbsNest
import Derived.ChangeArms
namespace Go.Abs
open Go.Sem Go.ChangeShapes Go.RowKit
section
variable {H : Type} {enc : TypeId × Value → H} {P : Program} {w : World} {base : Nat} {sp : Nat → Bool} {held : Bool}
theorem opn_bool {t : TypeId} (ht : P.underlying t = some .bool) : Opens enc P w base sp held t eBool (fun _ => True) := by
  intro fuel cs x h
  obtain ⟨b, hc, _⟩ := DataW.trod_bool ht h
  exact ⟨b, hc, trivial⟩
theorem opn_str {t : TypeId} (ht : P.underlying t = some .string) : Opens enc P w base sp held t eStr (fun l => l.length ≤ maxLen) := by
  intro fuel cs x h
  obtain ⟨s, hc, _, hl⟩ := DataW.trod_string ht h
  exact ⟨s.data.toList, by rw [hc]; rfl, hl⟩
def noO : Own := fun _ => .no
def OpensN (enc : TypeId × Value → H) (P : Program) (w : World) (base : Nat) (sp : Nat → Bool) (held : Bool) (t : TypeId) {α : Type} (C : NC α) (wf : α → Prop) : Prop :=
  ∀ (fuel : Nat) (cs : List Value) (x : DataW H × List MemPlace), DataW.trod enc P w base sp held fuel t cs = some x → ∃ a g, cs = C.F a g ∧ wf a ∧ ∀ k, HsP (C.S a g) w noO k
theorem opn_leaf {t e : TypeId} {es : Nat} {α : Type} {F : α → List Value} {wf : α → Prop} (ht : P.underlying t = some (.slice e)) (hce : P.cellsOf e = es) (hes : 0 < es) (hF : ∀ a, (F a).length = es)
    (ho : Opens enc P w base sp held e F wf) {fuel : Nat} {cs : List Value} {x : DataW H × List MemPlace} (h : DataW.trod enc P w base sp held fuel t cs = some x) :
    ∃ (v : Value) (l : List α), cs = [v] ∧ (∀ a ∈ l, wf a) ∧ ∀ k, (ro v es (l.map F)).p w noO k := by
  obtain ⟨v, l, h1, h2, h3, _⟩ := opn_slice ht hce hes hF ho h
  exact ⟨v, l, h1, h2, fun _ => h3⟩
theorem opn_leafN {t e : TypeId} {α : Type} {C : NC α} {wf : α → Prop} (ht : P.underlying t = some (.slice e)) (hce : P.cellsOf e = C.es) (hes : 0 < C.es) (hF : ∀ a g, (C.F a g).length = C.es)
    (ho : OpensN enc P w base sp held e C wf) {fuel : Nat} {cs : List Value} {x : DataW H × List MemPlace} (h : DataW.trod enc P w base sp held fuel t cs = some x) :
    ∃ (v : Value) (l : List α), cs = [v] ∧ (∀ a ∈ l, wf a) ∧ ∀ k, (nro v C l).p w noO k := by
  have ho' : Opens enc P w base sp held e (fun p : α × C.G => C.F p.1 p.2) (fun p => wf p.1 ∧ ∀ k, HsP (C.S p.1 p.2) w noO k) := fun fuel cs x h => let ⟨a, g, h1, h2, h3⟩ := ho fuel cs x h; ⟨(a, g), h1, h2, h3⟩
  obtain ⟨v, lg, h1, h2, h3, _⟩ := opn_slice ht hce hes (fun p : α × C.G => hF p.1 p.2) ho' h
  refine ⟨v, lg.map (·.1), h1, ?_, fun k => ⟨lg, rfl, h3, fun p hp => (h2 p hp).2 k⟩⟩
  intro a ha
  obtain ⟨p, hp, rfl⟩ := List.mem_map.1 ha
  exact (h2 p hp).1
theorem slice_len {t e : TypeId} (ht : P.underlying t = some (.slice e)) {fuel : Nat} {cs : List Value} {x : DataW H × List MemPlace} (h : DataW.trod enc P w base sp held fuel t cs = some x) {N : Nat}
    (hx : (x = (.nil, []) ∧ N = 0) ∨ ∃ ys rs ps, x = (.slice ys rs, ps) ∧ ys.length = N) : N ≤ maxLen := by
  rcases DataW.trod_slice ht h with ⟨_, h0⟩ | ⟨a, len, cap, elems, rest, m, _, _, h0, _, hl, hm, hlen, _⟩
  · rcases hx with ⟨_, rfl⟩ | ⟨ys, rs, ps, h1, _⟩
    · exact Nat.zero_le _
    · rw [h0] at h1; cases h1
  · rcases hx with ⟨h1, _⟩ | ⟨ys, rs, ps, h1, h2⟩
    · rw [h0] at h1; cases h1
    · rw [h0] at h1; cases h1; rw [List.length_map] at h2; omega
theorem opn_leafL {t e : TypeId} {es : Nat} {α : Type} {F : α → List Value} {wf : α → Prop} (ht : P.underlying t = some (.slice e)) (hce : P.cellsOf e = es) (hes : 0 < es) (hF : ∀ a, (F a).length = es)
    (ho : Opens enc P w base sp held e F wf) {fuel : Nat} {cs : List Value} {x : DataW H × List MemPlace} (h : DataW.trod enc P w base sp held fuel t cs = some x) :
    ∃ (v : Value) (l : List α), cs = [v] ∧ (l.length ≤ maxLen ∧ ∀ a ∈ l, wf a) ∧ ∀ k, (ro v es (l.map F)).p w noO k := by
  obtain ⟨v, l, h1, h2, h3, h4⟩ := opn_slice ht hce hes hF ho h
  refine ⟨v, l, h1, ⟨slice_len ht h ?_, h2⟩, fun _ => h3⟩
  rcases h4 with ⟨h5, rfl⟩ | h5
  · exact .inl ⟨h5, rfl⟩
  · exact .inr h5
theorem opn_leafNL {t e : TypeId} {α : Type} {C : NC α} {wf : α → Prop} (ht : P.underlying t = some (.slice e)) (hce : P.cellsOf e = C.es) (hes : 0 < C.es) (hF : ∀ a g, (C.F a g).length = C.es)
    (ho : OpensN enc P w base sp held e C wf) {fuel : Nat} {cs : List Value} {x : DataW H × List MemPlace} (h : DataW.trod enc P w base sp held fuel t cs = some x) :
    ∃ (v : Value) (l : List α), cs = [v] ∧ (l.length ≤ maxLen ∧ ∀ a ∈ l, wf a) ∧ ∀ k, (nro v C l).p w noO k := by
  have ho' : Opens enc P w base sp held e (fun p : α × C.G => C.F p.1 p.2) (fun p => wf p.1 ∧ ∀ k, HsP (C.S p.1 p.2) w noO k) := fun fuel cs x h => let ⟨a, g, h1, h2, h3⟩ := ho fuel cs x h; ⟨(a, g), h1, h2, h3⟩
  obtain ⟨v, lg, h1, h2, h3, h4⟩ := opn_slice ht hce hes (fun p : α × C.G => hF p.1 p.2) ho' h
  refine ⟨v, lg.map (·.1), h1, ⟨slice_len ht h ?_, ?_⟩, fun k => ⟨lg, rfl, h3, fun p hp => (h2 p hp).2 k⟩⟩
  · rcases h4 with ⟨h5, rfl⟩ | h5
    · exact .inl ⟨h5, rfl⟩
    · exact .inr (by simpa using h5)
  intro a ha
  obtain ⟨p, hp, rfl⟩ := List.mem_map.1 ha
  exact (h2 p hp).1
end
end Go.Abs
