/-
  From the frame of a claim to the own logic and back: what the arguments are, and that a law's call leaves memory as it was.
-/
import Derived.Test.YtigiikkenamneaaAbsArr
import Derived.WalkKit
import Derived.ProofKit
import Derived.OpenShut
import Derived.ShutString
import Derived.ChangeOld
import Derived.Below
import Derived.SliceStrings
namespace Go.Abs
open Go.Sem Go.ChangeShapes Go.RowKit

/-- a law's contract, as the claim's frame wants it -/
theorem Meets.law {P : Program} {f : FuncId} {args : List Value} {H : List HA} (h : Meets P f args H (fun v G => v = .bool true ∧ G = [])) {w : World} (hs : Sats w (fun _ => .no) H) :
    Calls P f args.toArray w fun e w' => e = .returned (.bool true) ∧ Below w.heap.size w w' := by
  refine (h w (fun _ => .no) (fun _ _ => rfl) hs).mono fun e w' ⟨v, G, o', he, ⟨hv, _⟩, _, ht, _⟩ => ?_
  subst hv
  exact ⟨he, ht.os, ht.tape, ht.output, ht.size, fun k hk => (ht.no k hk rfl).2⟩

theorem cells_open {w : World} {a : Option Addr} {len cap es : Nat} {cells : List (List Value)} (hcl : cells.length = len) (h1 : len ≤ cap) (h2 : cap ≤ maxLen) (h3 : a = none → cap = 0) (hes : 0 < es)
    (he : ∀ c ∈ cells, c.length = es) (hc : ∀ x, a = some x → ∀ i c, cells[i]? = some c → ∀ j v, c[j]? = some v → w.cell? (x.add (i * es + j)) = some v) :
    SliceIs w (fun b => (fun _ => Ow.no : Own) b = .no) (.slice a len cap) es cells := by
  refine ⟨a, cap, by rw [hcl], by omega, h2, h3, ?_⟩
  intro i c hi
  have hlen := he c (List.mem_of_getElem? hi)
  cases a with
  | none =>
    have := (List.getElem?_eq_some_iff.1 hi).1
    have := h3 rfl
    omega
  | some x =>
    have e0 : c[0]? = some (c[0]'(by omega)) := List.getElem?_eq_getElem (by omega)
    have h := hc x rfl i c hi 0 _ e0
    have hs0 := World.cell?_spot h
    have hb : x.block < w.heap.size := by
      unfold World.cell? at h
      have e : (x.add (i * es + 0)).block = x.block := by unfold Addr.add; split <;> rfl
      rw [e] at h
      cases hh : w.heap[x.block]? with
      | none => rw [hh] at h; simp at h
      | some o => exact (Array.getElem?_eq_some_iff.1 hh).1
    obtain ⟨b, off, spot⟩ := x
    refine ⟨hlen, b, off, ?_, hb, rfl, ?_⟩
    · cases spot with
      | none => rfl
      | some q =>
        exfalso
        have hi0 : ∀ i c, cells[i]? = some c → i = 0 := by
          intro i c hi
          false_or_by_contra
          have hlen := he c (List.mem_of_getElem? hi)
          have hi00 : cells[0]? = some (cells[0]'(by have := (List.getElem?_eq_some_iff.1 hi).1; omega)) := List.getElem?_eq_getElem _
          have hl0 := he _ (List.mem_of_getElem? hi00)
          have h := hc _ rfl 0 _ hi00 0 _ (List.getElem?_eq_getElem (by omega))
          have := World.cell?_spot h
          simp [Addr.add] at this
        have := hi0 i c hi
        subst this
        simp [Addr.add] at hs0
    · intro j v hj
      have h' := hc _ rfl i c hi j v hj
      have hsp := World.cell?_spot h'
      rw [← h']
      congr 1
      unfold Addr.add at hsp ⊢
      split
      · rename_i h0
        rw [if_pos h0] at hsp
        simp only at hsp
        rw [hsp]
        have : off + i * es + j = off := by omega
        rw [this]
      · rw [Nat.add_assoc]
theorem slice_nil {w : World} {B : Nat → Prop} {es : Nat} : SliceIs w B (.slice none 0 0) es [] := ⟨none, 0, rfl, by simp, by unfold maxLen; omega, fun _ => rfl, fun i c h => by simp at h⟩
/-- an argument of bytes -/
theorem bytes_in {w : World} {a : Addr} {len cap : Nat} {zs : List Int} (h1 : len ≤ cap) (h2 : cap ≤ maxLen) (h3 : len ≤ zs.length) (hc : ∀ i, i < zs.length → w.cell? (a.add i) = some (.int .u8 (zs.getD i 0)))
    (hw : ∀ n ∈ zs, (Lit.int .u8 n).wf = true) : ∃ b : List UInt8, b.length = len ∧ SliceIs w (fun b => (fun _ => Ow.no : Own) b = .no) (.slice (some a) len cap) 1 (u8c b) := by
  refine ⟨(zs.take len).map (fun n => UInt8.ofNat n.toNat), by simp; omega, cells_open (by simp [u8c]; omega) h1 h2 (by simp) (by omega) ?_ ?_⟩
  · intro c hc; simp only [u8c, List.mem_map] at hc; obtain ⟨_, _, rfl⟩ := hc; rfl
  · intro x hx i c hi j v hj
    cases hx
    simp only [u8c, List.getElem?_map, Option.map_eq_some_iff] at hi
    obtain ⟨u, ⟨n, hn, rfl⟩, rfl⟩ := hi
    have hj0 : j = 0 := by have := (List.getElem?_eq_some_iff.1 hj).1; simpa using this
    subst hj0
    simp at hj
    have hlt : i < zs.length := by have := (List.getElem?_eq_some_iff.1 hn).1; rw [List.length_take] at this; omega
    have hn2 : zs[i] = n := by
      obtain ⟨h5, h6⟩ := List.getElem?_eq_some_iff.1 hn
      rw [← h6]; simp
    have := hc i hlt
    rw [List.getD_eq_getElem?_getD, List.getElem?_eq_getElem hlt, Option.getD_some, hn2] at this
    rw [Nat.mul_one, Nat.add_zero, this, ← hj]
    have hwn := hw n (by rw [← hn2]; exact List.getElem_mem _)
    have hr : 0 ≤ n ∧ n ≤ 255 := by
      simp only [Lit.wf, Bool.and_eq_true, decide_eq_true_eq] at hwn
      exact hwn
    exact congrArg (fun n : Int => some (Value.int .u8 n)) (by omega)
end Go.Abs
