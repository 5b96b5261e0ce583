/-
  Texts that stand side by side: Pp, AbsEnd, AbsEnd2, AbsEnd3, AbsEnd4, AbsEnd5, AbsLaid, Opn, P6, LaidZ.
-/
import Derived.Test.YtbgpojdmdnkeaaaGreatDoorM10
import Derived.Test.YtbgpojdmdnkeaaaGreatDoorW6
import Derived.Test.YtbgpojdmdnkeaaaGreatDoorM0
import Derived.WalkKit
import Derived.ProofKit
import Derived.OpenShut
import Derived.ShutString
import Derived.ChangeOld
import Derived.Below
import Derived.SliceStrings
import Derived.Test.YtbgpojdmdnkeaaaGreatDoorM1
import Derived.ChangeArms
import Derived.Test.YtbgpojdmdnkeaaaGreatDoorM2
import Derived.LaidHandle
import Derived.Deep.DeepHandedRow
import Derived.Test.YtbgpojdmdnkeaaaGreatDoorFe
import Derived.Test.YtbgpojdmdnkeaaaGreatDoorRows
import Derived.Test.YtbgpojdmdnkeaaaGreatDoorChecked
namespace Go.Proofs.YtbgpojdmdnkeaaaGreatDoor
open Go.Abs
set_option linter.unusedSimpArgs false
set_option linter.unusedVariables false
theorem find_same (p : S_api_Playlist) (hl : p.L.length ≤ 1000000) (k : Int) (n : Nat) (hn : p.L.length < n) : ∃ x e, playlist_Find n p k = some (x, e) ∧ ref43_Find n p k = some ⟨x, e⟩ := by
  rcases find_eq p hl k n hn with ⟨a, b⟩ | ⟨i, h, a, b, c⟩
  · rcases rfind_eq p hl k n hn with ⟨a', b'⟩ | ⟨i', h', a', b', c'⟩
    · exact ⟨_, _, a, a'⟩
    · exact absurd b' (b _ (List.getElem_mem h'))
  · rcases rfind_eq p hl k n hn with ⟨a', b'⟩ | ⟨i', h', a', b', c'⟩
    · exact absurd b (b' _ (List.getElem_mem h))
    · have : i = i' := by
        rcases Nat.lt_trichotomy i i' with q | q | q
        · exact absurd b (c' i h q)
        · exact q
        · exact absurd b' (c i' h' q)
      subst this
      exact ⟨_, _, a, a'⟩
def inS (s : S_api_Segment) (t : Int) : Prop := s.Begin ≤ t ∧ t < s.Begin + s.Len
theorem in_eq {s : S_api_Segment} (h : okSeg s) (t : Int) : (playlist_At_1_69 s t = some true ∧ inS s t) ∨ (playlist_At_1_69 s t = some false ∧ ¬ inS s t) := by
  unfold playlist_At_1_69
  rw [end_eq h]
  unfold inS
  by_cases h1 : s.Begin ≤ t
  · by_cases h2 : t < s.Begin + s.Len
    · exact .inl ⟨by simp [h1, h2, obind], h1, h2⟩
    · exact .inr ⟨by simp [h1, h2, obind], fun q => h2 q.2⟩
  · exact .inr ⟨by simp [h1], fun q => h1 q.1⟩
theorem at_idx (l : List S_api_Segment) (hs : Strm l) (hl : l.length ≤ 1000000) (t : Int) (n : Nat) (hn : l.length < n) :
    ∃ r, slices_IndexFunc_weirgate_api_Segment_weirgate_api_Segment_80_v1 n l t = some r ∧ ((r = -1 ∧ ∀ s ∈ l, ¬ inS s t) ∨ ∃ (i : Nat) (h : i < l.length), r = i ∧ inS l[i] t ∧ ∀ j (hj : j < l.length), j < i → ¬ inS l[j] t) := by
  unfold slices_IndexFunc_weirgate_api_Segment_weirgate_api_Segment_80_v1
  obtain ⟨r, e, h⟩ := iter_inv (step := slices_IndexFunc_weirgate_api_Segment_weirgate_api_Segment_80_v1_L1 l t) (fun s => ∃ i : Nat, s = (i : Int) ∧ i ≤ l.length ∧ ∀ j (hj : j < l.length), j < i → ¬ inS l[j] t) (fun s => l.length - s.toNat)
    (fun r => (r = .go () ∧ ∀ s ∈ l, ¬ inS s t) ∨ ∃ (i : Nat) (h : i < l.length), r = .stop (i : Int) ∧ inS l[i] t ∧ ∀ j (hj : j < l.length), j < i → ¬ inS l[j] t) (by
    rintro s ⟨i, rfl, hi, hj⟩
    unfold slices_IndexFunc_weirgate_api_Segment_weirgate_api_Segment_80_v1_L1
    by_cases hlt : i < l.length
    · rw [decide_eq_true (by omega), cond_true, idx_get' hlt]
      rcases in_eq (hs.1 i hlt) t with ⟨e, hk⟩ | ⟨e, hk⟩
      · rw [e]
        exact .inr ⟨_, rfl, .inr ⟨i, hlt, rfl, hk, hj⟩⟩
      · rw [e]
        simp only [obind, Option.bind_some, cond_false]
        rw [w64 (by omega) (by omega)]
        refine .inl ⟨((i + 1 : Nat) : Int), rfl, ⟨i + 1, rfl, by omega, fun j a b => ?_⟩, by simp; omega⟩
        by_cases ej : j = i
        · subst ej; exact hk
        · exact hj j a (by omega)
    · rw [decide_eq_false (by omega), cond_false]
      refine .inr ⟨_, rfl, .inl ⟨rfl, fun s hs => ?_⟩⟩
      obtain ⟨j, a, rfl⟩ := List.getElem_of_mem hs
      exact hj j a (by omega)) n 0 ⟨0, rfl, by omega, fun j a b => by omega⟩ (by simpa using hn)
  rw [e]
  rcases h with ⟨rfl, h⟩ | ⟨i, h1, rfl, h2, h3⟩
  · exact ⟨-1, rfl, .inl ⟨rfl, h⟩⟩
  · exact ⟨_, rfl, .inr ⟨i, h1, rfl, h2, h3⟩⟩
theorem at_eq (p : S_api_Playlist) (hs : Strm p.L) (hl : p.L.length ≤ 1000000) (t : Int) (n : Nat) (hn : p.L.length < n) :
    (playlist_At n p t = some (zeroSeg, 5) ∧ ∀ s ∈ p.L, ¬ inS s t) ∨ ∃ (i : Nat) (h : i < p.L.length), playlist_At n p t = some (p.L[i], 0) ∧ inS p.L[i] t ∧ ∀ j (hj : j < p.L.length), j < i → ¬ inS p.L[j] t := by
  unfold playlist_At playlist_one_v1
  obtain ⟨r, e, h⟩ := at_idx p.L hs hl t n hn
  rw [e]
  rcases h with ⟨rfl, h⟩ | ⟨i, h1, rfl, h2, h3⟩
  · exact .inl ⟨rfl, h⟩
  · refine .inr ⟨i, h1, ?_, h2, h3⟩
    simp only [obind, Option.bind_some]
    rw [decide_eq_true (by omega), cond_true, idx_get' h1]
    rfl
theorem rat_eq (p : S_api_Playlist) (hs : Strm p.L) (hl : p.L.length ≤ 1000000) (t : Int) (n : Nat) (hn : p.L.length < n) :
    (ref43_At n p t = some ⟨zeroSeg, 5⟩ ∧ ∀ s ∈ p.L, ¬ inS s t) ∨ ∃ (i : Nat) (h : i < p.L.length), ref43_At n p t = some ⟨p.L[i], 0⟩ ∧ inS p.L[i] t ∧ ∀ j (hj : j < p.L.length), j < i → ¬ inS p.L[j] t := by
  unfold ref43_At
  obtain ⟨r, e, h⟩ := iter_inv (step := ref43_At_L1 p t) (fun s => ∃ i : Nat, s = (i : Int) ∧ i ≤ p.L.length ∧ ∀ j (hj : j < p.L.length), j < i → ¬ inS p.L[j] t) (fun s => p.L.length - s.toNat)
    (fun r => (r = .go () ∧ ∀ s ∈ p.L, ¬ inS s t) ∨ ∃ (i : Nat) (h : i < p.L.length), r = .stop ⟨p.L[i], 0⟩ ∧ inS p.L[i] t ∧ ∀ j (hj : j < p.L.length), j < i → ¬ inS p.L[j] t) (by
    rintro s ⟨i, rfl, hi, hj⟩
    unfold ref43_At_L1
    by_cases hlt : i < p.L.length
    · have ho := hs.1 i hlt
      unfold okSeg at ho
      rw [decide_eq_true (by omega), cond_true, idx_get' hlt, w64 (x := p.L[i].Begin + p.L[i].Len) (by omega) (by omega)]
      by_cases hk : inS p.L[i] t
      · rw [show (decide (p.L[i].Begin ≤ t) && decide (t < p.L[i].Begin + p.L[i].Len)) = true by simp only [Bool.and_eq_true, decide_eq_true_eq]; exact hk, cond_true, idx_get' hlt]
        exact .inr ⟨_, rfl, .inr ⟨i, hlt, rfl, hk, hj⟩⟩
      · rw [show (decide (p.L[i].Begin ≤ t) && decide (t < p.L[i].Begin + p.L[i].Len)) = false by rw [Bool.eq_false_iff]; intro h; simp only [Bool.and_eq_true, decide_eq_true_eq] at h; exact hk h, cond_false, w64 (by omega) (by omega)]
        refine .inl ⟨((i + 1 : Nat) : Int), rfl, ⟨i + 1, rfl, by omega, fun j a b => ?_⟩, by simp; omega⟩
        by_cases ej : j = i
        · subst ej; exact hk
        · exact hj j a (by omega)
    · rw [decide_eq_false (by omega), cond_false]
      refine .inr ⟨_, rfl, .inl ⟨rfl, fun s hs => ?_⟩⟩
      obtain ⟨j, a, rfl⟩ := List.getElem_of_mem hs
      exact hj j a (by omega)) n 0 ⟨0, rfl, by omega, fun j a b => by omega⟩ (by simpa using hn)
  rw [e]
  rcases h with ⟨rfl, h⟩ | ⟨i, h1, rfl, h2, h3⟩
  · exact .inl ⟨rfl, h⟩
  · exact .inr ⟨i, h1, rfl, h2, h3⟩
theorem at_same (p : S_api_Playlist) (hs : Strm p.L) (hl : p.L.length ≤ 1000000) (t : Int) (n : Nat) (hn : p.L.length < n) : ∃ x e, playlist_At n p t = some (x, e) ∧ ref43_At n p t = some ⟨x, e⟩ := by
  rcases at_eq p hs hl t n hn with ⟨a, b⟩ | ⟨i, h, a, b, c⟩
  · rcases rat_eq p hs hl t n hn with ⟨a', b'⟩ | ⟨i', h', a', b', c'⟩
    · exact ⟨_, _, a, a'⟩
    · exact absurd b' (b _ (List.getElem_mem h'))
  · rcases rat_eq p hs hl t n hn with ⟨a', b'⟩ | ⟨i', h', a', b', c'⟩
    · exact absurd b (b' _ (List.getElem_mem h))
    · have : i = i' := by
        rcases Nat.lt_trichotomy i i' with q | q | q
        · exact absurd b (c' i h q)
        · exact q
        · exact absurd b' (c i' h' q)
      subst this
      exact ⟨_, _, a, a'⟩
theorem edge_all {p : S_api_Playlist} (h : VP p) : ∃ x, playlist_Edge p = some x ∧ ref43_Edge p = some x ∧ (0 < p.L.length → x = edgeP p) := by
  by_cases h0 : 0 < p.L.length
  · exact ⟨_, edge_eq h h0, redge_eq h h0, fun _ => rfl⟩
  · have e : p.L.length = 0 := by omega
    refine ⟨0, ?_, ?_, fun q => absurd q h0⟩
    · unfold playlist_Edge; rw [decide_eq_true (by omega)]; rfl
    · unfold ref43_Edge; rw [decide_eq_true (by omega)]; rfl
open Classical in
theorem push_same (p : S_api_Playlist) (hp : VP p) (s : S_api_Segment) (hs : okSeg s) (w : Int) : ∃ q e, playlist_Push_v1 p s w = some (q, e) ∧ ref43_Push p s w = some ⟨q, e⟩ ∧ q.L.length ≤ 1000 := by
  unfold playlist_Push_v1 ref43_Push ref43_wide
  have hL := hp.2.2.1
  have hf0 := hp.1
  have hf1 := hp.2.1
  by_cases hw : 1 ≤ w ∧ w ≤ 100
  · rw [show (decide (w < 1) || decide (100 < w)) = false by rw [Bool.eq_false_iff]; intro h; simp only [Bool.or_eq_true, decide_eq_true_eq] at h; omega, show (decide (1 ≤ w) && decide (w ≤ 100)) = true by simp only [Bool.and_eq_true, decide_eq_true_eq]; exact hw]
    simp only [obind, Option.bind_some, Bool.not_true, cond_false]
    cases hd : p.Done with
    | true => exact ⟨_, _, rfl, rfl, by simp⟩
    | false =>
      simp only [cond_false]
      rw [next_eq hp, show ref43_Next p = some (p.First + p.L.length) from rnext_at hp]
      obtain ⟨x, e1, e2, e3⟩ := edge_all hp
      rw [e1, e2]
      simp only [Option.bind_some]
      have key : ∀ {R : Type} (k : Bool → Option R), (bindJ (S := Bool)
          (cond (decide (s.Num ≠ p.First + ↑p.L.length)) (some (Lp.go true))
            (bindJ (S := Bool) (cond (decide ((0 : Int) < (p.L.length : Int))) (some (.go (decide (s.Begin ≠ x)))) (some (.go false))) (fun b => some (.go b)))) k) = k (decide (s.Num ≠ p.First + p.L.length ∨ (0 < p.L.length ∧ s.Begin ≠ x))) := by
        intro R k
        by_cases h1 : s.Num ≠ p.First + p.L.length
        · rw [decide_eq_true h1, cond_true, decide_eq_true (.inl h1)]; rfl
        · rw [decide_eq_false h1, cond_false]
          by_cases h2 : 0 < p.L.length
          · rw [decide_eq_true (show (0 : Int) < (p.L.length : Int) by omega), cond_true]
            simp only [bindJ_go, h1, h2, true_and, false_or]
          · rw [decide_eq_false (show ¬ (0 : Int) < (p.L.length : Int) by omega), cond_false]
            simp only [bindJ_go, h1, h2, false_and, or_false, decide_false]
      rw [key, key]
      by_cases hb : s.Num ≠ p.First + p.L.length ∨ (0 < p.L.length ∧ s.Begin ≠ x)
      · rw [decide_eq_true hb]
        exact ⟨_, _, rfl, rfl, by simp⟩
      · rw [decide_eq_false hb, cond_false, cond_false, clone_eq _ (by omega)]
        simp only [Option.bind_some]
        rw [need_pos (by simp; omega), need_pos (by simp; omega), need_pos (by simp; omega)]
        have hn : s.Num = p.First + p.L.length := by
          by_cases q : s.Num = p.First + p.L.length
          · exact q
          · exact absurd (.inl q) hb
        have hlen : (p.L ++ [s]).length ≤ 101 := by simp; omega
        rw [cut_id ⟨p.First, p.L ++ [s], false⟩ w (by omega) (by omega) (by simp only; omega) (by simp only; omega)]
        have hN : Numd ⟨p.First, p.L ++ [s], false⟩ := by
          intro k hk
          simp only at hk ⊢
          by_cases q : k < p.L.length
          · rw [List.getElem_append_left q]; exact num_at hp k q
          · obtain rfl : k = p.L.length := by simp at hk; omega
            simp [hn]
        rw [List.nil_append, rcut_eq ⟨p.First, p.L ++ [s], false⟩ hN w hw.1 (by omega) (by simp only; omega)]
        refine ⟨_, _, rfl, rfl, ?_⟩
        have := cutP_len ⟨p.First, p.L ++ [s], false⟩ w hw.1 hw.2
        unfold cutP at this
        simp only at this ⊢
        omega
  · rw [show (decide (w < 1) || decide (100 < w)) = true by simp only [Bool.or_eq_true, decide_eq_true_eq]; omega, show (decide (1 ≤ w) && decide (w ≤ 100)) = false by rw [Bool.eq_false_iff]; intro h; simp only [Bool.and_eq_true, decide_eq_true_eq] at h; omega]
    exact ⟨_, _, rfl, rfl, by simp⟩
open Classical in
theorem law6_of (p : S_api_Playlist) (s : S_api_Segment) (w t : Int) : ∃ m, law43_PlaylistPushesAsSpecified m p s w t = some true := by
  obtain ⟨n, hsane, hn⟩ : ∃ n, law43_sanity n = some true ∧ 100000 ≤ n := ⟨100000 + 40, sane 100000, by omega⟩
  refine ⟨n, ?_⟩
  unfold law43_PlaylistPushesAsSpecified
  rw [valid_eq p n (by omega), rvalid_eq p n (by omega), hsane]
  by_cases hlen : 101 < (p.L.length : Int)
  · rw [decide_eq_true hlen]; rfl
  · rw [decide_eq_false hlen]
    simp only [cond_false, obind, Option.bind_some, beq_self_eq_true, Bool.not_true]
    by_cases hp : VP p
    · simp only [hp, decide_true, Bool.not_true, cond_false]
      obtain ⟨x, e, f1, f2⟩ := find_same p (by omega) t n (by omega)
      obtain ⟨y, g, a1, a2⟩ := at_same p hp.2.2.2.2 (by omega) t n (by omega)
      obtain ⟨z, b1, b2, _⟩ := edge_all hp
      rw [f1, f2, a1, a2, next_eq hp, show ref43_Next p = some (p.First + p.L.length) from rnext_at hp, b1, b2]
      unfold playlist_End
      rw [clone_eq _ (by omega)]
      simp only [obind, Option.bind_some, ne_eq, not_true_eq_false, decide_false, cond_false, bindJ_go, decide_true, Bool.and_self, Bool.not_true, Bool.or_self]
      rw [same_refl ⟨p.First, p.L, true⟩ (by simp only; omega) n (by simp only; omega)]
      simp only [Option.bind_some, bindJ_go, Bool.not_true, cond_false]
      rw [rright_eq s]
      simp only [Option.bind_some]
      by_cases hs : okSeg s
      · simp only [hs, decide_true, Bool.not_true, cond_false]
        obtain ⟨q, c, h1, h2, h3⟩ := push_same p hp s hs w
        rw [h1, h2]
        simp only [Option.bind_some, decide_true, Bool.and_self, cond_true]
        rw [same_refl q (by omega) n (by omega)]
        rfl
      · simp only [hs, decide_false, Bool.not_false, cond_true]
    · simp only [hp, decide_false, Bool.not_false, cond_true]
end Go.Proofs.YtbgpojdmdnkeaaaGreatDoor
namespace Go.Abs
open Go.Sem Go.ChangeShapes Go.RowKit

/-- a law's contract, as the claim's frame wants it -/
theorem Meets.law {P : Program} {f : FuncId} {args : List Value} {H : List HA} (h : Meets P f args H (fun v G => v = .bool true ∧ G = [])) {w : World} (hs : Sats w (fun _ => .no) H) :
    Calls P f args.toArray w fun e w' => e = .returned (.bool true) ∧ Below w.heap.size w w' := by
  refine (h w (fun _ => .no) (fun _ _ => rfl) hs).mono fun e w' ⟨v, G, o', he, ⟨hv, _⟩, _, ht, _⟩ => ?_
  subst hv
  exact ⟨he, ht.os, ht.tape, ht.output, ht.size, fun k hk => (ht.no k hk rfl).2⟩

theorem cells_open {w : World} {a : Option Addr} {len cap es : Nat} {cells : List (List Value)} (hcl : cells.length = len) (h1 : len ≤ cap) (h2 : cap ≤ maxLen) (h3 : a = none → cap = 0) (hes : 0 < es)
    (he : ∀ c ∈ cells, c.length = es) (hc : ∀ x, a = some x → ∀ i c, cells[i]? = some c → ∀ j v, c[j]? = some v → w.cell? (x.add (i * es + j)) = some v) :
    SliceIs w (fun b => (fun _ => Ow.no : Own) b = .no) (.slice a len cap) es cells := by
  refine ⟨a, cap, by rw [hcl], by omega, h2, h3, ?_⟩
  intro i c hi
  have hlen := he c (List.mem_of_getElem? hi)
  cases a with
  | none =>
    have := (List.getElem?_eq_some_iff.1 hi).1
    have := h3 rfl
    omega
  | some x =>
    have e0 : c[0]? = some (c[0]'(by omega)) := List.getElem?_eq_getElem (by omega)
    have h := hc x rfl i c hi 0 _ e0
    have hs0 := World.cell?_spot h
    have hb : x.block < w.heap.size := by
      unfold World.cell? at h
      have e : (x.add (i * es + 0)).block = x.block := by unfold Addr.add; split <;> rfl
      rw [e] at h
      cases hh : w.heap[x.block]? with
      | none => rw [hh] at h; simp at h
      | some o => exact (Array.getElem?_eq_some_iff.1 hh).1
    obtain ⟨b, off, spot⟩ := x
    refine ⟨hlen, b, off, ?_, hb, rfl, ?_⟩
    · cases spot with
      | none => rfl
      | some q =>
        exfalso
        have hi0 : ∀ i c, cells[i]? = some c → i = 0 := by
          intro i c hi
          false_or_by_contra
          have hlen := he c (List.mem_of_getElem? hi)
          have hi00 : cells[0]? = some (cells[0]'(by have := (List.getElem?_eq_some_iff.1 hi).1; omega)) := List.getElem?_eq_getElem _
          have hl0 := he _ (List.mem_of_getElem? hi00)
          have h := hc _ rfl 0 _ hi00 0 _ (List.getElem?_eq_getElem (by omega))
          have := World.cell?_spot h
          simp [Addr.add] at this
        have := hi0 i c hi
        subst this
        simp [Addr.add] at hs0
    · intro j v hj
      have h' := hc _ rfl i c hi j v hj
      have hsp := World.cell?_spot h'
      rw [← h']
      congr 1
      unfold Addr.add at hsp ⊢
      split
      · rename_i h0
        rw [if_pos h0] at hsp
        simp only at hsp
        rw [hsp]
        have : off + i * es + j = off := by omega
        rw [this]
      · rw [Nat.add_assoc]
theorem slice_nil {w : World} {B : Nat → Prop} {es : Nat} : SliceIs w B (.slice none 0 0) es [] := ⟨none, 0, rfl, by simp, by unfold maxLen; omega, fun _ => rfl, fun i c h => by simp at h⟩
end Go.Abs
namespace Go.Abs
open Go.Sem Go.ChangeShapes Go.RowKit
end Go.Abs
namespace Go.Abs
open Go.Sem Go.ChangeShapes Go.RowKit
section
variable {H : Type} {enc : TypeId × Value → H} {P : Program} {w : World} {base : Nat} {sp : Nat → Bool} {held : Bool}
end
end Go.Abs
namespace Go.Abs
open Go.Sem Go.ChangeShapes Go.RowKit
section
variable {H : Type} {enc : TypeId × Value → H} {P : Program} {w : World} {base : Nat} {sp : Nat → Bool} {held : Bool}
def wfI (k : IntKind) (n : Int) : Prop := (Lit.int k n).wf = true
/-- a type is opened: what is read of it lies in the cells 'F a', and a is well formed -/
def Opens (enc : TypeId × Value → H) (P : Program) (w : World) (base : Nat) (sp : Nat → Bool) (held : Bool) (t : TypeId) {α : Type} (F : α → List Value) (wf : α → Prop) : Prop :=
  ∀ (fuel : Nat) (cs : List Value) (x : DataW H × List MemPlace), DataW.trod enc P w base sp held fuel t cs = some x → ∃ a, cs = F a ∧ wf a
theorem opn_int {t : TypeId} {k : IntKind} (ht : P.underlying t = some (.int k)) : Opens enc P w base sp held t (eInt k) (wfI k) := by
  intro fuel cs x h
  obtain ⟨n, hc, _, hw⟩ := DataW.trod_int ht h
  exact ⟨n, hc, hw⟩
/-- the elements of a slice that is opened -/
theorem opn_slice {t e : TypeId} {es : Nat} {α : Type} {F : α → List Value} {wf : α → Prop} (ht : P.underlying t = some (.slice e)) (hce : P.cellsOf e = es) (hes : 0 < es) (hF : ∀ a, (F a).length = es)
    (ho : Opens enc P w base sp held e F wf) {fuel : Nat} {cs : List Value} {x : DataW H × List MemPlace} (h : DataW.trod enc P w base sp held fuel t cs = some x) :
    ∃ (v : Value) (l : List α), cs = [v] ∧ (∀ a ∈ l, wf a) ∧ SliceIs w (fun b => (fun _ => Ow.no : Own) b = .no) v es (l.map F) ∧
      ((x = (.nil, []) ∧ l = []) ∨ ∃ ys rs ps, x = (.slice ys rs, ps) ∧ ys.length = l.length) := by
  rcases DataW.trod_slice ht h with ⟨rfl, hx⟩ | ⟨a, len, cap, elems, rest, m, _, rfl, rfl, hb, hl, hm, hlen, hel', hsp, hns⟩
  · exact ⟨_, [], rfl, by simp, slice_nil, .inl ⟨hx, rfl⟩⟩
  · have each : ∀ i, i < len → ∃ d : α, wf d ∧ ∀ j v, (F d)[j]? = some v → w.cell? (a.add (i * es + j)) = some v := by
      intro i hi
      have h1 := hel' i hi
      rw [List.getElem?_eq_getElem (by omega), hce, Option.bind_eq_some_iff] at h1
      obtain ⟨cs', hcs, hy⟩ := h1
      obtain ⟨d, rfl, hd⟩ := ho _ _ _ hy
      refine ⟨d, hd, fun j v hj => ?_⟩
      have hjlt : j < es := by have := (List.getElem?_eq_some_iff.1 hj).1; rw [hF] at this; omega
      have := (World.cells?_some hcs).2.2 j hjlt
      rw [hj] at this
      rw [← this]
      congr 1
      unfold Addr.add
      by_cases e1 : i * es = 0
      · rw [if_pos e1]; simp [e1]
      · rw [if_neg e1, if_neg (by omega)]
        by_cases e2 : j = 0
        · simp [e2]
        · rw [if_neg e2]; simp [Nat.add_assoc]
    have hch : ∃ l : List α, l.length = len ∧ ∀ i d, l[i]? = some d → wf d ∧ ∀ j v, (F d)[j]? = some v → w.cell? (a.add (i * es + j)) = some v := by
      clear hel' hlen hsp hns hl h
      induction len with
      | zero => exact ⟨[], rfl, by simp⟩
      | succ k ih =>
        obtain ⟨l, hl1, hl2⟩ := ih (fun i hi => each i (by omega))
        obtain ⟨d, hd1, hd2⟩ := each k (by omega)
        refine ⟨l ++ [d], by simp [hl1], fun i d' hi => ?_⟩
        by_cases hik : i < k
        · rw [List.getElem?_append_left (by omega)] at hi; exact hl2 i d' hi
        · rw [List.getElem?_append_right (by omega)] at hi
          have : i = k := by have := (List.getElem?_eq_some_iff.1 hi).1; simp at this; omega
          subst this
          rw [hl1, Nat.sub_self] at hi
          simp at hi
          subst hi
          exact ⟨hd1, hd2⟩
    obtain ⟨l, hl1, hl2⟩ := hch
    refine ⟨_, l, rfl, ?_, ?_, .inr ⟨_, _, _, rfl, by simp [hlen, hl1]⟩⟩
    · intro d hd
      obtain ⟨i, hi⟩ := List.getElem?_of_mem hd
      exact (hl2 i d hi).1
    · refine cells_open (by rw [List.length_map, hl1]) hl hm (by simp) hes ?_ ?_
      · intro c hc
        obtain ⟨d, hd, rfl⟩ := List.mem_map.1 hc
        exact hF d
      · intro x hx i c hi j v hj
        cases hx
        simp only [List.getElem?_map, Option.map_eq_some_iff] at hi
        obtain ⟨d, hd, rfl⟩ := hi
        exact (hl2 i d hd).2 j v hj
end
end Go.Abs
namespace Go.Abs
open Go.Sem Go.ChangeShapes Go.RowKit
section
variable {H : Type} {enc : TypeId × Value → H} {P : Program} {w : World} {base : Nat} {sp : Nat → Bool} {held : Bool}
theorem opn_bool {t : TypeId} (ht : P.underlying t = some .bool) : Opens enc P w base sp held t eBool (fun _ => True) := by
  intro fuel cs x h
  obtain ⟨b, hc, _⟩ := DataW.trod_bool ht h
  exact ⟨b, hc, trivial⟩
def noO : Own := fun _ => .no
def OpensN (enc : TypeId × Value → H) (P : Program) (w : World) (base : Nat) (sp : Nat → Bool) (held : Bool) (t : TypeId) {α : Type} (C : NC α) (wf : α → Prop) : Prop :=
  ∀ (fuel : Nat) (cs : List Value) (x : DataW H × List MemPlace), DataW.trod enc P w base sp held fuel t cs = some x → ∃ a g, cs = C.F a g ∧ wf a ∧ ∀ k, HsP (C.S a g) w noO k
theorem slice_len {t e : TypeId} (ht : P.underlying t = some (.slice e)) {fuel : Nat} {cs : List Value} {x : DataW H × List MemPlace} (h : DataW.trod enc P w base sp held fuel t cs = some x) {N : Nat}
    (hx : (x = (.nil, []) ∧ N = 0) ∨ ∃ ys rs ps, x = (.slice ys rs, ps) ∧ ys.length = N) : N ≤ maxLen := by
  rcases DataW.trod_slice ht h with ⟨_, h0⟩ | ⟨a, len, cap, elems, rest, m, _, _, h0, _, hl, hm, hlen, _⟩
  · rcases hx with ⟨_, rfl⟩ | ⟨ys, rs, ps, h1, _⟩
    · exact Nat.zero_le _
    · rw [h0] at h1; cases h1
  · rcases hx with ⟨h1, _⟩ | ⟨ys, rs, ps, h1, h2⟩
    · rw [h0] at h1; cases h1
    · rw [h0] at h1; cases h1; rw [List.length_map] at h2; omega
theorem opn_leafL {t e : TypeId} {es : Nat} {α : Type} {F : α → List Value} {wf : α → Prop} (ht : P.underlying t = some (.slice e)) (hce : P.cellsOf e = es) (hes : 0 < es) (hF : ∀ a, (F a).length = es)
    (ho : Opens enc P w base sp held e F wf) {fuel : Nat} {cs : List Value} {x : DataW H × List MemPlace} (h : DataW.trod enc P w base sp held fuel t cs = some x) :
    ∃ (v : Value) (l : List α), cs = [v] ∧ (l.length ≤ maxLen ∧ ∀ a ∈ l, wf a) ∧ ∀ k, (ro v es (l.map F)).p w noO k := by
  obtain ⟨v, l, h1, h2, h3, h4⟩ := opn_slice ht hce hes hF ho h
  refine ⟨v, l, h1, ⟨slice_len ht h ?_, h2⟩, fun _ => h3⟩
  rcases h4 with ⟨h5, rfl⟩ | h5
  · exact .inl ⟨h5, rfl⟩
  · exact .inr h5
end
end Go.Abs
namespace Go.Abs
open Go.Sem Go.ChangeShapes Go.RowKit
theorem laid_at {P : Program} {w : World} {n : String} {d : DataW Unit} : ∀ {l : List (String × DataW Unit)} {ps : List MemPlace}, DataW.LaidVars P w l ps → (n, d) ∈ l →
    ∃ g t cs fuel p, P.globalNamed n = some g ∧ (P.globals[g]?).map (·.type) = some t ∧ w.var? P n = some cs ∧ DataW.trod (fun _ => ()) P w 0 (fun _ => true) false fuel t cs.toList = some (d, p)
  | [], _, _, h => by simp at h
  | (m, e) :: r, ps, ⟨g, t, cs, fuel, p, q, h1, h2, h3, h4, h5, _⟩, h => by
    rcases List.mem_cons.1 h with h | h
    · cases h; exact ⟨g, t, cs, fuel, p, h1, h2, h3, h4⟩
    · exact laid_at h5 h
theorem laid_tab {P : Program} {w : World} {l : List (String × DataW Unit)} {name : String} {k : IntKind} {zs : List Int} {g t e : Nat} {n : Nat} (h : laidMet P l w) (hm : (name, Lib.tabData k zs) ∈ l)
    (hg : P.globalNamed name = some g) (hty : (P.globals[g]?).map (·.type) = some t) (ht : P.underlying t = some (.array n e)) (he : P.underlying e = some (.int k)) (hce : P.cellsOf e = 1) (hct : P.cellsOf t = n) : Lib.TabIs P w name k zs := by
  obtain ⟨ps, hl, _⟩ := h
  obtain ⟨g', t', cs, fuel, p, hg', ht', hvar, hd⟩ := laid_at hl hm
  obtain rfl := Option.some.inj (hg.symm.trans hg')
  obtain rfl := Option.some.inj (hty.symm.trans ht')
  unfold Lib.TabIs
  rw [hvar, ← Lib.cells_of_tab ht he hce hct hd]
theorem laid_iface {P : Program} {w : World} {l : List (String × DataW Unit)} {name s : String} {d : DataW Unit} {g t : Nat} {ms : Array (String × TypeId)} (h : laidMet P l w) (hm : (name, DataW.iface s d) ∈ l)
    (hg : P.globalNamed name = some g) (hty : (P.globals[g]?).map (·.type) = some t) (ht : P.underlying t = some (.interface ms)) : ∃ u v, w.cell? ⟨g, 0, none⟩ = some (.iface u v) := by
  obtain ⟨ps, hl, _⟩ := h
  obtain ⟨g', t', cs, fuel, p, hg', ht', hvar, hd⟩ := laid_at hl hm
  obtain rfl := Option.some.inj (hg.symm.trans hg')
  obtain rfl := Option.some.inj (hty.symm.trans ht')
  have hc : ∃ u v, cs.toList = [.iface u v] := by
    cases fuel with
    | zero => simp [DataW.trod] at hd
    | succ fuel =>
      unfold DataW.trod at hd
      rw [ht] at hd
      split at hd <;> simp_all
  obtain ⟨u, v, hc⟩ := hc
  refine ⟨u, v, ?_⟩
  have := World.var?_cell hg hvar 0
  rw [this, ← Array.getElem?_toList, hc]; rfl
section
variable {H : Type} {enc : TypeId × Value → H} {P : Program} {w : World} {base : Nat} {sp : Nat → Bool} {held : Bool}
theorem opn_arr {t e : TypeId} {n : Nat} {k : IntKind} (ht : P.underlying t = some (.array n e)) (he : P.underlying e = some (.int k)) (hce : P.cellsOf e = 1) (hct : P.cellsOf t = n) {fuel : Nat} {cs : List Value} {x : DataW H × List MemPlace}
    (h : DataW.trod enc P w base sp held fuel t cs = some x) : ∃ l : List Int, l.length = n ∧ cs = l.map (Value.int k) ∧ ∀ a ∈ l, wfI k a := by
  obtain ⟨xs, m, _, _, hl, hx, hf⟩ := DataW.trod_array ht h
  rw [hct] at hl
  have key : ∀ i, i < n → ∃ a, cs[i]? = some (.int k a) ∧ wfI k a := by
    intro i hi
    have h1 := hf i hi
    rw [List.getElem?_eq_getElem (show i < xs.length by omega)] at h1
    obtain ⟨a, hc, _, hw⟩ := DataW.trod_int he h1
    refine ⟨a, ?_, hw⟩
    have := congrArg (·[0]?) hc
    simpa [hce, List.getElem?_take, List.getElem?_drop] using this
  clear hf hx
  have all : ∀ (n : Nat) (cs : List Value), cs.length = n → (∀ i, i < n → ∃ a, cs[i]? = some (.int k a) ∧ wfI k a) → ∃ l : List Int, l.length = n ∧ cs = l.map (Value.int k) ∧ ∀ a ∈ l, wfI k a := by
    intro n
    induction n with
    | zero => intro cs hl _; exact ⟨[], rfl, by simpa using hl, by simp⟩
    | succ n ih =>
      intro cs hl key
      match cs, hl with
      | c :: r, hl =>
        obtain ⟨l, e1, e2, e3⟩ := ih r (by simpa using hl) (fun i hi => by simpa using key (i + 1) (by omega))
        obtain ⟨a, e4, e5⟩ := key 0 (by omega)
        refine ⟨a :: l, by simp [e1], ?_, ?_⟩
        · simp at e4; simp [e4, ← e2]
        · intro b hb
          rcases List.mem_cons.1 hb with rfl | hb
          · exact e5
          · exact e3 b hb
  exact all n cs hl key
end
end Go.Abs
namespace Go.Proofs.YtbgpojdmdnkeaaaGreatDoor
open Go.Abs Go.ChangeShapes Go.RowKit
set_option maxRecDepth 100000
set_option linter.unusedVariables false
def NC_api_Playlist_24 : NC S_api_Playlist where
  G := Value
  es := 3
  F := fun x g => [.int .i64 x.First, g, .bool x.Done]
  S := fun x g => [ro g 20 (x.L.map S_api_Segment.enc)]
  free := by
    intro x g h hh
    simp only [List.mem_cons, List.not_mem_nil, or_false] at hh
    rcases hh with rfl <;> first | exact free_ro | exact free_nro
  ok := by
    intro x g w o k hh
    refine ⟨rfl, ?_⟩
    intro u hu
    simp only [List.mem_cons, List.not_mem_nil, or_false] at hu
    rcases hu with rfl | rfl | rfl <;> first | rfl | exact ro_one (hh _ (.head _)) | exact nro_one (hh _ (.head _))

def S_api_Digest.wf (x : S_api_Digest) : Prop := ∀ a ∈ x.toL, wfI .u8 a
theorem S_api_Digest.opn {H : Type} {enc : TypeId × Value → H} {w : World} {base : Nat} {sp : Nat → Bool} {held : Bool} : Opens enc Tryz.prog w base sp held 55 S_api_Digest.enc S_api_Digest.wf := by
  intro fuel cs x h
  obtain ⟨l, hl, e, hw⟩ := opn_arr Tryz.underlying55 Tryz.underlying5 (by kernel_rfl) (by kernel_rfl) h
  match l, hl with
  | [y0, y1, y2, y3, y4, y5, y6, y7, y8, y9, y10, y11, y12, y13, y14, y15], _ => exact ⟨⟨y0, y1, y2, y3, y4, y5, y6, y7, y8, y9, y10, y11, y12, y13, y14, y15⟩, e, hw⟩
def S_api_Segment.wf (x : S_api_Segment) : Prop := wfI .i64 x.Num ∧ wfI .i64 x.Begin ∧ wfI .i64 x.Len ∧ S_api_Digest.wf x.Body ∧ wfI .i64 x.Size
theorem S_api_Segment.opn {H : Type} {enc : TypeId × Value → H} {w : World} {base : Nat} {sp : Nat → Bool} {held : Bool} : Opens enc Tryz.prog w base sp held 57 S_api_Segment.enc S_api_Segment.wf := by
  intro fuel cs x h
  obtain ⟨xs, n, _, _, hl, hlen, hf⟩ := DataW.trod_struct Tryz.underlying57 h
  have hl' : cs.length = 20 := hl.trans (by kernel_rfl)
  have hx : xs.length = 5 := hlen
  have k3 : Tryz.prog.cellsOf 3 = 1 := by kernel_rfl
  have k55 : Tryz.prog.cellsOf 55 = 16 := by kernel_rfl
  match cs, hl' with
  | [c0, c1, c2, c3, c4, c5, c6, c7, c8, c9, c10, c11, c12, c13, c14, c15, c16, c17, c18, c19], _ =>
    have f0 := hf 0 _ rfl
    rw [List.getElem?_eq_getElem (show 0 < xs.length by omega)] at f0
    obtain ⟨a0, e0, w0⟩ := (opn_int Tryz.underlying3) _ _ _ f0
    simp [k3, eInt, eStr, eBool] at e0
    have f1 := hf 1 _ rfl
    rw [List.getElem?_eq_getElem (show 1 < xs.length by omega)] at f1
    obtain ⟨a1, e1, w1⟩ := (opn_int Tryz.underlying3) _ _ _ f1
    simp [k3, eInt, eStr, eBool] at e1
    have f2 := hf 2 _ rfl
    rw [List.getElem?_eq_getElem (show 2 < xs.length by omega)] at f2
    obtain ⟨a2, e2, w2⟩ := (opn_int Tryz.underlying3) _ _ _ f2
    simp [k3, eInt, eStr, eBool] at e2
    have f3 := hf 3 _ rfl
    rw [List.getElem?_eq_getElem (show 3 < xs.length by omega)] at f3
    obtain ⟨a3, e3, w3⟩ := S_api_Digest.opn _ _ _ f3
    simp [k55, S_api_Digest.enc] at e3
    have f4 := hf 4 _ rfl
    rw [List.getElem?_eq_getElem (show 4 < xs.length by omega)] at f4
    obtain ⟨a4, e4, w4⟩ := (opn_int Tryz.underlying3) _ _ _ f4
    simp [k3, eInt, eStr, eBool] at e4
    exact ⟨⟨a0, a1, a2, a3, a4⟩, by simp [S_api_Segment.enc, e0, e1, e2, e3, e4], w0, w1, w2, w3, w4⟩
def S_api_Playlist.wf (x : S_api_Playlist) : Prop := wfI .i64 x.First ∧ (x.L.length ≤ maxLen ∧ ∀ a ∈ x.L, S_api_Segment.wf a) ∧ True
theorem S_api_Playlist.opnN {H : Type} {enc : TypeId × Value → H} {w : World} {base : Nat} {sp : Nat → Bool} {held : Bool} : OpensN enc Tryz.prog w base sp held 24 NC_api_Playlist_24 S_api_Playlist.wf := by
  intro fuel cs x h
  obtain ⟨xs, n, _, _, hl, hlen, hf⟩ := DataW.trod_struct Tryz.underlying24 h
  have hl' : cs.length = 3 := hl.trans (by kernel_rfl)
  have hx : xs.length = 3 := hlen
  have k3 : Tryz.prog.cellsOf 3 = 1 := by kernel_rfl
  have k4 : Tryz.prog.cellsOf 4 = 1 := by kernel_rfl
  have k22 : Tryz.prog.cellsOf 22 = 1 := by kernel_rfl
  match cs, hl' with
  | [c0, c1, c2], _ =>
    have f0 := hf 0 _ rfl
    rw [List.getElem?_eq_getElem (show 0 < xs.length by omega)] at f0
    obtain ⟨a0, e0, w0⟩ := (opn_int Tryz.underlying3) _ _ _ f0
    simp [k3, eInt, eStr, eBool] at e0
    have f1 := hf 1 _ rfl
    rw [List.getElem?_eq_getElem (show 1 < xs.length by omega)] at f1
    obtain ⟨v1, a1, e1, w1, s1⟩ := opn_leafL (es := 20) (F := S_api_Segment.enc) (wf := S_api_Segment.wf) Tryz.underlying22 (by kernel_rfl) (by decide) (fun a => (S_api_Segment.enc_ok a).1) S_api_Segment.opn f1
    simp [k22, eInt, eStr, eBool] at e1
    have f2 := hf 2 _ rfl
    rw [List.getElem?_eq_getElem (show 2 < xs.length by omega)] at f2
    obtain ⟨a2, e2, w2⟩ := (opn_bool Tryz.underlying4) _ _ _ f2
    simp [k4, eInt, eStr, eBool] at e2
    refine ⟨⟨a0, a1, a2⟩, v1, by simp [NC_api_Playlist_24, e0, e1, e2], ⟨w0, w1, w2⟩, fun k h hh => ?_⟩
    simp only [NC_api_Playlist_24, List.mem_cons, List.not_mem_nil, or_false] at hh
    subst hh; exact s1 k
theorem NC_L_int_43.opn {H : Type} {enc : TypeId × Value → H} {w : World} {base : Nat} {sp : Nat → Bool} {held : Bool} : OpensN enc Tryz.prog w base sp held 43 NC_L_int_43 (fun a => (a.length ≤ maxLen ∧ ∀ c ∈ a, wfI .i64 c)) := by
  intro fuel cs x h
  obtain ⟨v, l, e, hw, hs⟩ := opn_leafL (es := 1) (F := (eInt .i64)) (wf := (fun a => wfI .i64 a)) Tryz.underlying43 (by kernel_rfl) (by decide) (fun a => ((eInt_ok _) a).1) (opn_int Tryz.underlying3) h
  exact ⟨l, v, e, hw, fun k h hh => by simp only [NC_L_int_43, List.mem_cons, List.not_mem_nil, or_false] at hh; subst hh; exact hs k⟩

end Go.Proofs.YtbgpojdmdnkeaaaGreatDoor
namespace Go.Proofs.YtbgpojdmdnkeaaaGreatDoor
open Go.Abs
theorem law6 (p : S_api_Playlist) (s : S_api_Segment) (w t : Int) (_ : S_api_Playlist.wf p) (_ : S_api_Segment.wf s) (_ : wfI .i64 w) (_ : wfI .i64 t) : ∃ m, law43_PlaylistPushesAsSpecified m p s w t = some true := law6_of p s w t
end Go.Proofs.YtbgpojdmdnkeaaaGreatDoor
namespace Go.Proofs.YtbgpojdmdnkeaaaGreatDoor
open Go.Abs
/-- so many blocks has the settled world -/
noncomputable def low : Nat := (World.holding Tryz.prog default ⟨#[], #[], []⟩).heap.size
/-- the settled world with the laid variables -/
noncomputable def laidWorld (os : Os) : World :=
  let w0 := World.holding Tryz.prog os ⟨#[.cells #[.string ⟨#[105, 110, 118, 97, 108, 105, 100, 32, 115, 121, 110, 116, 97, 120]⟩] 156, .cells #[.string ⟨#[118, 97, 108, 117, 101, 32, 111, 117, 116, 32, 111, 102, 32, 114, 97, 110, 103, 101]⟩] 156], #[], []⟩
  { w0 with heap := (((((((w0.heap.modify 3 fun
      | .cells _ t frozen => .cells (([1, 10, 100, 1000, 10000, 100000, 1000000, 10000000, 100000000, 1000000000, 10000000000, 100000000000, 1000000000000, 10000000000000, 100000000000000, 1000000000000000, 10000000000000000, 100000000000000000, 1000000000000000000, 10000000000000000000] : List Int).map (Value.int .u64)).toArray t frozen
      | o => o).modify 4 fun
      | .cells _ t frozen => .cells (Go.Pinned.utf8FirstZ.map fun (n : Nat) => Value.int .u8 (n : Int)).toArray t frozen
      | o => o).modify 5 fun
      | .cells _ t frozen => .cells (([128, 191, 160, 191, 128, 159, 144, 191, 128, 143, 0, 0, 0, 0, 0, 0, 0, 0, 0, 0, 0, 0, 0, 0, 0, 0, 0, 0, 0, 0, 0, 0] : List Int).map (Value.int .u8)).toArray t frozen
      | o => o).modify 6 fun
      | .cells _ t frozen => .cells (([0, 1, 28, 2, 29, 14, 24, 3, 30, 22, 20, 15, 25, 17, 4, 8, 31, 27, 13, 23, 21, 19, 16, 7, 26, 12, 18, 6, 11, 5, 10, 9] : List Int).map (Value.int .u8)).toArray t frozen
      | o => o).modify 7 fun
      | .cells _ t frozen => .cells (([0, 1, 56, 2, 57, 49, 28, 3, 61, 58, 42, 50, 38, 29, 17, 4, 62, 47, 59, 36, 45, 43, 51, 22, 53, 39, 33, 30, 24, 18, 12, 5, 63, 55, 48, 27, 60, 41, 37, 16, 46, 35, 44, 21, 52, 32, 23, 11, 54, 26, 40, 15, 34, 20, 31, 10, 25, 14, 19, 9, 13, 8, 7, 6] : List Int).map (Value.int .u8)).toArray t frozen
      | o => o).modify 1 fun
      | .cells _ t frozen => .cells #[.iface 154 (.pointer (some ⟨low, 0, none⟩))] t frozen
      | o => o).modify 2 fun
      | .cells _ t frozen => .cells #[.iface 154 (.pointer (some ⟨low + 1, 0, none⟩))] t frozen
      | o => o) }
def laidL : List (String × DataW Unit) := [("math/bits.deBruijn32tab", Rows.laid_math_bits_deBruijn32tab), ("math/bits.deBruijn64tab", Rows.laid_math_bits_deBruijn64tab), ("internal/strconv.uint64pow10", Rows.laid_internal_strconv_uint64pow10), ("unicode/utf8.acceptRanges", Rows.laid_unicode_utf8_acceptRanges), ("strconv.ErrRange", Rows.laid_strconv_ErrRange), ("strconv.ErrSyntax", Rows.laid_strconv_ErrSyntax), ("unicode/utf8.first", Rows.laid_unicode_utf8_first)]
theorem laidWorld_met (os : Os) (args : Array Value) : laidMet Tryz.prog laidL ((laidWorld os).forCall (fun _ _ => 0) ⟨#[], args, []⟩).memory :=
  laidMet_of_run' 8 (by kernel_rfl) (by kernel_rfl)
theorem gPow : Tryz.prog.globalNamed "internal/strconv.uint64pow10" = some 3 := by kernel_rfl
theorem globIs {W : World} (h : laidMet Tryz.prog laidL W) (hs : W.ShapedOpen Tryz.prog) : GlobIs Tryz.prog 8 W where
  maxLen := let ⟨m, hm⟩ := Tryz.laysM146.s1_3 W hs; ⟨0, m, gMax, by decide, hm⟩
  errSyntax := let ⟨u, v, hc⟩ := laid_iface (s := "*errors.errorString") (d := .ptr (.agg [.lit (.string [105, 110, 118, 97, 108, 105, 100, 32, 115, 121, 110, 116, 97, 120])])) h (by simp [laidL, Rows.laid_strconv_ErrSyntax]) gSyn (t := 102) (by kernel_rfl) Tryz.underlying102; ⟨1, u, v, gSyn, by decide, hc⟩
  errRange := let ⟨u, v, hc⟩ := laid_iface (s := "*errors.errorString") (d := .ptr (.agg [.lit (.string [118, 97, 108, 117, 101, 32, 111, 117, 116, 32, 111, 102, 32, 114, 97, 110, 103, 101])])) h (by simp [laidL, Rows.laid_strconv_ErrRange]) gRng (t := 102) (by kernel_rfl) Tryz.underlying102; ⟨2, u, v, gRng, by decide, hc⟩
  pow10 := ⟨3, gPow, by decide, laid_tab h (List.mem_cons_of_mem _ (List.mem_cons_of_mem _ (List.mem_cons.2 (.inl (by kernel_rfl))))) gPow (t := 143) (by kernel_rfl) Tryz.underlying143 Tryz.underlying128 (by kernel_rfl) (by kernel_rfl)⟩
theorem laid_size {W : World} (h : laidMet Tryz.prog laidL W) : 8 ≤ W.heap.size := by
  obtain ⟨ps, hl, _⟩ := h
  obtain ⟨g, t, cs, fuel, p, e1, _, e3, _⟩ := laid_at (n := "math/bits.deBruijn64tab") hl (List.mem_cons_of_mem _ (List.mem_cons_self ..))
  have eg : Tryz.prog.globalNamed "math/bits.deBruijn64tab" = some 7 := by kernel_rfl
  obtain rfl := Option.some.inj (eg.symm.trans e1)
  unfold World.var? at e3
  rw [eg] at e3
  simp only [Option.bind_some] at e3
  by_cases h : 7 < W.heap.size
  · omega
  · rw [Array.getElem?_eq_none (by omega)] at e3; simp at e3
theorem globP {W : World} (h : laidMet Tryz.prog laidL W) (hs : W.ShapedOpen Tryz.prog) (k : Nat) : globA.p W noO k := ⟨laid_size h, fun _ _ => rfl, globIs h hs⟩
end Go.Proofs.YtbgpojdmdnkeaaaGreatDoor
