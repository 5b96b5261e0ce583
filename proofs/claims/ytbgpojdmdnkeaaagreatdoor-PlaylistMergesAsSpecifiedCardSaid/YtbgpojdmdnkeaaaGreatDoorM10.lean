/-
  Texts that stand side by side: Pl, W3, Pm, AbsEnd, AbsEnd2, AbsEnd3, AbsEnd4, AbsEnd5, AbsLaid, Opn, P3, LaidZ.
-/
import Derived.Test.YtbgpojdmdnkeaaaGreatDoorM8
import Derived.Test.YtbgpojdmdnkeaaaGreatDoorG3a
import Derived.Test.YtbgpojdmdnkeaaaGreatDoorM0
import Derived.WalkKit
import Derived.ProofKit
import Derived.OpenShut
import Derived.ShutString
import Derived.ChangeOld
import Derived.Below
import Derived.SliceStrings
import Derived.Test.YtbgpojdmdnkeaaaGreatDoorM1
import Derived.ChangeArms
import Derived.Test.YtbgpojdmdnkeaaaGreatDoorM2
import Derived.LaidHandle
import Derived.Deep.DeepHandedRow
import Derived.Test.YtbgpojdmdnkeaaaGreatDoorFe
import Derived.Test.YtbgpojdmdnkeaaaGreatDoorRows
import Derived.Test.YtbgpojdmdnkeaaaGreatDoorChecked
namespace Go.Proofs.YtbgpojdmdnkeaaaGreatDoor
open Go.Abs
set_option linter.unusedSimpArgs false
set_option linter.unusedVariables false
theorem idx_0 {α β : Type} {l : List α} (h : 0 < l.length) (k : α → Option β) : idx l 0 k = k l[0] := idx_get' h k
theorem rright_eq (s : S_api_Segment) : ref43_Right s = some (decide (okSeg s)) := by
  unfold ref43_Right
  congr 1
  rw [Bool.eq_iff_iff]
  simp only [Bool.and_eq_true, decide_eq_true_eq]
  unfold okSeg
  omega
theorem rstream_loop (l : List S_api_Segment) (hl : l.length ≤ 4294967296) (n : Nat) (hn : l.length < n) :
    ∃ r, iter (ref43_Stream_L1 l) n 0 = some r ∧ ((r = .go () ∧ Strm l) ∨ (r = .stop false ∧ ¬ Strm l)) := by
  refine iter_inv (step := ref43_Stream_L1 l) (fun s : Int => ∃ i : Nat, s = i ∧ i ≤ l.length ∧ (∀ j (h : j < l.length), j < i → okSeg l[j]) ∧ ∀ j (h : j + 1 < l.length), j + 1 < i → joins l[j] l[j + 1]) (fun s => l.length - s.toNat) _ ?_ n 0 ⟨0, rfl, Nat.zero_le _, fun j h hj => by omega, fun j h hj => by omega⟩ (by simpa using hn)
  rintro s ⟨i, rfl, hi, hok, hj⟩
  unfold ref43_Stream_L1
  by_cases hlt : i < l.length
  · have e : decide ((i : Int) < (l.length : Int)) = true := by simpa using hlt
    simp only [e, cond_true]
    rw [idx_get' hlt, rright_eq]
    simp only [obind, Option.bind_some]
    by_cases hk : okSeg l[i]
    · simp only [hk, decide_true, Bool.not_true, cond_false]
      by_cases h0 : i = 0
      · subst h0
        left
        refine ⟨((1 : Nat) : Int), by simp [w64], ⟨1, rfl, by omega, fun j h hj' => ?_, fun j h hj' => by omega⟩, by simp; omega⟩
        obtain rfl : j = 0 := by omega
        exact hk
      · have e1 : decide (0 < (i : Int)) = true := by simp; omega
        simp only [e1, cond_true]
        have hp : i - 1 < l.length := by omega
        rw [w64 (x := (i : Int) - 1) (by omega) (by omega), show (i : Int) - 1 = ((i - 1 : Nat) : Int) by omega, idx_get' hp]
        have hkp := hok (i - 1) hp (by omega)
        have hkp' := hkp
        unfold okSeg at hkp'
        rw [w64 (x := l[i - 1].Num + 1) (by omega) (by omega), w64 (x := l[i - 1].Begin + l[i - 1].Len) (by omega) (by omega)]
        simp only [bindJ_go]
        by_cases hjn : joins l[i - 1] l[i]
        · left
          obtain ⟨j1, j2⟩ := hjn
          refine ⟨((i + 1 : Nat) : Int), ?_, ⟨i + 1, rfl, by omega, fun j h hj' => ?_, fun j h hj' => ?_⟩, by simp; omega⟩
          · simp only [j1, j2, ne_eq, not_true_eq_false, decide_false, cond_false, Bool.or_self]
            rw [w64 (x := (i : Int) + 1) (by omega) (by omega)]; rfl
          · by_cases e : j = i
            · subst e; exact hk
            · exact hok j h (by omega)
          · by_cases e : j + 1 = i
            · subst e; exact ⟨j1, j2⟩
            · exact hj j h (by omega)
        · right
          refine ⟨.stop false, ?_, .inr ⟨rfl, fun hS => hjn ?_⟩⟩
          · have : (decide (l[i].Num ≠ l[i - 1].Num + 1) || decide (l[i].Begin ≠ l[i - 1].Begin + l[i - 1].Len)) = true := by
              simp only [Bool.or_eq_true, decide_eq_true_eq]
              by_cases h1 : l[i].Num = l[i - 1].Num + 1
              · exact .inr fun h2 => hjn ⟨h1, h2⟩
              · exact .inl h1
            rw [this, cond_true]
          · have := hS.2 (i - 1) (by omega)
            simpa [show i - 1 + 1 = i by omega] using this
    · right
      refine ⟨.stop false, by simp [hk], .inr ⟨rfl, fun hS => hk (hS.1 i hlt)⟩⟩
  · have e : decide ((i : Int) < (l.length : Int)) = false := by simp; omega
    right
    exact ⟨.go (), by simp only [e, cond_false], .inl ⟨rfl, fun j h => hok j h (by omega), fun j h => hj j h (by omega)⟩⟩
open Classical in
theorem rstream_eq (l : List S_api_Segment) (hl : l.length ≤ 4294967296) (n : Nat) (hn : l.length < n) : ref43_Stream n l = some (decide (Strm l ∧ l.length ≤ 1000)) := by
  unfold ref43_Stream
  obtain ⟨r, e, h⟩ := rstream_loop l hl n hn
  rw [e]
  rcases h with ⟨rfl, h⟩ | ⟨rfl, h⟩
  · have e1 : ((l.length : Int) ≤ 1000) ↔ (Strm l ∧ l.length ≤ 1000) := ⟨fun q => ⟨h, by omega⟩, fun q => by have := q.2; omega⟩
    simp only [bindJ_go, e1]
  · have e1 : ¬ (Strm l ∧ l.length ≤ 1000) := fun q => h q.1
    simp only [bindJ_stop, e1, decide_false]
open Classical in
theorem rvalid_eq (p : S_api_Playlist) (n : Nat) (hn : 101 < n) : ref43_Valid n p = some (decide (VP p)) := by
  unfold ref43_Valid
  by_cases h1 : 0 ≤ p.First ∧ p.First ≤ 1099511627776 ∧ p.L.length ≤ 100
  · obtain ⟨a1, a2, a3⟩ := h1
    have e : ((decide (p.First < 0) || decide (1099511627776 < p.First)) || decide (100 < (p.L.length : Int))) = false := by rw [Bool.eq_false_iff]; intro h; simp only [Bool.or_eq_true, decide_eq_true_eq] at h; omega
    rw [e]
    simp only [cond_false]
    have hS : (Strm p.L ∧ p.L.length ≤ 1000) ↔ Strm p.L := ⟨fun q => q.1, fun q => ⟨q, by omega⟩⟩
    by_cases h0 : p.L.length = 0
    · rw [decide_eq_false (show ¬ (0 : Int) < (p.L.length : Int) by omega)]
      have hV : VP p ↔ Strm p.L := ⟨fun h => h.2.2.2.2, fun h => ⟨a1, a2, a3, fun h' => absurd h' (by omega), h⟩⟩
      simp only [cond_false, bindJ_go]
      rw [rstream_eq p.L (by omega) n (by omega)]
      simp only [obind, Option.bind_some, hS, hV]
    · have hp : 0 < p.L.length := by omega
      rw [decide_eq_true (show (0 : Int) < (p.L.length : Int) by omega)]
      simp only [cond_true]
      rw [show (0 : Int) = ((0 : Nat) : Int) from rfl, idx_get' hp]
      by_cases hf : p.L[0].Num = p.First
      · have hV : VP p ↔ Strm p.L := ⟨fun h => h.2.2.2.2, fun h => ⟨a1, a2, a3, fun h' => hf, h⟩⟩
        simp only [hf, ne_eq, not_true_eq_false, decide_false, bindJ_go, cond_false]
        rw [rstream_eq p.L (by omega) n (by omega)]
        simp only [obind, Option.bind_some, hS, hV]
      · have hV : ¬ VP p := fun h => hf (h.2.2.2.1 hp)
        simp only [ne_eq, hf, not_false_eq_true, decide_true, bindJ_go, cond_true, hV, decide_false]
  · have e : ((decide (p.First < 0) || decide (1099511627776 < p.First)) || decide (100 < (p.L.length : Int))) = true := by
      simp only [Bool.or_eq_true, decide_eq_true_eq]; omega
    have hV : ¬ VP p := fun h => h1 ⟨h.1, h.2.1, h.2.2.1⟩
    rw [e]
    simp only [cond_true, bindJ_go, hV, decide_false]
theorem rnext_at {p : S_api_Playlist} (h : VP p) : ref43_Next ⟨p.First, p.L, p.Done⟩ = some (nextP p) := by
  have := h.1; have := h.2.1; have := h.2.2.1
  unfold ref43_Next nextP
  simp only
  rw [w64 (by omega) (by omega)]
theorem redge_eq {p : S_api_Playlist} (h : VP p) (h0 : 0 < p.L.length) : ref43_Edge ⟨p.First, p.L, p.Done⟩ = some (edgeP p) := by
  have hL := h.2.2.1
  have hk := sEnd_bounds h.2.2.2.2 (show p.L.length - 1 < p.L.length by omega)
  unfold ref43_Edge edgeP
  simp only
  rw [decide_eq_false (by omega), cond_false, w64 (by omega) (by omega), show (p.L.length : Int) - 1 = ((p.L.length - 1 : Nat) : Int) by omega, idx_get' (by omega), ← sEnd_at, w64 (by omega) (by omega)]
theorem rfind_eq (p : S_api_Playlist) (hl : p.L.length ≤ 1000000) (k : Int) (n : Nat) (hn : p.L.length < n) :
    (ref43_Find n p k = some ⟨zeroSeg, 5⟩ ∧ ∀ s ∈ p.L, s.Num ≠ k) ∨ ∃ (i : Nat) (h : i < p.L.length), ref43_Find n p k = some ⟨p.L[i], 0⟩ ∧ p.L[i].Num = k ∧ ∀ j (hj : j < p.L.length), j < i → p.L[j].Num ≠ k := by
  unfold ref43_Find
  obtain ⟨r, e, h⟩ := iter_inv (step := ref43_Find_L1 p k) (fun s => ∃ i : Nat, s = (i : Int) ∧ i ≤ p.L.length ∧ ∀ j (hj : j < p.L.length), j < i → p.L[j].Num ≠ k) (fun s => p.L.length - s.toNat)
    (fun r => (r = .go () ∧ ∀ s ∈ p.L, s.Num ≠ k) ∨ ∃ (i : Nat) (h : i < p.L.length), r = .stop ⟨p.L[i], 0⟩ ∧ p.L[i].Num = k ∧ ∀ j (hj : j < p.L.length), j < i → p.L[j].Num ≠ k) (by
    rintro s ⟨i, rfl, hi, hj⟩
    unfold ref43_Find_L1
    by_cases hlt : i < p.L.length
    · rw [decide_eq_true (by omega), cond_true, idx_get' hlt]
      by_cases hk : p.L[i].Num = k
      · rw [decide_eq_true hk]
        exact .inr ⟨_, rfl, .inr ⟨i, hlt, rfl, hk, hj⟩⟩
      · rw [decide_eq_false hk, cond_false, w64 (by omega) (by omega)]
        refine .inl ⟨((i + 1 : Nat) : Int), rfl, ⟨i + 1, rfl, by omega, fun j a b => ?_⟩, by simp; omega⟩
        by_cases ej : j = i
        · subst ej; exact hk
        · exact hj j a (by omega)
    · rw [decide_eq_false (by omega), cond_false]
      refine .inr ⟨_, rfl, .inl ⟨rfl, fun s hs => ?_⟩⟩
      obtain ⟨j, a, rfl⟩ := List.getElem_of_mem hs
      exact hj j a (by omega)) n 0 ⟨0, rfl, by omega, fun j a b => by omega⟩ (by simpa using hn)
  rw [e]
  rcases h with ⟨rfl, h⟩ | ⟨i, h1, rfl, h2, h3⟩
  · exact .inl ⟨rfl, h⟩
  · exact .inr ⟨i, h1, rfl, h2, h3⟩
theorem rfork_loop (e l : S_api_Playlist) (hl : VP l) (he : e.L.length ≤ 1000) (n : Nat) (hn : 1000 < n) :
    (iter (ref43_fork_L1 n e l) n 0 = some (.go ()) ∧ Agree e l) ∨ (iter (ref43_fork_L1 n e l) n 0 = some (.stop true) ∧ ¬ Agree e l) := by
  have hL := hl.2.2.1
  have inj : ∀ i (hi : i < l.L.length) j (hj : j < l.L.length), l.L[i].Num = l.L[j].Num → i = j := by
    intro i hi j hj h
    rw [num_at hl i hi, num_at hl j hj] at h
    omega
  obtain ⟨r, e1, h⟩ := iter_inv (step := ref43_fork_L1 n e l) (fun s => ∃ i : Nat, s = (i : Int) ∧ i ≤ e.L.length ∧ ∀ k (hk : k < e.L.length), k < i → ∀ j (hj : j < l.L.length), e.L[k].Num = l.L[j].Num → l.L[j] = e.L[k]) (fun s => e.L.length - s.toNat)
    (fun r => (r = .go () ∧ Agree e l) ∨ (r = .stop true ∧ ¬ Agree e l)) (by
    rintro s ⟨i, rfl, hi, hj⟩
    unfold ref43_fork_L1
    by_cases hlt : i < e.L.length
    · rw [decide_eq_true (by omega), cond_true, idx_get' hlt]
      have next : (∀ j (hj : j < l.L.length), e.L[i].Num = l.L[j].Num → l.L[j] = e.L[i]) → ∀ k (hk : k < e.L.length), k < i + 1 → ∀ j (hj : j < l.L.length), e.L[k].Num = l.L[j].Num → l.L[j] = e.L[k] := by
        intro hh k hk hki
        by_cases ek : k = i
        · subst ek; exact hh
        · exact hj k hk (by omega)
      rcases rfind_eq l (by omega) e.L[i].Num n (by omega) with ⟨f1, f2⟩ | ⟨j, f1, f2, f3, f4⟩
      · rw [f1]
        simp only [obind, Option.bind_some]
        rw [decide_eq_false (show ¬ (5 : Int) = 0 by decide), Bool.false_and, cond_false, w64 (by omega) (by omega)]
        exact .inl ⟨_, rfl, ⟨i + 1, rfl, by omega, next fun j hj h => absurd h.symm (f2 _ (List.getElem_mem hj))⟩, by simp; omega⟩
      · rw [f2]
        simp only [obind, Option.bind_some, decide_true, Bool.true_and]
        by_cases hs : l.L[j] = e.L[i]
        · rw [(seg_same _ _).2 hs, Bool.not_true, cond_false, w64 (by omega) (by omega)]
          refine .inl ⟨_, rfl, ⟨i + 1, rfl, by omega, next fun q hq h => ?_⟩, by simp; omega⟩
          have : j = q := inj j f1 q hq (f3.trans h)
          subst this
          exact hs
        · rw [Bool.eq_false_iff.2 fun h => hs ((seg_same _ _).1 h), Bool.not_false, cond_true]
          exact .inr ⟨_, rfl, .inr ⟨rfl, fun hA => hs (hA i hlt j f1 f3.symm)⟩⟩
    · rw [decide_eq_false (by omega), cond_false]
      exact .inr ⟨_, rfl, .inl ⟨rfl, fun k hk => hj k hk (by omega)⟩⟩) n 0 ⟨0, rfl, by omega, fun k a b => by omega⟩ (by simp; omega)
  rcases h with ⟨rfl, h⟩ | ⟨rfl, h⟩
  · exact .inl ⟨e1, h⟩
  · exact .inr ⟨e1, h⟩
def ForkP (e l : S_api_Playlist) : Prop := (e.Done = true ∧ nextP e < nextP l) ∨ ¬ Agree e l ∨ (0 < e.L.length ∧ 0 < l.L.length ∧ nextP e = l.First ∧ edgeP e ≠ beginP l)
open Classical in
theorem rfork_eq (e l : S_api_Playlist) (he : VP e) (hl : VP l) (n : Nat) (hn : 1000 < n) : ref43_fork n ⟨e.First, e.L, e.Done⟩ ⟨l.First, l.L, l.Done⟩ = some (decide (ForkP e l)) := by
  have e3 := he.2.2.1; have l3 := hl.2.2.1
  unfold ref43_fork
  rw [rnext_at he, rnext_at hl]
  have hloop : (iter (ref43_fork_L1 n ⟨e.First, e.L, e.Done⟩ ⟨l.First, l.L, l.Done⟩) n 0 = some (.go ()) ∧ Agree e l) ∨ (iter (ref43_fork_L1 n ⟨e.First, e.L, e.Done⟩ ⟨l.First, l.L, l.Done⟩) n 0 = some (.stop true) ∧ ¬ Agree e l) := rfork_loop e l hl (by omega) n hn
  rcases hloop with ⟨h1, h2⟩ | ⟨h1, h2⟩
  · rw [h1]
    simp only [bindJ_go]
    by_cases hd : e.Done = true ∧ nextP e < nextP l
    · have hF : ForkP e l := .inl hd
      rw [hd.1]
      simp only [cond_true, obind, Option.bind_some, bindJ_go, hd.2, decide_true, decide_eq_true hF]
    · have hd' : bindJ (S := Bool) (R := Bool) (cond e.Done (obind (some (nextP e)) fun r43 => obind (some (nextP l)) fun r45 => some (.go (decide (r43 < r45)))) (some (.go false))) = fun k => k false := by
        funext k
        cases hD : e.Done with
        | false => rfl
        | true =>
          have : ¬ nextP e < nextP l := fun h => hd ⟨hD, h⟩
          simp only [cond_true, obind, Option.bind_some, bindJ_go, decide_eq_false this]
      rw [hd']
      simp only [cond_false]
      by_cases hz : 0 < e.L.length ∧ 0 < l.L.length
      · rw [decide_eq_true (show (0 : Int) < (e.L.length : Int) by omega), decide_eq_true (show (0 : Int) < (l.L.length : Int) by omega)]
        simp only [Bool.and_true, cond_true, obind, Option.bind_some, bindJ_go]
        by_cases hn1 : nextP e = l.First
        · rw [decide_eq_true hn1]
          simp only [cond_true]
          rw [show (0 : Int) = ((0 : Nat) : Int) from rfl, idx_get' hz.2, redge_eq he hz.1]
          have hb : l.L[0].Begin = beginP l := by unfold beginP; rw [List.getElem?_eq_getElem hz.2]; rfl
          simp only [Option.bind_some, bindJ_go, hb]
          congr 1
          rw [Bool.eq_iff_iff]
          simp only [decide_eq_true_eq]
          exact ⟨fun h => .inr (.inr ⟨hz.1, hz.2, hn1, h⟩), fun h => h.elim (fun h => absurd h hd) fun h => h.elim (fun h => absurd h2 h) fun h => h.2.2.2⟩
        · rw [decide_eq_false hn1]
          simp only [cond_false, bindJ_go]
          rw [decide_eq_false]
          rintro (h | h | h)
          · exact hd h
          · exact h h2
          · exact hn1 h.2.2.1
      · have : (decide (0 < (e.L.length : Int)) && decide (0 < (l.L.length : Int))) = false := by
          rw [Bool.eq_false_iff]; intro h; simp only [Bool.and_eq_true, decide_eq_true_eq] at h; omega
        rw [this]
        simp only [cond_false, bindJ_go]
        rw [decide_eq_false]
        rintro (h | h | h)
        · exact hd h
        · exact h h2
        · exact hz ⟨h.1, h.2.1⟩
  · have hF : ForkP e l := .inr (.inl h2)
    rw [h1, decide_eq_true hF]
    rfl
/-- the numbers of the segments follow the first one -/
def Numd (p : S_api_Playlist) : Prop := ∀ k (h : k < p.L.length), p.L[k].Num = p.First + k
theorem rcut_eq (p : S_api_Playlist) (hp : Numd p) (w : Int) (hw0 : 1 ≤ w) (hw : w ≤ 1000000) (hl : p.L.length ≤ 1000000) : ref43_cut p w = some (cutP p w) := by
  unfold ref43_cut cutP
  by_cases h : w < (p.L.length : Int)
  · rw [decide_eq_true h, cond_true, w64 (by omega) (by omega), need_pos (by omega), Int.max_eq_right (by omega)]
    have hlt : ((p.L.length : Int) - w).toNat < p.L.length := by omega
    have h0 : 0 < (p.L.drop ((p.L.length : Int) - w).toNat).length := by simp; omega
    rw [show (0 : Int) = ((0 : Nat) : Int) from rfl, idx_get' h0]
    simp only [bindJ_go, List.getElem_drop]
    have := hp (((p.L.length : Int) - w).toNat + 0) (by omega)
    rw [this]
    congr 2
    omega
  · rw [decide_eq_false h, cond_false, Int.max_eq_left (by omega)]
    simp
theorem numd_join {e l : S_api_Playlist} (he : VP e) (hl : VP l) (hm : Meet e l) (done : Bool) : Numd (joinEL e l done) := by
  obtain ⟨m1, m2, m3⟩ := hm
  unfold nextP at m3
  intro k hk
  unfold joinEL at hk ⊢
  simp only [List.length_append, List.length_take] at hk
  simp only
  by_cases h : k < (max 0 (l.First - e.First)).toNat
  · rw [List.getElem_append_left (by simp; omega), List.getElem_take, num_at he k (by omega)]
    omega
  · rw [List.getElem_append_right (by simp; omega)]
    simp only [List.length_take]
    rw [num_at hl _ (by omega)]
    omega
theorem rmerge_loop (e l : S_api_Playlist) (he : VP e) (hm : l.First ≤ nextP e) (n : Nat) (hn : 1000 < n) : iter (ref43_Merge_L1 l.First e.L) n (0, []) = some (.go (e.L.take (max 0 (l.First - e.First)).toNat)) := by
  have e3 := he.2.2.1
  unfold nextP at hm
  obtain ⟨r, h, h2⟩ := iter_inv (step := ref43_Merge_L1 l.First e.L) (fun s => ∃ i : Nat, s = ((i : Int), e.L.take (min i (max 0 (l.First - e.First)).toNat)) ∧ i ≤ e.L.length) (fun s => e.L.length - s.1.toNat) (fun r => r = .go (e.L.take (max 0 (l.First - e.First)).toNat)) (by
    rintro s ⟨i, rfl, hi⟩
    unfold ref43_Merge_L1
    by_cases hlt : i < e.L.length
    · simp only
      rw [decide_eq_true (by omega), cond_true, idx_get' hlt, num_at he i hlt]
      left
      refine ⟨(((i + 1 : Nat) : Int), e.L.take (min (i + 1) (max 0 (l.First - e.First)).toNat)), ?_, ⟨i + 1, rfl, by omega⟩, by simp; omega⟩
      by_cases h : e.First + (i : Int) < l.First
      · rw [decide_eq_true h, cond_true, need_pos (by simp; omega), bindJ_go, w64 (by omega) (by omega), Nat.min_eq_left (by omega), Nat.min_eq_left (by omega), List.take_append_getElem hlt]
        rfl
      · rw [decide_eq_false h, cond_false, bindJ_go, w64 (by omega) (by omega), Nat.min_eq_right (by omega), Nat.min_eq_right (by omega)]
        rfl
    · obtain rfl : i = e.L.length := by omega
      right
      refine ⟨.go (e.L.take (min e.L.length (max 0 (l.First - e.First)).toNat)), by simp only [decide_eq_false (show ¬ ((e.L.length : Int) < (e.L.length : Int)) by omega), cond_false], ?_⟩
      congr 1
      rw [Nat.min_eq_right (by omega)]) n (0, []) ⟨0, by simp, by omega⟩ (by simp; omega)
  rw [h, h2]
open Classical in
theorem rmergeEL_eq (e l : S_api_Playlist) (he : VP e) (hl : VP l) (done : Bool) (w : Int) (hw0 : 1 ≤ w) (hw1 : w ≤ 100) (n : Nat) (hn : 1000 < n) (R : Option S_ref43_Made) (hR : R =
   (obind (ref43_fork n (S_api_Playlist.mk e.First e.L e.Done) (S_api_Playlist.mk l.First l.L l.Done)) fun r30 =>
   cond r30
    (some (S_ref43_Made.mk (S_api_Playlist.mk 0 ([] : List S_api_Segment) false) 430))
    (bindJ (S := (List S_api_Segment))
     (bindJ (S := Bool)
      (cond (decide (0 < (e.L.length : Int)) && decide (0 < (l.L.length : Int)))
       (obind (ref43_Next (S_api_Playlist.mk e.First e.L e.Done)) fun r52 =>
       some (.go (decide (l.First ≤ r52))))
       (some (.go false)))
     (fun b46 =>
      cond b46
       (iter (ref43_Merge_L1 l.First e.L) n (0, ([] : List S_api_Segment)))
       (some (.go ([] : List S_api_Segment)))))
    (fun x_37 =>
     need (x_37.length + l.L.length ≤ 4294967296) (
     bindJ (S := Int)
      (cond (decide (0 < ((x_37 ++ l.L).length : Int)))
       (idx (x_37 ++ l.L) 0 fun x97 =>
       some (.go x97.Num))
       (some (.go l.First)))
     (fun x_91 =>
      obind (ref43_cut (S_api_Playlist.mk x_91 (x_37 ++ l.L) done) w) fun r98 =>
      some (S_ref43_Made.mk r98 0))))))) : R = some ⟨(mergeEL e l done w).1, (mergeEL e l done w).2⟩ := by
  rw [hR]; clear hR R
  have e1 := he.1; have e2 := he.2.1; have e3 := he.2.2.1
  have l1 := hl.1; have l2 := hl.2.1; have l3 := hl.2.2.1
  rw [rfork_eq e l he hl n hn]
  simp only [obind, Option.bind_some]
  unfold mergeEL
  by_cases hF : ForkP e l
  · rw [decide_eq_true hF, cond_true]
    rcases hF with h | h | ⟨h1, h2, h3, h4⟩
    · rw [if_pos h]
    · rw [if_pos h, ite_self]
    · rw [if_pos (show Meet e l from ⟨h1, h2, by omega⟩), if_pos (show nextP e = l.First ∧ edgeP e ≠ beginP l from ⟨h3, h4⟩), ite_self, ite_self]
  · rw [decide_eq_false hF, cond_false, if_neg (fun h => hF (.inl h)), if_neg (fun h => hF (.inr (.inl h)))]
    rw [rnext_at he]
    simp only [Option.bind_some]
    by_cases hm : Meet e l
    · rw [if_pos hm, if_neg (fun h => hF (.inr (.inr ⟨hm.1, hm.2.1, h.1, h.2⟩)))]
      have hm' := hm
      obtain ⟨m1, m2, m3⟩ := hm'
      rw [decide_eq_true (show (0 : Int) < (e.L.length : Int) by omega), decide_eq_true (show (0 : Int) < (l.L.length : Int) by omega)]
      simp only [Bool.and_true, cond_true, bindJ_go, decide_eq_true m3]
      rw [rmerge_loop e l he m3 n hn, bindJ_go, need_pos (by simp; omega), decide_eq_true (show (0 : Int) < ((e.L.take (max 0 (l.First - e.First)).toNat ++ l.L).length : Int) by simp; omega), cond_true]
      have hj := numd_join he hl hm done
      have h0 : 0 < (e.L.take (max 0 (l.First - e.First)).toNat ++ l.L).length := by simp; omega
      rw [idx_0 h0]
      have hz := hj 0 h0
      have hz' : (e.L.take (max 0 (l.First - e.First)).toNat ++ l.L)[0].Num = (joinEL e l done).First := by
        refine Eq.trans hz ?_
        omega
      simp only [bindJ_go]
      rw [hz']
      have := rcut_eq (joinEL e l done) hj w hw0 (by omega) (by unfold joinEL; simp; omega)
      have e0 : (⟨(joinEL e l done).First, e.L.take (max 0 (l.First - e.First)).toNat ++ l.L, done⟩ : S_api_Playlist) = joinEL e l done := rfl
      rw [e0, this]
      rfl
    · rw [if_neg hm]
      have hb : bindJ (S := Bool) (R := Lp (List S_api_Segment) S_ref43_Made) (cond (decide (0 < (e.L.length : Int)) && decide (0 < (l.L.length : Int))) (some (.go (decide (l.First ≤ nextP e)))) (some (.go false))) = fun k => k false := by
        funext k
        by_cases hz : 0 < e.L.length ∧ 0 < l.L.length
        · have h3 : ¬ l.First ≤ nextP e := fun h => hm ⟨hz.1, hz.2, h⟩
          rw [decide_eq_true (show (0 : Int) < (e.L.length : Int) by omega), decide_eq_true (show (0 : Int) < (l.L.length : Int) by omega)]
          simp only [Bool.and_true, cond_true, bindJ_go, decide_eq_false h3]
        · have : (decide (0 < (e.L.length : Int)) && decide (0 < (l.L.length : Int))) = false := by
            rw [Bool.eq_false_iff]; intro h; simp only [Bool.and_eq_true, decide_eq_true_eq] at h; omega
          rw [this]; rfl
      rw [hb]
      simp only [cond_false, bindJ_go, List.nil_append]
      rw [need_pos (by simp; omega)]
      have hfst : bindJ (S := Int) (R := S_ref43_Made) (cond (decide (0 < (l.L.length : Int))) (idx l.L 0 fun x97 => some (.go x97.Num)) (some (.go l.First))) = fun k => k l.First := by
        funext k
        by_cases h0 : 0 < l.L.length
        · rw [decide_eq_true (by omega), cond_true, show (0 : Int) = ((0 : Nat) : Int) from rfl, idx_get' h0, hl.2.2.2.1 h0]; rfl
        · rw [decide_eq_false (by omega)]; rfl
      rw [hfst]
      simp only
      rw [rcut_eq ⟨l.First, l.L, done⟩ (num_at hl) w hw0 (by omega) (by show l.L.length ≤ _; omega)]
      rfl
theorem rmerge_eq (a b : S_api_Playlist) (ha : VP a) (hb : VP b) (w : Int) (n : Nat) (hn : 1000 < n) : ref43_Merge n a b w = some ⟨(mergeP a b w).1, (mergeP a b w).2⟩ := by
  unfold ref43_Merge ref43_wide mergeP
  simp only [obind, Option.bind_some]
  by_cases hw : 1 ≤ w ∧ w ≤ 100
  · have e : (decide (1 ≤ w) && decide (w ≤ 100)) = true := by simp only [Bool.and_eq_true, decide_eq_true_eq]; omega
    rw [e, Bool.not_true, cond_false, if_pos hw]
    rw [show ref43_Next b = some (nextP b) from rnext_at hb, show ref43_Next a = some (nextP a) from rnext_at ha]
    by_cases hlt : nextP a < nextP b
    · rw [if_pos hlt]
      simp only [Option.bind_some, decide_eq_true hlt, cond_true, bindJ_go]
      exact rmergeEL_eq a b ha hb (a.Done || b.Done) w hw.1 hw.2 n hn _ rfl
    · rw [if_neg hlt]
      simp only [Option.bind_some, decide_eq_false hlt, cond_false, bindJ_go]
      exact rmergeEL_eq b a hb ha (a.Done || b.Done) w hw.1 hw.2 n hn _ rfl
  · have e : (decide (1 ≤ w) && decide (w ≤ 100)) = false := by rw [Bool.eq_false_iff]; intro h; simp only [Bool.and_eq_true, decide_eq_true_eq] at h; omega
    rw [e, Bool.not_false, cond_true, if_neg hw]
theorem cutP_len (p : S_api_Playlist) (w : Int) (hw0 : 1 ≤ w) (hw : w ≤ 100) : (cutP p w).L.length ≤ 100 := by
  unfold cutP; simp; omega
theorem mergeP_len (a b : S_api_Playlist) (w : Int) : (mergeP a b w).1.L.length ≤ 100 := by
  unfold mergeP
  split
  · rename_i hw
    have key : ∀ e l d, (mergeEL e l d w).1.L.length ≤ 100 := by
      intro e l d
      unfold mergeEL
      split
      · simp
      · split
        · simp
        · split
          · split
            · simp
            · exact cutP_len _ w hw.1 hw.2
          · exact cutP_len _ w hw.1 hw.2
    split <;> exact key _ _ _
  · simp
end Go.Proofs.YtbgpojdmdnkeaaaGreatDoor
namespace Go.Proofs.YtbgpojdmdnkeaaaGreatDoor
open Go.Abs
set_option linter.unusedVariables false
set_option linter.unusedSimpArgs false
set_option maxRecDepth 20000
set_option maxHeartbeats 4000000

def law43_PlaylistMergesAsSpecified (n : Nat) (a_0 : S_api_Playlist) (b_1 : S_api_Playlist) (window_2 : Int) : Option (Bool) :=
 obind (ref43_Valid n a_0) fun r3 =>
 bindJ (S := Bool)
  (cond (!r3)
   (some (.go true))
   (obind (ref43_Valid n b_1) fun r11 =>
   some (.go (!r11))))
 (fun b5 =>
  cond b5
   (obind (law43_sanity n) fun r14 =>
   some r14)
   (obind (playlist_Merge n a_0 b_1 window_2) fun r16 =>
   obind (ref43_Merge n a_0 b_1 window_2) fun r21 =>
   obind (law43_sanity n) fun r26 =>
   bindJ (S := Bool)
    (cond (r26 && decide (r16.2 = r21.E))
     (obind (ref43_Same n r16.1 r21.P) fun r37 =>
     some (.go r37))
     (some (.go false)))
   (fun b31 =>
    some b31)))
theorem law43_PlaylistMergesAsSpecified_ok (n : Nat) (a_0 : S_api_Playlist) (b_1 : S_api_Playlist) (window_2 : Int) (a_0_Lv : Value) (b_1_Lv : Value) {r : Bool} (h : law43_PlaylistMergesAsSpecified n a_0 b_1 window_2 = some r) :
  Meets Tryz.prog 3 [.agg #[.int .i64 a_0.First, a_0_Lv, .bool a_0.Done], .agg #[.int .i64 b_1.First, b_1_Lv, .bool b_1.Done], .int .i64 window_2] [ro a_0_Lv 20 (a_0.L.map S_api_Segment.enc), ro b_1_Lv 20 (b_1.L.map S_api_Segment.enc), globA] (fun v G => v = .bool r ∧ G = []) := by
 refine fn_of_run Tryz.func3 rfl Tryz.ntmps3 rfl (fun w0 o0 => ?_)
 refine run_seq ?_
 refine run_region' ?_
 refine ot rfl rfl (t_box rfl) ?_
 rintro _ _ ⟨b1, rfl, rfl⟩
 refine ot rfl rfl (t_box rfl) ?_
 rintro _ _ ⟨b2, rfl, rfl⟩
 refine oy rfl rfl (y_assign rfl) ?_
 refine ops_nil ?_
 refine goes_code ?_
 refine run_seq ?_
 refine run_seq ?_
 refine run_region' ?_
 refine oy rfl rfl (y_load_boxagg (c := [.int .i64 a_0.First, a_0_Lv, .bool a_0.Done]) 3 Tryz.isAgg24 Tryz.sizeOf24 rfl rfl rfl) ?_
 obtain ⟨r3, hr4, h⟩ := obind_some h
 refine ot rfl rfl (t_callx (vs := [.agg #[.int .i64 a_0.First, a_0_Lv, .bool a_0.Done]]) (cs := []) [(0, 0)] rfl Tryz.call7 rfl (ref43_Valid_ok n a_0 a_0_Lv hr4) (showsX_view 0 rfl views_ro showsX_nil) rfl (.inl rfl)) ?_
 rintro _ _ ⟨_, ⟨rfl, rfl⟩, rfl⟩
 refine oy rfl rfl (y_not rfl) ?_
 refine oy rfl rfl (y_move rfl) ?_
 obtain ⟨o6, h, ho7⟩ := bindJ_some h
 refine ops_cut 4 (Bool) (fun σ => [(2, .int .i64 window_2), (3, boxP b1 0), (4, boxP b2 0), (17, .bool σ)]) (fun σ => [ro a_0_Lv 20 (a_0.L.map S_api_Segment.enc), ro b_1_Lv 20 (b_1.L.map S_api_Segment.enc), globA, box b1 [.int .i64 a_0.First, a_0_Lv, .bool a_0.Done], box b2 [.int .i64 b_1.First, b_1_Lv, .bool b_1.Done]]) (fun σ => o6 = .go σ) (fun L8 hL9 => ?_) ?_
 ·refine ops_split 13 (!r3) rfl (fun hg10 => ?_) (fun hg10 => ?_)
  ·replace h := cond_t h hg10
   refine ops_no 3 false 13 rfl rfl rfl rfl rfl ?_
   refine ops_no 3 false 13 rfl rfl rfl rfl rfl ?_
   refine ops_no 3 false 13 rfl rfl rfl rfl rfl ?_
   refine oy rfl rfl (y_pick (b := true) rfl rfl) ?_
   refine ops_nil ?_
   obtain rfl := some_eq h
   exact goes_cut hL9 true [0, 1, 2, 3, 4] (qv4 rfl rfl rfl rfl) (by decide) rfl rfl
  ·replace h := cond_f h hg10
   refine ops_y (wg 3 false 13 rfl rfl rfl rfl) rfl (y_load_boxagg (c := [.int .i64 b_1.First, b_1_Lv, .bool b_1.Done]) 4 Tryz.isAgg24 Tryz.sizeOf24 rfl rfl rfl) ?_
   obtain ⟨r11, hr12, h⟩ := obind_some h
   refine ops_t (wg 3 false 13 rfl rfl rfl rfl) rfl (t_callx (vs := [.agg #[.int .i64 b_1.First, b_1_Lv, .bool b_1.Done]]) (cs := []) [(1, 0)] rfl Tryz.call7 rfl (ref43_Valid_ok n b_1 b_1_Lv hr12) (showsX_view 1 rfl views_ro showsX_nil) rfl (.inl rfl)) ?_
   rintro _ _ ⟨_, ⟨rfl, rfl⟩, rfl⟩
   refine ops_y (wg 3 false 13 rfl rfl rfl rfl) rfl (y_not rfl) ?_
   refine oy rfl rfl (y_pick (b := false) rfl rfl) ?_
   refine ops_nil ?_
   obtain rfl := some_eq h
   exact goes_cut hL9 (!r11) [0, 1, 2, 3, 4] (qv4 rfl rfl rfl rfl) (by decide) rfl rfl
 rintro b5 hj
 obtain rfl : o6 = _ := hj
 replace h := after_go ho7
 clear ho7
 refine ops_nil ?_
 refine goes_code ?_
 refine run_cond b5 rfl (fun hc13 => ?_) (fun hc13 => ?_)
 ·replace h := cond_t h hc13
  refine run_seq ?_
  refine run_region' ?_
  obtain ⟨r14, hr15, h⟩ := obind_some h
  refine ot rfl rfl (t_callx (vs := []) (cs := []) [(2, 0)] rfl Tryz.call8 rfl (law43_sanity_ok n   hr15) (showsX_view 2 rfl views_glob showsX_nil) rfl (.inl rfl)) ?_
  rintro _ _ ⟨_, ⟨rfl, rfl⟩, rfl⟩
  refine oy rfl rfl (y_assign rfl) ?_
  refine ops_nil ?_
  refine goes_code ?_
  refine run_ret ?_
  obtain rfl := some_eq h
  refine fin_slots [6] [.bool r14] [] [] Tryz.results3 rfl (by decide) rfl ?_
  exact ⟨rfl, rfl⟩
 ·replace h := cond_f h hc13
  refine run_skip ?_
  refine goes_code ?_
  refine run_seq ?_
  refine run_region' ?_
  refine oy rfl rfl (y_load_boxagg (c := [.int .i64 a_0.First, a_0_Lv, .bool a_0.Done]) 3 Tryz.isAgg24 Tryz.sizeOf24 rfl rfl rfl) ?_
  refine oy rfl rfl (y_load_boxagg (c := [.int .i64 b_1.First, b_1_Lv, .bool b_1.Done]) 4 Tryz.isAgg24 Tryz.sizeOf24 rfl rfl rfl) ?_
  refine oy rfl rfl (y_move rfl) ?_
  obtain ⟨r16, hr17, h⟩ := obind_some h
  refine ot rfl rfl (t_callx (vs := [.agg #[.int .i64 a_0.First, a_0_Lv, .bool a_0.Done], .agg #[.int .i64 b_1.First, b_1_Lv, .bool b_1.Done], .int .i64 window_2]) (cs := []) [(0, 0), (1, 0)] rfl Tryz.call9 rfl (playlist_Merge_ok n a_0 b_1 window_2 a_0_Lv b_1_Lv hr17) (showsX_view 0 rfl views_ro (showsX_view 1 rfl views_ro showsX_nil)) rfl (.inl rfl)) ?_
  rintro _ _ ⟨_, ⟨v18, rfl, rfl⟩, rfl⟩
  refine oy rfl rfl (y_move rfl) ?_
  refine oy rfl rfl (y_extract rfl rfl) ?_
  refine oy rfl rfl (y_extract rfl rfl) ?_
  refine ot rfl rfl (t_alloc Tryz.zeroValue24) ?_
  rintro _ _ ⟨b19, rfl, rfl⟩
  refine ops_slc 5 rfl reads_ro (fun hs20 hs20o => ?_)
  refine ot rfl rfl (t_store 6 Tryz.sizeOf24 rfl rfl rfl rfl (by simp [Value.cells, boxP]) (allL_cons rfl (allL_cons hs20o (allL_cons rfl (allL_nil))))) ?_
  rintro _ _ ⟨rfl, rfl⟩
  refine ops_turn (retell 6 (g := box b19 [.int .i64 r16.1.First, v18, .bool r16.1.Done]) rfl rfl) ?_
  refine oy rfl rfl (y_assign rfl) ?_
  refine ops_nil ?_
  refine goes_code ?_
  refine run_seq ?_
  refine run_weak [(2, .int .i64 window_2), (3, boxP b1 0), (4, boxP b2 0), (7, boxP b19 0), (8, .int .i64 r16.2)] [0, 1, 2, 3, 4, 5, 6] [ro a_0_Lv 20 (a_0.L.map S_api_Segment.enc), ro b_1_Lv 20 (b_1.L.map S_api_Segment.enc), globA, box b1 [.int .i64 a_0.First, a_0_Lv, .bool a_0.Done], box b2 [.int .i64 b_1.First, b_1_Lv, .bool b_1.Done], ro v18 20 (r16.1.L.map S_api_Segment.enc), box b19 [.int .i64 r16.1.First, v18, .bool r16.1.Done]] (qv5 rfl rfl rfl rfl rfl) (by decide) rfl ?_
  refine run_region' ?_
  refine oy rfl rfl (y_load_boxagg (c := [.int .i64 a_0.First, a_0_Lv, .bool a_0.Done]) 3 Tryz.isAgg24 Tryz.sizeOf24 rfl rfl rfl) ?_
  refine oy rfl rfl (y_load_boxagg (c := [.int .i64 b_1.First, b_1_Lv, .bool b_1.Done]) 4 Tryz.isAgg24 Tryz.sizeOf24 rfl rfl rfl) ?_
  refine oy rfl rfl (y_move rfl) ?_
  obtain ⟨r21, hr22, h⟩ := obind_some h
  refine ot rfl rfl (t_callx (vs := [.agg #[.int .i64 a_0.First, a_0_Lv, .bool a_0.Done], .agg #[.int .i64 b_1.First, b_1_Lv, .bool b_1.Done], .int .i64 window_2]) (cs := []) [(0, 0), (1, 0)] rfl Tryz.call10 rfl (ref43_Merge_ok n a_0 b_1 window_2 a_0_Lv b_1_Lv hr22) (showsX_view 0 rfl views_ro (showsX_view 1 rfl views_ro showsX_nil)) rfl (.inl rfl)) ?_
  rintro _ _ ⟨_, ⟨v23, rfl, rfl⟩, rfl⟩
  refine ot rfl rfl (t_alloc Tryz.zeroValue31) ?_
  rintro _ _ ⟨b24, rfl, rfl⟩
  refine ops_slc 7 rfl reads_ro (fun hs25 hs25o => ?_)
  refine ot rfl rfl (t_store 8 Tryz.sizeOf31 rfl rfl rfl rfl (by simp [Value.cells, boxP]) (allL_cons rfl (allL_cons hs25o (allL_cons rfl (allL_cons rfl (allL_nil)))))) ?_
  rintro _ _ ⟨rfl, rfl⟩
  refine ops_turn (retell 8 (g := box b24 [.int .i64 r21.P.First, v23, .bool r21.P.Done, .int .i64 r21.E]) rfl rfl) ?_
  refine ops_nil ?_
  refine goes_code ?_
  refine run_seq ?_
  refine run_region' ?_
  obtain ⟨r26, hr27, h⟩ := obind_some h
  refine ot rfl rfl (t_callx (vs := []) (cs := []) [(2, 0)] rfl Tryz.call8 rfl (law43_sanity_ok n   hr27) (showsX_view 2 rfl views_glob showsX_nil) rfl (.inl rfl)) ?_
  rintro _ _ ⟨_, ⟨rfl, rfl⟩, rfl⟩
  refine oy rfl rfl (y_move rfl) ?_
  refine ops_cut 5 (Bool) (fun σ => [(7, boxP b19 0), (9, boxP b24 0), (36, .bool σ)]) (fun σ => [globA, ro v18 20 (r16.1.L.map S_api_Segment.enc), box b19 [.int .i64 r16.1.First, v18, .bool r16.1.Done], ro v23 20 (r21.P.L.map S_api_Segment.enc), box b24 [.int .i64 r21.P.First, v23, .bool r21.P.Done, .int .i64 r21.E]]) (fun σ => σ = (r26 && decide (r16.2 = r21.E))) (fun L28 hL29 => ?_) ?_
  ·refine ops_split 31 r26 rfl (fun hg30 => ?_) (fun hg30 => ?_)
   ·skip
    refine ops_y (wg 1 true 31 rfl rfl rfl rfl) rfl (y_move rfl) ?_
    refine ops_y (wg 1 true 31 rfl rfl rfl rfl) rfl (y_fieldAddr_box (sz := 0) Tryz.runUnderlying31 rfl Tryz.sizeOf27 rfl) ?_
    refine ops_y (wg 1 true 31 rfl rfl rfl rfl) rfl (y_load_box 8 Tryz.isAgg27 rfl rfl rfl) ?_
    refine ops_y (wg 1 true 31 rfl rfl rfl rfl) rfl (y_eql rfl rfl) ?_
    refine oy rfl rfl (y_pick (b := true) rfl rfl) ?_
    refine ops_nil ?_
    exact goes_cut hL29 (decide (r16.2 = r21.E)) [2, 5, 6, 7, 8] (qv3 rfl rfl rfl) (by decide) rfl (by rw [hg30]; simp)
   ·skip
    refine ops_no 1 true 31 rfl rfl rfl rfl rfl ?_
    refine ops_no 1 true 31 rfl rfl rfl rfl rfl ?_
    refine ops_no 1 true 31 rfl rfl rfl rfl rfl ?_
    refine ops_no 1 true 31 rfl rfl rfl rfl rfl ?_
    refine oy rfl rfl (y_pick (b := false) rfl rfl) ?_
    refine ops_nil ?_
    exact goes_cut hL29 false [2, 5, 6, 7, 8] (qv3 rfl rfl rfl) (by decide) rfl (by rw [hg30]; simp)
  rintro _ rfl
  refine oy rfl rfl (y_move rfl) ?_
  obtain ⟨o32, h, ho33⟩ := bindJ_some h
  refine ops_cut 5 (Bool) (fun σ => [(42, .bool σ)]) (fun σ => [globA]) (fun σ => o32 = .go σ) (fun L34 hL35 => ?_) ?_
  ·refine ops_split 37 (r26 && decide (r16.2 = r21.E)) rfl (fun hg36 => ?_) (fun hg36 => ?_)
   ·replace h := cond_t h hg36
    refine ops_y (wg 7 true 37 rfl rfl rfl rfl) rfl (y_load_boxagg (c := [.int .i64 r16.1.First, v18, .bool r16.1.Done]) 2 Tryz.isAgg24 Tryz.sizeOf24 rfl rfl rfl) ?_
    refine ops_y (wg 7 true 37 rfl rfl rfl rfl) rfl (y_fieldAddr_box (sz := 2) Tryz.runUnderlying31 rfl Tryz.sizeOf24 rfl) ?_
    refine ops_y (wg 7 true 37 rfl rfl rfl rfl) rfl (y_load_boxagg (c := [.int .i64 r21.P.First, v23, .bool r21.P.Done]) 4 Tryz.isAgg24 Tryz.sizeOf24 rfl rfl rfl) ?_
    obtain ⟨r37, hr38, h⟩ := obind_some h
    refine ops_t (wg 7 true 37 rfl rfl rfl rfl) rfl (t_callx (vs := [.agg #[.int .i64 r16.1.First, v18, .bool r16.1.Done], .agg #[.int .i64 r21.P.First, v23, .bool r21.P.Done]]) (cs := []) [(1, 0), (3, 0)] rfl Tryz.call11 rfl (ref43_Same_ok n r16.1 r21.P v18 v23 hr38) (showsX_view 1 rfl views_ro (showsX_view 3 rfl views_ro showsX_nil)) rfl (.inl rfl)) ?_
    rintro _ _ ⟨_, ⟨rfl, rfl⟩, rfl⟩
    refine oy rfl rfl (y_pick (b := true) rfl rfl) ?_
    refine ops_nil ?_
    obtain rfl := some_eq h
    exact goes_cut hL35 r37 [0] (qv1 rfl) (by decide) rfl rfl
   ·replace h := cond_f h hg36
    refine ops_no 7 true 37 rfl rfl rfl rfl rfl ?_
    refine ops_no 7 true 37 rfl rfl rfl rfl rfl ?_
    refine ops_no 7 true 37 rfl rfl rfl rfl rfl ?_
    refine ops_no 7 true 37 rfl rfl rfl rfl rfl ?_
    refine oy rfl rfl (y_pick (b := false) rfl rfl) ?_
    refine ops_nil ?_
    obtain rfl := some_eq h
    exact goes_cut hL35 false [0] (qv1 rfl) (by decide) rfl rfl
  rintro b31 hj
  obtain rfl : o32 = _ := hj
  replace h := after_go ho33
  clear ho33
  refine oy rfl rfl (y_assign rfl) ?_
  refine ops_nil ?_
  refine goes_code ?_
  refine run_ret ?_
  obtain rfl := some_eq h
  refine fin_slots [6] [.bool b31] [] [] Tryz.results3 rfl (by decide) rfl ?_
  exact ⟨rfl, rfl⟩

end Go.Proofs.YtbgpojdmdnkeaaaGreatDoor
namespace Go.Proofs.YtbgpojdmdnkeaaaGreatDoor
open Go.Abs
set_option linter.unusedSimpArgs false
set_option linter.unusedVariables false
open Classical in
theorem law3_of (a b : S_api_Playlist) (w : Int) : ∃ m, law43_PlaylistMergesAsSpecified m a b w = some true := by
  obtain ⟨n, hsane, hn⟩ : ∃ n, law43_sanity n = some true ∧ 100000 ≤ n := ⟨100000 + 40, sane 100000, by omega⟩
  refine ⟨n, ?_⟩
  unfold law43_PlaylistMergesAsSpecified
  rw [rvalid_eq a n (by omega), rvalid_eq b n (by omega), hsane]
  simp only [obind, Option.bind_some]
  by_cases ha : VP a
  · by_cases hb : VP b
    · simp only [ha, hb, decide_true, Bool.not_true, cond_false, bindJ_go]
      rw [merge_eq a b ha hb w n (by omega), rmerge_eq a b ha hb w n (by omega)]
      have := mergeP_len a b w
      simp only [Option.bind_some, decide_true, Bool.and_true, cond_true]
      rw [same_refl _ (by omega) n (by omega)]
      rfl
    · simp only [ha, hb, decide_true, decide_false, Bool.not_true, Bool.not_false, cond_false, bindJ_go, cond_true]
  · simp only [ha, decide_false, Bool.not_false, bindJ_go, cond_true]
end Go.Proofs.YtbgpojdmdnkeaaaGreatDoor
namespace Go.Abs
open Go.Sem Go.ChangeShapes Go.RowKit

/-- a law's contract, as the claim's frame wants it -/
theorem Meets.law {P : Program} {f : FuncId} {args : List Value} {H : List HA} (h : Meets P f args H (fun v G => v = .bool true ∧ G = [])) {w : World} (hs : Sats w (fun _ => .no) H) :
    Calls P f args.toArray w fun e w' => e = .returned (.bool true) ∧ Below w.heap.size w w' := by
  refine (h w (fun _ => .no) (fun _ _ => rfl) hs).mono fun e w' ⟨v, G, o', he, ⟨hv, _⟩, _, ht, _⟩ => ?_
  subst hv
  exact ⟨he, ht.os, ht.tape, ht.output, ht.size, fun k hk => (ht.no k hk rfl).2⟩

theorem cells_open {w : World} {a : Option Addr} {len cap es : Nat} {cells : List (List Value)} (hcl : cells.length = len) (h1 : len ≤ cap) (h2 : cap ≤ maxLen) (h3 : a = none → cap = 0) (hes : 0 < es)
    (he : ∀ c ∈ cells, c.length = es) (hc : ∀ x, a = some x → ∀ i c, cells[i]? = some c → ∀ j v, c[j]? = some v → w.cell? (x.add (i * es + j)) = some v) :
    SliceIs w (fun b => (fun _ => Ow.no : Own) b = .no) (.slice a len cap) es cells := by
  refine ⟨a, cap, by rw [hcl], by omega, h2, h3, ?_⟩
  intro i c hi
  have hlen := he c (List.mem_of_getElem? hi)
  cases a with
  | none =>
    have := (List.getElem?_eq_some_iff.1 hi).1
    have := h3 rfl
    omega
  | some x =>
    have e0 : c[0]? = some (c[0]'(by omega)) := List.getElem?_eq_getElem (by omega)
    have h := hc x rfl i c hi 0 _ e0
    have hs0 := World.cell?_spot h
    have hb : x.block < w.heap.size := by
      unfold World.cell? at h
      have e : (x.add (i * es + 0)).block = x.block := by unfold Addr.add; split <;> rfl
      rw [e] at h
      cases hh : w.heap[x.block]? with
      | none => rw [hh] at h; simp at h
      | some o => exact (Array.getElem?_eq_some_iff.1 hh).1
    obtain ⟨b, off, spot⟩ := x
    refine ⟨hlen, b, off, ?_, hb, rfl, ?_⟩
    · cases spot with
      | none => rfl
      | some q =>
        exfalso
        have hi0 : ∀ i c, cells[i]? = some c → i = 0 := by
          intro i c hi
          false_or_by_contra
          have hlen := he c (List.mem_of_getElem? hi)
          have hi00 : cells[0]? = some (cells[0]'(by have := (List.getElem?_eq_some_iff.1 hi).1; omega)) := List.getElem?_eq_getElem _
          have hl0 := he _ (List.mem_of_getElem? hi00)
          have h := hc _ rfl 0 _ hi00 0 _ (List.getElem?_eq_getElem (by omega))
          have := World.cell?_spot h
          simp [Addr.add] at this
        have := hi0 i c hi
        subst this
        simp [Addr.add] at hs0
    · intro j v hj
      have h' := hc _ rfl i c hi j v hj
      have hsp := World.cell?_spot h'
      rw [← h']
      congr 1
      unfold Addr.add at hsp ⊢
      split
      · rename_i h0
        rw [if_pos h0] at hsp
        simp only at hsp
        rw [hsp]
        have : off + i * es + j = off := by omega
        rw [this]
      · rw [Nat.add_assoc]
theorem slice_nil {w : World} {B : Nat → Prop} {es : Nat} : SliceIs w B (.slice none 0 0) es [] := ⟨none, 0, rfl, by simp, by unfold maxLen; omega, fun _ => rfl, fun i c h => by simp at h⟩
end Go.Abs
namespace Go.Abs
open Go.Sem Go.ChangeShapes Go.RowKit
end Go.Abs
namespace Go.Abs
open Go.Sem Go.ChangeShapes Go.RowKit
section
variable {H : Type} {enc : TypeId × Value → H} {P : Program} {w : World} {base : Nat} {sp : Nat → Bool} {held : Bool}
end
end Go.Abs
namespace Go.Abs
open Go.Sem Go.ChangeShapes Go.RowKit
section
variable {H : Type} {enc : TypeId × Value → H} {P : Program} {w : World} {base : Nat} {sp : Nat → Bool} {held : Bool}
def wfI (k : IntKind) (n : Int) : Prop := (Lit.int k n).wf = true
/-- a type is opened: what is read of it lies in the cells 'F a', and a is well formed -/
def Opens (enc : TypeId × Value → H) (P : Program) (w : World) (base : Nat) (sp : Nat → Bool) (held : Bool) (t : TypeId) {α : Type} (F : α → List Value) (wf : α → Prop) : Prop :=
  ∀ (fuel : Nat) (cs : List Value) (x : DataW H × List MemPlace), DataW.trod enc P w base sp held fuel t cs = some x → ∃ a, cs = F a ∧ wf a
theorem opn_int {t : TypeId} {k : IntKind} (ht : P.underlying t = some (.int k)) : Opens enc P w base sp held t (eInt k) (wfI k) := by
  intro fuel cs x h
  obtain ⟨n, hc, _, hw⟩ := DataW.trod_int ht h
  exact ⟨n, hc, hw⟩
/-- the elements of a slice that is opened -/
theorem opn_slice {t e : TypeId} {es : Nat} {α : Type} {F : α → List Value} {wf : α → Prop} (ht : P.underlying t = some (.slice e)) (hce : P.cellsOf e = es) (hes : 0 < es) (hF : ∀ a, (F a).length = es)
    (ho : Opens enc P w base sp held e F wf) {fuel : Nat} {cs : List Value} {x : DataW H × List MemPlace} (h : DataW.trod enc P w base sp held fuel t cs = some x) :
    ∃ (v : Value) (l : List α), cs = [v] ∧ (∀ a ∈ l, wf a) ∧ SliceIs w (fun b => (fun _ => Ow.no : Own) b = .no) v es (l.map F) ∧
      ((x = (.nil, []) ∧ l = []) ∨ ∃ ys rs ps, x = (.slice ys rs, ps) ∧ ys.length = l.length) := by
  rcases DataW.trod_slice ht h with ⟨rfl, hx⟩ | ⟨a, len, cap, elems, rest, m, _, rfl, rfl, hb, hl, hm, hlen, hel', hsp, hns⟩
  · exact ⟨_, [], rfl, by simp, slice_nil, .inl ⟨hx, rfl⟩⟩
  · have each : ∀ i, i < len → ∃ d : α, wf d ∧ ∀ j v, (F d)[j]? = some v → w.cell? (a.add (i * es + j)) = some v := by
      intro i hi
      have h1 := hel' i hi
      rw [List.getElem?_eq_getElem (by omega), hce, Option.bind_eq_some_iff] at h1
      obtain ⟨cs', hcs, hy⟩ := h1
      obtain ⟨d, rfl, hd⟩ := ho _ _ _ hy
      refine ⟨d, hd, fun j v hj => ?_⟩
      have hjlt : j < es := by have := (List.getElem?_eq_some_iff.1 hj).1; rw [hF] at this; omega
      have := (World.cells?_some hcs).2.2 j hjlt
      rw [hj] at this
      rw [← this]
      congr 1
      unfold Addr.add
      by_cases e1 : i * es = 0
      · rw [if_pos e1]; simp [e1]
      · rw [if_neg e1, if_neg (by omega)]
        by_cases e2 : j = 0
        · simp [e2]
        · rw [if_neg e2]; simp [Nat.add_assoc]
    have hch : ∃ l : List α, l.length = len ∧ ∀ i d, l[i]? = some d → wf d ∧ ∀ j v, (F d)[j]? = some v → w.cell? (a.add (i * es + j)) = some v := by
      clear hel' hlen hsp hns hl h
      induction len with
      | zero => exact ⟨[], rfl, by simp⟩
      | succ k ih =>
        obtain ⟨l, hl1, hl2⟩ := ih (fun i hi => each i (by omega))
        obtain ⟨d, hd1, hd2⟩ := each k (by omega)
        refine ⟨l ++ [d], by simp [hl1], fun i d' hi => ?_⟩
        by_cases hik : i < k
        · rw [List.getElem?_append_left (by omega)] at hi; exact hl2 i d' hi
        · rw [List.getElem?_append_right (by omega)] at hi
          have : i = k := by have := (List.getElem?_eq_some_iff.1 hi).1; simp at this; omega
          subst this
          rw [hl1, Nat.sub_self] at hi
          simp at hi
          subst hi
          exact ⟨hd1, hd2⟩
    obtain ⟨l, hl1, hl2⟩ := hch
    refine ⟨_, l, rfl, ?_, ?_, .inr ⟨_, _, _, rfl, by simp [hlen, hl1]⟩⟩
    · intro d hd
      obtain ⟨i, hi⟩ := List.getElem?_of_mem hd
      exact (hl2 i d hi).1
    · refine cells_open (by rw [List.length_map, hl1]) hl hm (by simp) hes ?_ ?_
      · intro c hc
        obtain ⟨d, hd, rfl⟩ := List.mem_map.1 hc
        exact hF d
      · intro x hx i c hi j v hj
        cases hx
        simp only [List.getElem?_map, Option.map_eq_some_iff] at hi
        obtain ⟨d, hd, rfl⟩ := hi
        exact (hl2 i d hd).2 j v hj
end
end Go.Abs
namespace Go.Abs
open Go.Sem Go.ChangeShapes Go.RowKit
section
variable {H : Type} {enc : TypeId × Value → H} {P : Program} {w : World} {base : Nat} {sp : Nat → Bool} {held : Bool}
theorem opn_bool {t : TypeId} (ht : P.underlying t = some .bool) : Opens enc P w base sp held t eBool (fun _ => True) := by
  intro fuel cs x h
  obtain ⟨b, hc, _⟩ := DataW.trod_bool ht h
  exact ⟨b, hc, trivial⟩
def noO : Own := fun _ => .no
def OpensN (enc : TypeId × Value → H) (P : Program) (w : World) (base : Nat) (sp : Nat → Bool) (held : Bool) (t : TypeId) {α : Type} (C : NC α) (wf : α → Prop) : Prop :=
  ∀ (fuel : Nat) (cs : List Value) (x : DataW H × List MemPlace), DataW.trod enc P w base sp held fuel t cs = some x → ∃ a g, cs = C.F a g ∧ wf a ∧ ∀ k, HsP (C.S a g) w noO k
theorem slice_len {t e : TypeId} (ht : P.underlying t = some (.slice e)) {fuel : Nat} {cs : List Value} {x : DataW H × List MemPlace} (h : DataW.trod enc P w base sp held fuel t cs = some x) {N : Nat}
    (hx : (x = (.nil, []) ∧ N = 0) ∨ ∃ ys rs ps, x = (.slice ys rs, ps) ∧ ys.length = N) : N ≤ maxLen := by
  rcases DataW.trod_slice ht h with ⟨_, h0⟩ | ⟨a, len, cap, elems, rest, m, _, _, h0, _, hl, hm, hlen, _⟩
  · rcases hx with ⟨_, rfl⟩ | ⟨ys, rs, ps, h1, _⟩
    · exact Nat.zero_le _
    · rw [h0] at h1; cases h1
  · rcases hx with ⟨h1, _⟩ | ⟨ys, rs, ps, h1, h2⟩
    · rw [h0] at h1; cases h1
    · rw [h0] at h1; cases h1; rw [List.length_map] at h2; omega
theorem opn_leafL {t e : TypeId} {es : Nat} {α : Type} {F : α → List Value} {wf : α → Prop} (ht : P.underlying t = some (.slice e)) (hce : P.cellsOf e = es) (hes : 0 < es) (hF : ∀ a, (F a).length = es)
    (ho : Opens enc P w base sp held e F wf) {fuel : Nat} {cs : List Value} {x : DataW H × List MemPlace} (h : DataW.trod enc P w base sp held fuel t cs = some x) :
    ∃ (v : Value) (l : List α), cs = [v] ∧ (l.length ≤ maxLen ∧ ∀ a ∈ l, wf a) ∧ ∀ k, (ro v es (l.map F)).p w noO k := by
  obtain ⟨v, l, h1, h2, h3, h4⟩ := opn_slice ht hce hes hF ho h
  refine ⟨v, l, h1, ⟨slice_len ht h ?_, h2⟩, fun _ => h3⟩
  rcases h4 with ⟨h5, rfl⟩ | h5
  · exact .inl ⟨h5, rfl⟩
  · exact .inr h5
end
end Go.Abs
namespace Go.Abs
open Go.Sem Go.ChangeShapes Go.RowKit
theorem laid_at {P : Program} {w : World} {n : String} {d : DataW Unit} : ∀ {l : List (String × DataW Unit)} {ps : List MemPlace}, DataW.LaidVars P w l ps → (n, d) ∈ l →
    ∃ g t cs fuel p, P.globalNamed n = some g ∧ (P.globals[g]?).map (·.type) = some t ∧ w.var? P n = some cs ∧ DataW.trod (fun _ => ()) P w 0 (fun _ => true) false fuel t cs.toList = some (d, p)
  | [], _, _, h => by simp at h
  | (m, e) :: r, ps, ⟨g, t, cs, fuel, p, q, h1, h2, h3, h4, h5, _⟩, h => by
    rcases List.mem_cons.1 h with h | h
    · cases h; exact ⟨g, t, cs, fuel, p, h1, h2, h3, h4⟩
    · exact laid_at h5 h
theorem laid_tab {P : Program} {w : World} {l : List (String × DataW Unit)} {name : String} {k : IntKind} {zs : List Int} {g t e : Nat} {n : Nat} (h : laidMet P l w) (hm : (name, Lib.tabData k zs) ∈ l)
    (hg : P.globalNamed name = some g) (hty : (P.globals[g]?).map (·.type) = some t) (ht : P.underlying t = some (.array n e)) (he : P.underlying e = some (.int k)) (hce : P.cellsOf e = 1) (hct : P.cellsOf t = n) : Lib.TabIs P w name k zs := by
  obtain ⟨ps, hl, _⟩ := h
  obtain ⟨g', t', cs, fuel, p, hg', ht', hvar, hd⟩ := laid_at hl hm
  obtain rfl := Option.some.inj (hg.symm.trans hg')
  obtain rfl := Option.some.inj (hty.symm.trans ht')
  unfold Lib.TabIs
  rw [hvar, ← Lib.cells_of_tab ht he hce hct hd]
theorem laid_iface {P : Program} {w : World} {l : List (String × DataW Unit)} {name s : String} {d : DataW Unit} {g t : Nat} {ms : Array (String × TypeId)} (h : laidMet P l w) (hm : (name, DataW.iface s d) ∈ l)
    (hg : P.globalNamed name = some g) (hty : (P.globals[g]?).map (·.type) = some t) (ht : P.underlying t = some (.interface ms)) : ∃ u v, w.cell? ⟨g, 0, none⟩ = some (.iface u v) := by
  obtain ⟨ps, hl, _⟩ := h
  obtain ⟨g', t', cs, fuel, p, hg', ht', hvar, hd⟩ := laid_at hl hm
  obtain rfl := Option.some.inj (hg.symm.trans hg')
  obtain rfl := Option.some.inj (hty.symm.trans ht')
  have hc : ∃ u v, cs.toList = [.iface u v] := by
    cases fuel with
    | zero => simp [DataW.trod] at hd
    | succ fuel =>
      unfold DataW.trod at hd
      rw [ht] at hd
      split at hd <;> simp_all
  obtain ⟨u, v, hc⟩ := hc
  refine ⟨u, v, ?_⟩
  have := World.var?_cell hg hvar 0
  rw [this, ← Array.getElem?_toList, hc]; rfl
section
variable {H : Type} {enc : TypeId × Value → H} {P : Program} {w : World} {base : Nat} {sp : Nat → Bool} {held : Bool}
theorem opn_arr {t e : TypeId} {n : Nat} {k : IntKind} (ht : P.underlying t = some (.array n e)) (he : P.underlying e = some (.int k)) (hce : P.cellsOf e = 1) (hct : P.cellsOf t = n) {fuel : Nat} {cs : List Value} {x : DataW H × List MemPlace}
    (h : DataW.trod enc P w base sp held fuel t cs = some x) : ∃ l : List Int, l.length = n ∧ cs = l.map (Value.int k) ∧ ∀ a ∈ l, wfI k a := by
  obtain ⟨xs, m, _, _, hl, hx, hf⟩ := DataW.trod_array ht h
  rw [hct] at hl
  have key : ∀ i, i < n → ∃ a, cs[i]? = some (.int k a) ∧ wfI k a := by
    intro i hi
    have h1 := hf i hi
    rw [List.getElem?_eq_getElem (show i < xs.length by omega)] at h1
    obtain ⟨a, hc, _, hw⟩ := DataW.trod_int he h1
    refine ⟨a, ?_, hw⟩
    have := congrArg (·[0]?) hc
    simpa [hce, List.getElem?_take, List.getElem?_drop] using this
  clear hf hx
  have all : ∀ (n : Nat) (cs : List Value), cs.length = n → (∀ i, i < n → ∃ a, cs[i]? = some (.int k a) ∧ wfI k a) → ∃ l : List Int, l.length = n ∧ cs = l.map (Value.int k) ∧ ∀ a ∈ l, wfI k a := by
    intro n
    induction n with
    | zero => intro cs hl _; exact ⟨[], rfl, by simpa using hl, by simp⟩
    | succ n ih =>
      intro cs hl key
      match cs, hl with
      | c :: r, hl =>
        obtain ⟨l, e1, e2, e3⟩ := ih r (by simpa using hl) (fun i hi => by simpa using key (i + 1) (by omega))
        obtain ⟨a, e4, e5⟩ := key 0 (by omega)
        refine ⟨a :: l, by simp [e1], ?_, ?_⟩
        · simp at e4; simp [e4, ← e2]
        · intro b hb
          rcases List.mem_cons.1 hb with rfl | hb
          · exact e5
          · exact e3 b hb
  exact all n cs hl key
end
end Go.Abs
namespace Go.Proofs.YtbgpojdmdnkeaaaGreatDoor
open Go.Abs Go.ChangeShapes Go.RowKit
set_option maxRecDepth 100000
set_option linter.unusedVariables false
def NC_api_Playlist_24 : NC S_api_Playlist where
  G := Value
  es := 3
  F := fun x g => [.int .i64 x.First, g, .bool x.Done]
  S := fun x g => [ro g 20 (x.L.map S_api_Segment.enc)]
  free := by
    intro x g h hh
    simp only [List.mem_cons, List.not_mem_nil, or_false] at hh
    rcases hh with rfl <;> first | exact free_ro | exact free_nro
  ok := by
    intro x g w o k hh
    refine ⟨rfl, ?_⟩
    intro u hu
    simp only [List.mem_cons, List.not_mem_nil, or_false] at hu
    rcases hu with rfl | rfl | rfl <;> first | rfl | exact ro_one (hh _ (.head _)) | exact nro_one (hh _ (.head _))

def S_api_Digest.wf (x : S_api_Digest) : Prop := ∀ a ∈ x.toL, wfI .u8 a
theorem S_api_Digest.opn {H : Type} {enc : TypeId × Value → H} {w : World} {base : Nat} {sp : Nat → Bool} {held : Bool} : Opens enc Tryz.prog w base sp held 55 S_api_Digest.enc S_api_Digest.wf := by
  intro fuel cs x h
  obtain ⟨l, hl, e, hw⟩ := opn_arr Tryz.underlying55 Tryz.underlying5 (by kernel_rfl) (by kernel_rfl) h
  match l, hl with
  | [y0, y1, y2, y3, y4, y5, y6, y7, y8, y9, y10, y11, y12, y13, y14, y15], _ => exact ⟨⟨y0, y1, y2, y3, y4, y5, y6, y7, y8, y9, y10, y11, y12, y13, y14, y15⟩, e, hw⟩
def S_api_Segment.wf (x : S_api_Segment) : Prop := wfI .i64 x.Num ∧ wfI .i64 x.Begin ∧ wfI .i64 x.Len ∧ S_api_Digest.wf x.Body ∧ wfI .i64 x.Size
theorem S_api_Segment.opn {H : Type} {enc : TypeId × Value → H} {w : World} {base : Nat} {sp : Nat → Bool} {held : Bool} : Opens enc Tryz.prog w base sp held 57 S_api_Segment.enc S_api_Segment.wf := by
  intro fuel cs x h
  obtain ⟨xs, n, _, _, hl, hlen, hf⟩ := DataW.trod_struct Tryz.underlying57 h
  have hl' : cs.length = 20 := hl.trans (by kernel_rfl)
  have hx : xs.length = 5 := hlen
  have k3 : Tryz.prog.cellsOf 3 = 1 := by kernel_rfl
  have k55 : Tryz.prog.cellsOf 55 = 16 := by kernel_rfl
  match cs, hl' with
  | [c0, c1, c2, c3, c4, c5, c6, c7, c8, c9, c10, c11, c12, c13, c14, c15, c16, c17, c18, c19], _ =>
    have f0 := hf 0 _ rfl
    rw [List.getElem?_eq_getElem (show 0 < xs.length by omega)] at f0
    obtain ⟨a0, e0, w0⟩ := (opn_int Tryz.underlying3) _ _ _ f0
    simp [k3, eInt, eStr, eBool] at e0
    have f1 := hf 1 _ rfl
    rw [List.getElem?_eq_getElem (show 1 < xs.length by omega)] at f1
    obtain ⟨a1, e1, w1⟩ := (opn_int Tryz.underlying3) _ _ _ f1
    simp [k3, eInt, eStr, eBool] at e1
    have f2 := hf 2 _ rfl
    rw [List.getElem?_eq_getElem (show 2 < xs.length by omega)] at f2
    obtain ⟨a2, e2, w2⟩ := (opn_int Tryz.underlying3) _ _ _ f2
    simp [k3, eInt, eStr, eBool] at e2
    have f3 := hf 3 _ rfl
    rw [List.getElem?_eq_getElem (show 3 < xs.length by omega)] at f3
    obtain ⟨a3, e3, w3⟩ := S_api_Digest.opn _ _ _ f3
    simp [k55, S_api_Digest.enc] at e3
    have f4 := hf 4 _ rfl
    rw [List.getElem?_eq_getElem (show 4 < xs.length by omega)] at f4
    obtain ⟨a4, e4, w4⟩ := (opn_int Tryz.underlying3) _ _ _ f4
    simp [k3, eInt, eStr, eBool] at e4
    exact ⟨⟨a0, a1, a2, a3, a4⟩, by simp [S_api_Segment.enc, e0, e1, e2, e3, e4], w0, w1, w2, w3, w4⟩
def S_api_Playlist.wf (x : S_api_Playlist) : Prop := wfI .i64 x.First ∧ (x.L.length ≤ maxLen ∧ ∀ a ∈ x.L, S_api_Segment.wf a) ∧ True
theorem S_api_Playlist.opnN {H : Type} {enc : TypeId × Value → H} {w : World} {base : Nat} {sp : Nat → Bool} {held : Bool} : OpensN enc Tryz.prog w base sp held 24 NC_api_Playlist_24 S_api_Playlist.wf := by
  intro fuel cs x h
  obtain ⟨xs, n, _, _, hl, hlen, hf⟩ := DataW.trod_struct Tryz.underlying24 h
  have hl' : cs.length = 3 := hl.trans (by kernel_rfl)
  have hx : xs.length = 3 := hlen
  have k3 : Tryz.prog.cellsOf 3 = 1 := by kernel_rfl
  have k4 : Tryz.prog.cellsOf 4 = 1 := by kernel_rfl
  have k22 : Tryz.prog.cellsOf 22 = 1 := by kernel_rfl
  match cs, hl' with
  | [c0, c1, c2], _ =>
    have f0 := hf 0 _ rfl
    rw [List.getElem?_eq_getElem (show 0 < xs.length by omega)] at f0
    obtain ⟨a0, e0, w0⟩ := (opn_int Tryz.underlying3) _ _ _ f0
    simp [k3, eInt, eStr, eBool] at e0
    have f1 := hf 1 _ rfl
    rw [List.getElem?_eq_getElem (show 1 < xs.length by omega)] at f1
    obtain ⟨v1, a1, e1, w1, s1⟩ := opn_leafL (es := 20) (F := S_api_Segment.enc) (wf := S_api_Segment.wf) Tryz.underlying22 (by kernel_rfl) (by decide) (fun a => (S_api_Segment.enc_ok a).1) S_api_Segment.opn f1
    simp [k22, eInt, eStr, eBool] at e1
    have f2 := hf 2 _ rfl
    rw [List.getElem?_eq_getElem (show 2 < xs.length by omega)] at f2
    obtain ⟨a2, e2, w2⟩ := (opn_bool Tryz.underlying4) _ _ _ f2
    simp [k4, eInt, eStr, eBool] at e2
    refine ⟨⟨a0, a1, a2⟩, v1, by simp [NC_api_Playlist_24, e0, e1, e2], ⟨w0, w1, w2⟩, fun k h hh => ?_⟩
    simp only [NC_api_Playlist_24, List.mem_cons, List.not_mem_nil, or_false] at hh
    subst hh; exact s1 k
theorem NC_L_int_43.opn {H : Type} {enc : TypeId × Value → H} {w : World} {base : Nat} {sp : Nat → Bool} {held : Bool} : OpensN enc Tryz.prog w base sp held 43 NC_L_int_43 (fun a => (a.length ≤ maxLen ∧ ∀ c ∈ a, wfI .i64 c)) := by
  intro fuel cs x h
  obtain ⟨v, l, e, hw, hs⟩ := opn_leafL (es := 1) (F := (eInt .i64)) (wf := (fun a => wfI .i64 a)) Tryz.underlying43 (by kernel_rfl) (by decide) (fun a => ((eInt_ok _) a).1) (opn_int Tryz.underlying3) h
  exact ⟨l, v, e, hw, fun k h hh => by simp only [NC_L_int_43, List.mem_cons, List.not_mem_nil, or_false] at hh; subst hh; exact hs k⟩

end Go.Proofs.YtbgpojdmdnkeaaaGreatDoor
namespace Go.Proofs.YtbgpojdmdnkeaaaGreatDoor
open Go.Abs
theorem law3 (a b : S_api_Playlist) (w : Int) (_ : S_api_Playlist.wf a) (_ : S_api_Playlist.wf b) (_ : wfI .i64 w) : ∃ m, law43_PlaylistMergesAsSpecified m a b w = some true := law3_of a b w
end Go.Proofs.YtbgpojdmdnkeaaaGreatDoor
namespace Go.Proofs.YtbgpojdmdnkeaaaGreatDoor
open Go.Abs
/-- so many blocks has the settled world -/
noncomputable def low : Nat := (World.holding Tryz.prog default ⟨#[], #[], []⟩).heap.size
/-- the settled world with the laid variables -/
noncomputable def laidWorld (os : Os) : World :=
  let w0 := World.holding Tryz.prog os ⟨#[.cells #[.string ⟨#[105, 110, 118, 97, 108, 105, 100, 32, 115, 121, 110, 116, 97, 120]⟩] 156, .cells #[.string ⟨#[118, 97, 108, 117, 101, 32, 111, 117, 116, 32, 111, 102, 32, 114, 97, 110, 103, 101]⟩] 156], #[], []⟩
  { w0 with heap := (((((((w0.heap.modify 3 fun
      | .cells _ t frozen => .cells (([1, 10, 100, 1000, 10000, 100000, 1000000, 10000000, 100000000, 1000000000, 10000000000, 100000000000, 1000000000000, 10000000000000, 100000000000000, 1000000000000000, 10000000000000000, 100000000000000000, 1000000000000000000, 10000000000000000000] : List Int).map (Value.int .u64)).toArray t frozen
      | o => o).modify 4 fun
      | .cells _ t frozen => .cells (Go.Pinned.utf8FirstZ.map fun (n : Nat) => Value.int .u8 (n : Int)).toArray t frozen
      | o => o).modify 5 fun
      | .cells _ t frozen => .cells (([128, 191, 160, 191, 128, 159, 144, 191, 128, 143, 0, 0, 0, 0, 0, 0, 0, 0, 0, 0, 0, 0, 0, 0, 0, 0, 0, 0, 0, 0, 0, 0] : List Int).map (Value.int .u8)).toArray t frozen
      | o => o).modify 6 fun
      | .cells _ t frozen => .cells (([0, 1, 28, 2, 29, 14, 24, 3, 30, 22, 20, 15, 25, 17, 4, 8, 31, 27, 13, 23, 21, 19, 16, 7, 26, 12, 18, 6, 11, 5, 10, 9] : List Int).map (Value.int .u8)).toArray t frozen
      | o => o).modify 7 fun
      | .cells _ t frozen => .cells (([0, 1, 56, 2, 57, 49, 28, 3, 61, 58, 42, 50, 38, 29, 17, 4, 62, 47, 59, 36, 45, 43, 51, 22, 53, 39, 33, 30, 24, 18, 12, 5, 63, 55, 48, 27, 60, 41, 37, 16, 46, 35, 44, 21, 52, 32, 23, 11, 54, 26, 40, 15, 34, 20, 31, 10, 25, 14, 19, 9, 13, 8, 7, 6] : List Int).map (Value.int .u8)).toArray t frozen
      | o => o).modify 1 fun
      | .cells _ t frozen => .cells #[.iface 154 (.pointer (some ⟨low, 0, none⟩))] t frozen
      | o => o).modify 2 fun
      | .cells _ t frozen => .cells #[.iface 154 (.pointer (some ⟨low + 1, 0, none⟩))] t frozen
      | o => o) }
def laidL : List (String × DataW Unit) := [("math/bits.deBruijn32tab", Rows.laid_math_bits_deBruijn32tab), ("math/bits.deBruijn64tab", Rows.laid_math_bits_deBruijn64tab), ("internal/strconv.uint64pow10", Rows.laid_internal_strconv_uint64pow10), ("unicode/utf8.acceptRanges", Rows.laid_unicode_utf8_acceptRanges), ("strconv.ErrRange", Rows.laid_strconv_ErrRange), ("strconv.ErrSyntax", Rows.laid_strconv_ErrSyntax), ("unicode/utf8.first", Rows.laid_unicode_utf8_first)]
theorem laidWorld_met (os : Os) (args : Array Value) : laidMet Tryz.prog laidL ((laidWorld os).forCall (fun _ _ => 0) ⟨#[], args, []⟩).memory :=
  laidMet_of_run' 8 (by kernel_rfl) (by kernel_rfl)
theorem gPow : Tryz.prog.globalNamed "internal/strconv.uint64pow10" = some 3 := by kernel_rfl
theorem globIs {W : World} (h : laidMet Tryz.prog laidL W) (hs : W.ShapedOpen Tryz.prog) : GlobIs Tryz.prog 8 W where
  maxLen := let ⟨m, hm⟩ := Tryz.laysM146.s1_3 W hs; ⟨0, m, gMax, by decide, hm⟩
  errSyntax := let ⟨u, v, hc⟩ := laid_iface (s := "*errors.errorString") (d := .ptr (.agg [.lit (.string [105, 110, 118, 97, 108, 105, 100, 32, 115, 121, 110, 116, 97, 120])])) h (by simp [laidL, Rows.laid_strconv_ErrSyntax]) gSyn (t := 102) (by kernel_rfl) Tryz.underlying102; ⟨1, u, v, gSyn, by decide, hc⟩
  errRange := let ⟨u, v, hc⟩ := laid_iface (s := "*errors.errorString") (d := .ptr (.agg [.lit (.string [118, 97, 108, 117, 101, 32, 111, 117, 116, 32, 111, 102, 32, 114, 97, 110, 103, 101])])) h (by simp [laidL, Rows.laid_strconv_ErrRange]) gRng (t := 102) (by kernel_rfl) Tryz.underlying102; ⟨2, u, v, gRng, by decide, hc⟩
  pow10 := ⟨3, gPow, by decide, laid_tab h (List.mem_cons_of_mem _ (List.mem_cons_of_mem _ (List.mem_cons.2 (.inl (by kernel_rfl))))) gPow (t := 143) (by kernel_rfl) Tryz.underlying143 Tryz.underlying128 (by kernel_rfl) (by kernel_rfl)⟩
theorem laid_size {W : World} (h : laidMet Tryz.prog laidL W) : 8 ≤ W.heap.size := by
  obtain ⟨ps, hl, _⟩ := h
  obtain ⟨g, t, cs, fuel, p, e1, _, e3, _⟩ := laid_at (n := "math/bits.deBruijn64tab") hl (List.mem_cons_of_mem _ (List.mem_cons_self ..))
  have eg : Tryz.prog.globalNamed "math/bits.deBruijn64tab" = some 7 := by kernel_rfl
  obtain rfl := Option.some.inj (eg.symm.trans e1)
  unfold World.var? at e3
  rw [eg] at e3
  simp only [Option.bind_some] at e3
  by_cases h : 7 < W.heap.size
  · omega
  · rw [Array.getElem?_eq_none (by omega)] at e3; simp at e3
theorem globP {W : World} (h : laidMet Tryz.prog laidL W) (hs : W.ShapedOpen Tryz.prog) (k : Nat) : globA.p W noO k := ⟨laid_size h, fun _ _ => rfl, globIs h hs⟩
end Go.Proofs.YtbgpojdmdnkeaaaGreatDoor
