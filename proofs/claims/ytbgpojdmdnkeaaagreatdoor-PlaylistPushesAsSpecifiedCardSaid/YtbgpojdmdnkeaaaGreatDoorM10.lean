/-
  Texts that stand side by side: Pl, G4a, G5a.
-/
import Derived.Test.YtbgpojdmdnkeaaaGreatDoorM8
import Derived.Test.YtbgpojdmdnkeaaaGreatDoorG3a
namespace Go.Proofs.YtbgpojdmdnkeaaaGreatDoor
open Go.Abs
set_option linter.unusedSimpArgs false
set_option linter.unusedVariables false
theorem rright_eq (s : S_api_Segment) : ref43_Right s = some (decide (okSeg s)) := by
  unfold ref43_Right
  congr 1
  rw [Bool.eq_iff_iff]
  simp only [Bool.and_eq_true, decide_eq_true_eq]
  unfold okSeg
  omega
theorem rstream_loop (l : List S_api_Segment) (hl : l.length ≤ 4294967296) (n : Nat) (hn : l.length < n) :
    ∃ r, iter (ref43_Stream_L1 l) n 0 = some r ∧ ((r = .go () ∧ Strm l) ∨ (r = .stop false ∧ ¬ Strm l)) := by
  refine iter_inv (step := ref43_Stream_L1 l) (fun s : Int => ∃ i : Nat, s = i ∧ i ≤ l.length ∧ (∀ j (h : j < l.length), j < i → okSeg l[j]) ∧ ∀ j (h : j + 1 < l.length), j + 1 < i → joins l[j] l[j + 1]) (fun s => l.length - s.toNat) _ ?_ n 0 ⟨0, rfl, Nat.zero_le _, fun j h hj => by omega, fun j h hj => by omega⟩ (by simpa using hn)
  rintro s ⟨i, rfl, hi, hok, hj⟩
  unfold ref43_Stream_L1
  by_cases hlt : i < l.length
  · have e : decide ((i : Int) < (l.length : Int)) = true := by simpa using hlt
    simp only [e, cond_true]
    rw [idx_get' hlt, rright_eq]
    simp only [obind, Option.bind_some]
    by_cases hk : okSeg l[i]
    · simp only [hk, decide_true, Bool.not_true, cond_false]
      by_cases h0 : i = 0
      · subst h0
        left
        refine ⟨((1 : Nat) : Int), by simp [w64], ⟨1, rfl, by omega, fun j h hj' => ?_, fun j h hj' => by omega⟩, by simp; omega⟩
        obtain rfl : j = 0 := by omega
        exact hk
      · have e1 : decide (0 < (i : Int)) = true := by simp; omega
        simp only [e1, cond_true]
        have hp : i - 1 < l.length := by omega
        rw [w64 (x := (i : Int) - 1) (by omega) (by omega), show (i : Int) - 1 = ((i - 1 : Nat) : Int) by omega, idx_get' hp]
        have hkp := hok (i - 1) hp (by omega)
        have hkp' := hkp
        unfold okSeg at hkp'
        rw [w64 (x := l[i - 1].Num + 1) (by omega) (by omega), w64 (x := l[i - 1].Begin + l[i - 1].Len) (by omega) (by omega)]
        simp only [bindJ_go]
        by_cases hjn : joins l[i - 1] l[i]
        · left
          obtain ⟨j1, j2⟩ := hjn
          refine ⟨((i + 1 : Nat) : Int), ?_, ⟨i + 1, rfl, by omega, fun j h hj' => ?_, fun j h hj' => ?_⟩, by simp; omega⟩
          · simp only [j1, j2, ne_eq, not_true_eq_false, decide_false, cond_false, Bool.or_self]
            rw [w64 (x := (i : Int) + 1) (by omega) (by omega)]; rfl
          · by_cases e : j = i
            · subst e; exact hk
            · exact hok j h (by omega)
          · by_cases e : j + 1 = i
            · subst e; exact ⟨j1, j2⟩
            · exact hj j h (by omega)
        · right
          refine ⟨.stop false, ?_, .inr ⟨rfl, fun hS => hjn ?_⟩⟩
          · have : (decide (l[i].Num ≠ l[i - 1].Num + 1) || decide (l[i].Begin ≠ l[i - 1].Begin + l[i - 1].Len)) = true := by
              simp only [Bool.or_eq_true, decide_eq_true_eq]
              by_cases h1 : l[i].Num = l[i - 1].Num + 1
              · exact .inr fun h2 => hjn ⟨h1, h2⟩
              · exact .inl h1
            rw [this, cond_true]
          · have := hS.2 (i - 1) (by omega)
            simpa [show i - 1 + 1 = i by omega] using this
    · right
      refine ⟨.stop false, by simp [hk], .inr ⟨rfl, fun hS => hk (hS.1 i hlt)⟩⟩
  · have e : decide ((i : Int) < (l.length : Int)) = false := by simp; omega
    right
    exact ⟨.go (), by simp only [e, cond_false], .inl ⟨rfl, fun j h => hok j h (by omega), fun j h => hj j h (by omega)⟩⟩
open Classical in
theorem rstream_eq (l : List S_api_Segment) (hl : l.length ≤ 4294967296) (n : Nat) (hn : l.length < n) : ref43_Stream n l = some (decide (Strm l ∧ l.length ≤ 1000)) := by
  unfold ref43_Stream
  obtain ⟨r, e, h⟩ := rstream_loop l hl n hn
  rw [e]
  rcases h with ⟨rfl, h⟩ | ⟨rfl, h⟩
  · have e1 : ((l.length : Int) ≤ 1000) ↔ (Strm l ∧ l.length ≤ 1000) := ⟨fun q => ⟨h, by omega⟩, fun q => by have := q.2; omega⟩
    simp only [bindJ_go, e1]
  · have e1 : ¬ (Strm l ∧ l.length ≤ 1000) := fun q => h q.1
    simp only [bindJ_stop, e1, decide_false]
open Classical in
theorem rvalid_eq (p : S_api_Playlist) (n : Nat) (hn : 101 < n) : ref43_Valid n p = some (decide (VP p)) := by
  unfold ref43_Valid
  by_cases h1 : 0 ≤ p.First ∧ p.First ≤ 1099511627776 ∧ p.L.length ≤ 100
  · obtain ⟨a1, a2, a3⟩ := h1
    have e : ((decide (p.First < 0) || decide (1099511627776 < p.First)) || decide (100 < (p.L.length : Int))) = false := by rw [Bool.eq_false_iff]; intro h; simp only [Bool.or_eq_true, decide_eq_true_eq] at h; omega
    rw [e]
    simp only [cond_false]
    have hS : (Strm p.L ∧ p.L.length ≤ 1000) ↔ Strm p.L := ⟨fun q => q.1, fun q => ⟨q, by omega⟩⟩
    by_cases h0 : p.L.length = 0
    · rw [decide_eq_false (show ¬ (0 : Int) < (p.L.length : Int) by omega)]
      have hV : VP p ↔ Strm p.L := ⟨fun h => h.2.2.2.2, fun h => ⟨a1, a2, a3, fun h' => absurd h' (by omega), h⟩⟩
      simp only [cond_false, bindJ_go]
      rw [rstream_eq p.L (by omega) n (by omega)]
      simp only [obind, Option.bind_some, hS, hV]
    · have hp : 0 < p.L.length := by omega
      rw [decide_eq_true (show (0 : Int) < (p.L.length : Int) by omega)]
      simp only [cond_true]
      rw [show (0 : Int) = ((0 : Nat) : Int) from rfl, idx_get' hp]
      by_cases hf : p.L[0].Num = p.First
      · have hV : VP p ↔ Strm p.L := ⟨fun h => h.2.2.2.2, fun h => ⟨a1, a2, a3, fun h' => hf, h⟩⟩
        simp only [hf, ne_eq, not_true_eq_false, decide_false, bindJ_go, cond_false]
        rw [rstream_eq p.L (by omega) n (by omega)]
        simp only [obind, Option.bind_some, hS, hV]
      · have hV : ¬ VP p := fun h => hf (h.2.2.2.1 hp)
        simp only [ne_eq, hf, not_false_eq_true, decide_true, bindJ_go, cond_true, hV, decide_false]
  · have e : ((decide (p.First < 0) || decide (1099511627776 < p.First)) || decide (100 < (p.L.length : Int))) = true := by
      simp only [Bool.or_eq_true, decide_eq_true_eq]; omega
    have hV : ¬ VP p := fun h => h1 ⟨h.1, h.2.1, h.2.2.1⟩
    rw [e]
    simp only [cond_true, bindJ_go, hV, decide_false]
theorem rnext_at {p : S_api_Playlist} (h : VP p) : ref43_Next ⟨p.First, p.L, p.Done⟩ = some (nextP p) := by
  have := h.1; have := h.2.1; have := h.2.2.1
  unfold ref43_Next nextP
  simp only
  rw [w64 (by omega) (by omega)]
theorem redge_eq {p : S_api_Playlist} (h : VP p) (h0 : 0 < p.L.length) : ref43_Edge ⟨p.First, p.L, p.Done⟩ = some (edgeP p) := by
  have hL := h.2.2.1
  have hk := sEnd_bounds h.2.2.2.2 (show p.L.length - 1 < p.L.length by omega)
  unfold ref43_Edge edgeP
  simp only
  rw [decide_eq_false (by omega), cond_false, w64 (by omega) (by omega), show (p.L.length : Int) - 1 = ((p.L.length - 1 : Nat) : Int) by omega, idx_get' (by omega), ← sEnd_at, w64 (by omega) (by omega)]
theorem rfind_eq (p : S_api_Playlist) (hl : p.L.length ≤ 1000000) (k : Int) (n : Nat) (hn : p.L.length < n) :
    (ref43_Find n p k = some ⟨zeroSeg, 5⟩ ∧ ∀ s ∈ p.L, s.Num ≠ k) ∨ ∃ (i : Nat) (h : i < p.L.length), ref43_Find n p k = some ⟨p.L[i], 0⟩ ∧ p.L[i].Num = k ∧ ∀ j (hj : j < p.L.length), j < i → p.L[j].Num ≠ k := by
  unfold ref43_Find
  obtain ⟨r, e, h⟩ := iter_inv (step := ref43_Find_L1 p k) (fun s => ∃ i : Nat, s = (i : Int) ∧ i ≤ p.L.length ∧ ∀ j (hj : j < p.L.length), j < i → p.L[j].Num ≠ k) (fun s => p.L.length - s.toNat)
    (fun r => (r = .go () ∧ ∀ s ∈ p.L, s.Num ≠ k) ∨ ∃ (i : Nat) (h : i < p.L.length), r = .stop ⟨p.L[i], 0⟩ ∧ p.L[i].Num = k ∧ ∀ j (hj : j < p.L.length), j < i → p.L[j].Num ≠ k) (by
    rintro s ⟨i, rfl, hi, hj⟩
    unfold ref43_Find_L1
    by_cases hlt : i < p.L.length
    · rw [decide_eq_true (by omega), cond_true, idx_get' hlt]
      by_cases hk : p.L[i].Num = k
      · rw [decide_eq_true hk]
        exact .inr ⟨_, rfl, .inr ⟨i, hlt, rfl, hk, hj⟩⟩
      · rw [decide_eq_false hk, cond_false, w64 (by omega) (by omega)]
        refine .inl ⟨((i + 1 : Nat) : Int), rfl, ⟨i + 1, rfl, by omega, fun j a b => ?_⟩, by simp; omega⟩
        by_cases ej : j = i
        · subst ej; exact hk
        · exact hj j a (by omega)
    · rw [decide_eq_false (by omega), cond_false]
      refine .inr ⟨_, rfl, .inl ⟨rfl, fun s hs => ?_⟩⟩
      obtain ⟨j, a, rfl⟩ := List.getElem_of_mem hs
      exact hj j a (by omega)) n 0 ⟨0, rfl, by omega, fun j a b => by omega⟩ (by simpa using hn)
  rw [e]
  rcases h with ⟨rfl, h⟩ | ⟨i, h1, rfl, h2, h3⟩
  · exact .inl ⟨rfl, h⟩
  · exact .inr ⟨i, h1, rfl, h2, h3⟩
/-- the numbers of the segments follow the first one -/
def Numd (p : S_api_Playlist) : Prop := ∀ k (h : k < p.L.length), p.L[k].Num = p.First + k
theorem rcut_eq (p : S_api_Playlist) (hp : Numd p) (w : Int) (hw0 : 1 ≤ w) (hw : w ≤ 1000000) (hl : p.L.length ≤ 1000000) : ref43_cut p w = some (cutP p w) := by
  unfold ref43_cut cutP
  by_cases h : w < (p.L.length : Int)
  · rw [decide_eq_true h, cond_true, w64 (by omega) (by omega), need_pos (by omega), Int.max_eq_right (by omega)]
    have hlt : ((p.L.length : Int) - w).toNat < p.L.length := by omega
    have h0 : 0 < (p.L.drop ((p.L.length : Int) - w).toNat).length := by simp; omega
    rw [show (0 : Int) = ((0 : Nat) : Int) from rfl, idx_get' h0]
    simp only [bindJ_go, List.getElem_drop]
    have := hp (((p.L.length : Int) - w).toNat + 0) (by omega)
    rw [this]
    congr 2
    omega
  · rw [decide_eq_false h, cond_false, Int.max_eq_left (by omega)]
    simp
theorem cutP_len (p : S_api_Playlist) (w : Int) (hw0 : 1 ≤ w) (hw : w ≤ 100) : (cutP p w).L.length ≤ 100 := by
  unfold cutP; simp; omega
end Go.Proofs.YtbgpojdmdnkeaaaGreatDoor
namespace Go.Proofs.YtbgpojdmdnkeaaaGreatDoor
open Go.Abs
set_option linter.unusedVariables false
set_option linter.unusedSimpArgs false
set_option maxRecDepth 20000
set_option maxHeartbeats 4000000

end Go.Proofs.YtbgpojdmdnkeaaaGreatDoor
namespace Go.Proofs.YtbgpojdmdnkeaaaGreatDoor
open Go.Abs
set_option linter.unusedVariables false
set_option linter.unusedSimpArgs false
set_option maxRecDepth 20000
set_option maxHeartbeats 4000000

end Go.Proofs.YtbgpojdmdnkeaaaGreatDoor
