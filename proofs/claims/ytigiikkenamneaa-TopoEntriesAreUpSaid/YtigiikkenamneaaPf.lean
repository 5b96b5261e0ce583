/-
  Maps of sites in plain words: where a site stands, and what a right map is.
-/
import Derived.Test.YtigiikkenamneaaG3a
import Derived.Test.YtigiikkenamneaaAbsPlain
namespace Go.Proofs.Ytigiikkenamneaa
open Go.Abs
set_option linter.unusedSimpArgs false
set_option linter.unusedVariables false
theorem iter_skip {R : Type} {step : Int → Option (Lp Int R)} : ∀ (i n : Nat), (∀ j : Nat, j < i → step (j : Int) = some (.go ((j + 1 : Nat) : Int))) → i ≤ n → iter step n 0 = iter step (n - i) (i : Int)
  | 0, n, _, _ => rfl
  | i + 1, n, h, hn => by
    rw [iter_skip i n (fun j hj => h j (by omega)) (by omega), show n - i = (n - (i + 1)) + 1 by omega, iter_go (h i (by omega))]
/-- a loop that looks for the first that is so -/
theorem iter_find {α R : Type} {step : Int → Option (Lp Int (Lp Unit R))} (l : List α) (p : α → Bool) (f : Nat → R)
    (h : ∀ (i : Nat) (x : α), l[i]? = some x → i < l.length → step (i : Int) = some (cond (p x) (.stop (.stop (f i))) (.go ((i + 1 : Nat) : Int)))) (he : step (l.length : Int) = some (.stop (.go ()))) (n : Nat) (hn : l.length < n) :
    iter step n 0 = some (match l.findIdx? p with | some i => (Lp.stop (f i) : Lp Unit R) | none => Lp.go ()) := by
  cases hfi : l.findIdx? p with
  | none =>
    have hp := List.findIdx?_eq_none_iff.1 hfi
    exact iter_allgo l.length (Lp.go () : Lp Unit R) (fun i hi => by
      have hx := List.getElem?_eq_getElem hi
      rw [h i _ hx hi, hp _ (List.getElem_mem hi)]; rfl) he n hn
  | some i =>
    obtain ⟨hi, hp, hj⟩ := List.findIdx?_eq_some_iff_getElem.1 hfi
    rw [iter_skip i n (fun j hj' => by
      have hlt : j < l.length := by omega
      have hx := List.getElem?_eq_getElem hlt
      rw [h j _ hx hlt, Bool.eq_false_iff.2 (hj j hj')]; rfl) (by omega), show n - i = (n - i - 1) + 1 by omega, iter_stop (r := .stop (f i))]
    rw [h i _ (List.getElem?_eq_getElem hi) hi, hp]; rfl
def fx {α : Type} (p : α → Bool) (l : List α) : Int := match l.findIdx? p with | some i => (i : Int) | none => -1
theorem fx_cases {α : Type} (p : α → Bool) (l : List α) : (fx p l = -1 ∧ ∀ x ∈ l, p x = false) ∨ ∃ (i : Nat) (hi : i < l.length), fx p l = i ∧ p l[i] = true ∧ ∀ j (hj : j < i), p (l[j]'(by omega)) = false := by
  unfold fx
  cases hfi : l.findIdx? p with
  | none => exact .inl ⟨rfl, List.findIdx?_eq_none_iff.1 hfi⟩
  | some i =>
    obtain ⟨hi, hp, hj⟩ := List.findIdx?_eq_some_iff_getElem.1 hfi
    exact .inr ⟨i, hi, rfl, hp, fun j h => Bool.eq_false_iff.2 (hj j h)⟩
abbrev at_ (l : List S_api_Hub) (s : Int) : Int := fx (fun h : S_api_Hub => decide (h.Site = s)) l
theorem hub_eq (m : S_api_Map) (s : Int) (n : Nat) (hl : m.Hubs.length ≤ 100000) (hn : m.Hubs.length < n) : ref42_hub n m s = some (at_ m.Hubs s) := by
  unfold ref42_hub
  rw [iter_find m.Hubs (fun h => decide (h.Site = s)) (fun i => (i : Int)) (fun i x hx hi => by
    unfold ref42_hub_L1
    have e : decide ((i : Int) < (m.Hubs.length : Int)) = true := by simpa using hi
    simp only [e, cond_true]
    rw [idx_get hx, w64 (by omega) (by omega)]
    cases decide (x.Site = s) <;> simp) (by unfold ref42_hub_L1; simp) n hn]
  unfold at_ fx
  cases m.Hubs.findIdx? fun h => decide (h.Site = s) <;> simp
theorem find_eq (m : S_api_Map) (s : Int) (n : Nat) (hl : m.Hubs.length ≤ 100000) (hn : m.Hubs.length < n) : topo_find n m s = some (at_ m.Hubs s) := by
  unfold topo_find slices_IndexFunc_weirgate_api_Hub_weirgate_api_Hub_66
  rw [iter_find m.Hubs (fun h => decide (h.Site = s)) (fun i => (i : Int)) (fun i x hx hi => by
    unfold slices_IndexFunc_weirgate_api_Hub_weirgate_api_Hub_66_L1 topo_find_1_67
    have e : decide ((i : Int) < (m.Hubs.length : Int)) = true := by simpa using hi
    simp only [e, cond_true]
    rw [idx_get hx, w64 (by omega) (by omega)]
    cases decide (x.Site = s) <;> simp [obind]) (by unfold slices_IndexFunc_weirgate_api_Hub_weirgate_api_Hub_66_L1; simp) n hn]
  unfold at_ fx
  cases m.Hubs.findIdx? fun h => decide (h.Site = s) <;> simp [obind]
abbrev ro_ (l : List S_api_Route) (c : List UInt8) : Int := fx (fun r : S_api_Route => decide (r.Country = c)) l
theorem rindex_eq (l : List S_api_Route) (c : List UInt8) (n : Nat) (hl : l.length ≤ 100000) (hn : l.length < n) : slices_IndexFunc_weirgate_api_Route_weirgate_api_Route_35 n l c = some (ro_ l c) := by
  unfold slices_IndexFunc_weirgate_api_Route_weirgate_api_Route_35
  rw [iter_find l (fun h => decide (h.Country = c)) (fun i => (i : Int)) (fun i x hx hi => by
    unfold slices_IndexFunc_weirgate_api_Route_weirgate_api_Route_35_L1 topo_Entry_1_36
    have e : decide ((i : Int) < (l.length : Int)) = true := by simpa using hi
    simp only [e, cond_true]
    rw [idx_get hx, w64 (by omega) (by omega)]
    cases decide (x.Country = c) <;> simp [obind]) (by unfold slices_IndexFunc_weirgate_api_Route_weirgate_api_Route_35_L1; simp) n hn]
  unfold ro_ fx
  cases l.findIdx? fun h => decide (h.Country = c) <;> simp
theorem contains_eq (l : List Int) (v : Int) (n : Nat) (hl : l.length ≤ 100000) (hn : l.length < n) : slices_Contains_int_int_45 n l v = some (decide (v ∈ l)) := by
  unfold slices_Contains_int_int_45 slices_Index_int_int_69
  rw [iter_find l (fun h => decide (v = h)) (fun i => (i : Int)) (fun i x hx hi => by
    unfold slices_Index_int_int_69_L1
    have e : decide ((i : Int) < (l.length : Int)) = true := by simpa using hi
    simp only [e, cond_true]
    rw [idx_get hx, w64 (by omega) (by omega)]
    cases decide (v = x) <;> simp) (by unfold slices_Index_int_int_69_L1; simp) n hn]
  cases hfi : l.findIdx? fun h => decide (v = h) with
  | none =>
    have hp := List.findIdx?_eq_none_iff.1 hfi
    have : v ∉ l := fun hm => by simpa using hp v hm
    simp [obind, this]
  | some i =>
    obtain ⟨hi, hp, hj⟩ := List.findIdx?_eq_some_iff_getElem.1 hfi
    have : v ∈ l := by have e : v = l[i] := by simpa using hp
                       rw [e]; exact List.getElem_mem hi
    simp [obind, this]

/-! where the sites stand -/
def st (l : List S_api_Hub) (i : Nat) : Int := ((l[i]?).map (·.Site)).getD 0
def pa (l : List S_api_Hub) (i : Nat) : Int := ((l[i]?).map (·.Parent)).getD 0
def up (l : List S_api_Hub) (i : Nat) : Bool := ((l[i]?).map (·.Up)).getD false
theorem st_of {l : List S_api_Hub} {i : Nat} {x : S_api_Hub} (h : l[i]? = some x) : x.Site = st l i := by simp [st, h]
theorem pa_of {l : List S_api_Hub} {i : Nat} {x : S_api_Hub} (h : l[i]? = some x) : x.Parent = pa l i := by simp [pa, h]
theorem up_of {l : List S_api_Hub} {i : Nat} {x : S_api_Hub} (h : l[i]? = some x) : x.Up = up l i := by simp [up, h]
def srt (l : List S_api_Hub) : Prop := ∀ i, i < l.length → 0 ≤ st l i ∧ st l i < 64 ∧ (0 < i → st l (i - 1) < st l i)
theorem srt_lt {l : List S_api_Hub} (h : srt l) : ∀ (j i : Nat), i < j → j < l.length → st l i < st l j
  | 0, i, hij, _ => by omega
  | j + 1, i, hij, hj => by
    have h1 := (h (j + 1) hj).2.2 (by omega)
    simp only [Nat.add_sub_cancel] at h1
    by_cases e : i = j
    · subst e; exact h1
    · have := srt_lt h j i (by omega) (by omega); omega
theorem srt_inj {l : List S_api_Hub} (h : srt l) {i j : Nat} (hi : i < l.length) (hj : j < l.length) (e : st l i = st l j) : i = j := by
  rcases Nat.lt_trichotomy i j with h1 | h1 | h1
  · have := srt_lt h j i h1 hj; omega
  · exact h1
  · have := srt_lt h i j h1 hi; omega
theorem at_st {l : List S_api_Hub} (h : srt l) {i : Nat} (hi : i < l.length) : at_ l (st l i) = i := by
  have e0 := st_of (List.getElem?_eq_getElem hi)
  rcases fx_cases (fun h : S_api_Hub => decide (h.Site = st l i)) l with ⟨_, h2⟩ | ⟨j, hj, h1, h2, _⟩
  · have := h2 _ (List.getElem_mem hi); simp [e0] at this
  · have : st l j = st l i := by rw [← st_of (List.getElem?_eq_getElem hj)]; simpa using h2
    rw [at_, h1, srt_inj h hj hi this]
theorem at_cases (l : List S_api_Hub) (s : Int) : (at_ l s = -1 ∧ ∀ i, i < l.length → st l i ≠ s) ∨ ∃ i : Nat, i < l.length ∧ at_ l s = i ∧ st l i = s := by
  rcases fx_cases (fun h : S_api_Hub => decide (h.Site = s)) l with ⟨h1, h2⟩ | ⟨j, hj, h1, h2, _⟩
  · exact .inl ⟨h1, fun i hi => by have := h2 _ (List.getElem_mem hi); rw [← st_of (List.getElem?_eq_getElem hi)]; simpa using this⟩
  · exact .inr ⟨j, hj, h1, by rw [← st_of (List.getElem?_eq_getElem hj)]; simpa using h2⟩
/-- the place of a site, or of what stands for no site -/
def ps (l : List S_api_Hub) (s : Int) : Int := if s = -1 then -1 else at_ l s
def kn (l : List S_api_Hub) (s : Int) : Prop := s = -1 ∨ at_ l s ≠ -1
instance (l : List S_api_Hub) (s : Int) : Decidable (kn l s) := by unfold kn; exact inferInstance
theorem mget_put (l : List (Int × Int)) (k v k' : Int) : mget (mput l k v) k' = if k' = k then some v else mget l k' := by
  induction l with
  | nil => simp only [mput, mget]; by_cases h : k = k' <;> simp [h, eq_comm]
  | cons p r ih =>
    simp only [mput]
    by_cases h : p.1 = k
    · simp only [h, if_true, mget]
      by_cases e : k = k'
      · simp [e]
      · rw [if_neg e, if_neg e, if_neg (fun q => e q.symm)]
    · simp only [h, if_false, mget, ih]
      by_cases e : p.1 = k'
      · simp only [e, if_true]; rw [if_neg (fun q => h (e.trans q))]
      · simp only [e, if_false]
def pl (l : List S_api_Hub) : List (Int × Int) := (List.range l.length).foldl (fun x i => mput x (st l i) (i : Int)) (mput [] (-1) (-1))
theorem places_eq (m : S_api_Map) (n : Nat) (hl : m.Hubs.length ≤ 100000) (hn : m.Hubs.length < n) : topo_places n m = some (pl m.Hubs) := by
  unfold topo_places
  have key : iter (topo_places_L1 m) n (0, mput ([] : List (Int × Int)) (-1) (-1)) = some (foldL (S := List (Int × Int)) (R := Lp (List (Int × Int)) (List (Int × Int))) (fun x (i : Nat) => .go (mput x (st m.Hubs i) (i : Int))) .go (mput [] (-1) (-1)) (List.range m.Hubs.length)) := by
    refine iter_range m.Hubs.length (fun (i : Nat) (x : List (Int × Int)) => ((i : Int), x)) (fun (x : List (Int × Int)) (i : Nat) => .go (mput x (st m.Hubs i) (i : Int))) (.go : List (Int × Int) → Lp (List (Int × Int)) (List (Int × Int))) (fun _ _ => True) (fun i x _ hi => ⟨?_, fun _ _ => trivial⟩) (fun x _ => ?_) n _ trivial hn
    · unfold topo_places_L1
      have e : decide ((i : Int) < (m.Hubs.length : Int)) = true := by simpa using hi
      simp only [e, cond_true]
      rw [idx_get (List.getElem?_eq_getElem hi), w64 (by omega) (by omega), st_of (List.getElem?_eq_getElem hi)]; simp
    · unfold topo_places_L1; simp
  rw [key, foldL_gom _ _ _ (fun _ _ _ => rfl)]
  simp [pl]
theorem pl_fold {l : List S_api_Hub} (h : srt l) : ∀ (N : Nat), N ≤ l.length → ∀ s, mget ((List.range N).foldl (fun x i => mput x (st l i) (i : Int)) (mput [] (-1) (-1))) s = if s = -1 then some (-1) else if at_ l s < N ∧ at_ l s ≠ -1 then some (at_ l s) else none
  | 0, _, s => by
    rw [List.range_zero, List.foldl_nil, mget_put]
    by_cases e : s = -1
    · simp [e]
    · rw [if_neg e, if_neg e, if_neg]; · rfl
      rcases at_cases l s with ⟨h1, _⟩ | ⟨i, _, h1, _⟩ <;> omega
  | N + 1, hN, s => by
    rw [List.range_succ, List.foldl_append, List.foldl_cons, List.foldl_nil, mget_put, pl_fold h N (by omega) s]
    have h0 := (h N (by omega)).1
    by_cases e : s = st l N
    · have := at_st h (i := N) (by omega)
      rw [if_pos e, e, if_neg (by omega), if_pos (by omega), this]
    · rw [if_neg e]
      by_cases e1 : s = -1
      · simp [e1]
      · rw [if_neg e1, if_neg e1]
        have : at_ l s ≠ N := fun q => by
          rcases at_cases l s with ⟨h1, _⟩ | ⟨i, hi, h1, h2⟩
          · omega
          · have : i = N := by omega
            subst this; exact e h2.symm
        by_cases c : at_ l s < N ∧ at_ l s ≠ -1
        · rw [if_pos c, if_pos (by omega)]
        · rw [if_neg c, if_neg (by omega)]
theorem pl_get {l : List S_api_Hub} (h : srt l) (s : Int) : mget (pl l) s = if kn l s then some (ps l s) else none := by
  unfold pl
  rw [pl_fold h _ (Nat.le_refl _)]
  unfold kn ps
  by_cases e : s = -1
  · simp [e]
  · rcases at_cases l s with ⟨h1, _⟩ | ⟨i, hi, h1, _⟩
    · simp [e, h1]
    · have : at_ l s ≠ -1 := by omega
      simp [e, this]; omega
end Go.Proofs.Ytigiikkenamneaa
