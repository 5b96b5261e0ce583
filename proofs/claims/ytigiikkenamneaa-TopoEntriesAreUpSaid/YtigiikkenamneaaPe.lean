/-
  Where clients go, and by which sites a miss climbs: the program and the specification say the same.
-/
import Derived.Test.YtigiikkenamneaaPm
namespace Go.Proofs.Ytigiikkenamneaa
open Go.Abs
set_option linter.unusedSimpArgs false
set_option linter.unusedVariables false
theorem findIdx_find {l : List Int} (p : Int → Bool) : l.find? p = (l.findIdx? p).map (fun i => l.getD i 0) := by
  cases h : l.findIdx? p with
  | none =>
    have := List.findIdx?_eq_none_iff.1 h
    rw [List.find?_eq_none.2 fun x hx => by rw [this x hx]; simp]; rfl
  | some i =>
    obtain ⟨hi, hp, hj⟩ := List.findIdx?_eq_some_iff_getElem.1 h
    rw [List.find?_eq_some_iff_getElem.2 ⟨hp, i, hi, rfl, fun j h => by have := hj j h; simpa using this⟩, getD_lt hi]; rfl
/-- the sites to which a country's clients may go -/
def sof (m : S_api_Map) (c : List UInt8) : List Int := if ro_ m.Routes c ≠ -1 then rs m (ro_ m.Routes c).toNat else if ro_ m.Routes [] ≠ -1 then rs m (ro_ m.Routes []).toNat else []
def upS (l : List S_api_Hub) (s : Int) : Bool := up l (at_ l s).toNat
theorem ro_cases (l : List S_api_Route) (c : List UInt8) : (ro_ l c = -1 ∧ ∀ r ∈ l, r.Country ≠ c) ∨ ∃ i : Nat, i < l.length ∧ ro_ l c = i := by
  rcases fx_cases (fun h : S_api_Route => decide (h.Country = c)) l with ⟨h1, h2⟩ | ⟨j, hj, h1, h2, _⟩
  · exact .inl ⟨h1, fun r hr => by simpa using h2 r hr⟩
  · exact .inr ⟨j, hj, h1⟩
theorem rs_known {m : S_api_Map} (hv : valid m) {i : Nat} (hi : i < m.Routes.length) : (∀ s ∈ rs m i, at_ m.Hubs s ≠ -1) ∧ (rs m i).Nodup := by
  have h := List.all_eq_true.1 hv.routes i (by simpa using hi)
  simp only [rok, Bool.and_eq_true] at h
  have hs := List.all_eq_true.1 h.2.2
  constructor
  · intro s hs'
    obtain ⟨k, hk, rfl⟩ := List.getElem_of_mem hs'
    have := hs k (by simpa using hk)
    rw [← getD_lt hk] at this
    simp only [Bool.and_eq_true, decide_eq_true_eq] at this
    exact this.1
  · refine List.pairwise_iff_getElem.2 fun a b ha hb hab e => ?_
    have := hs b (by simpa using hb)
    rw [← getD_lt hb] at this
    simp only [Bool.and_eq_true, Bool.not_eq_true', decide_eq_false_iff_not] at this
    exact this.2 (by rw [← e]; exact List.mem_take_iff_getElem.2 ⟨a, by omega, rfl⟩)
theorem sof_cases (m : S_api_Map) (c : List UInt8) : sof m c = [] ∨ ∃ i, i < m.Routes.length ∧ sof m c = rs m i := by
  unfold sof
  rcases ro_cases m.Routes c with ⟨h1, _⟩ | ⟨i, hi, h1⟩
  · rw [h1, if_neg (by simp)]
    rcases ro_cases m.Routes [] with ⟨h1, _⟩ | ⟨i, hi, h1⟩
    · rw [h1, if_neg (by simp)]; exact .inl rfl
    · rw [h1, if_pos (by omega)]; exact .inr ⟨i, hi, by simp⟩
  · rw [h1, if_pos (by omega)]; exact .inr ⟨i, hi, by simp⟩
theorem sof_known {m : S_api_Map} (hv : valid m) (c : List UInt8) : (∀ s ∈ sof m c, at_ m.Hubs s ≠ -1) ∧ (sof m c).Nodup := by
  rcases sof_cases m c with h | ⟨i, hi, h⟩
  · rw [h]; exact ⟨fun s hs => by simp at hs, List.nodup_nil⟩
  · rw [h]; exact rs_known hv hi
theorem rs_few {m : S_api_Map} (hf : few m) (i : Nat) : (rs m i).length ≤ 70 := by
  unfold rs
  by_cases hi : i < m.Routes.length
  · rw [List.getElem?_eq_getElem hi]; exact hf.2.2 _ (List.getElem_mem hi)
  · rw [List.getElem?_eq_none (by omega)]; simp
theorem sof_few {m : S_api_Map} (hf : few m) (c : List UInt8) : (sof m c).length ≤ 70 := by
  rcases sof_cases m c with h | ⟨i, hi, h⟩
  · rw [h]; simp
  · rw [h]; exact rs_few hf i
noncomputable def ent (m : S_api_Map) (c : List UInt8) : Int × Int := if vb m = true then (match (sof m c).find? (upS m.Hubs) with | some s => (s, 0) | none => (0, 5)) else (0, 1)
theorem at_some {l : List S_api_Hub} {s : Int} (h : at_ l s ≠ -1) : ∃ i : Nat, i < l.length ∧ at_ l s = i ∧ st l i = s := by
  rcases at_cases l s with ⟨h1, _⟩ | h1
  · exact absurd h1 h
  · exact h1
theorem entry_in {m : S_api_Map} (hf : few m) (hv : valid m) {x : S_api_Route} (hk : ∀ s ∈ x.Sites, at_ m.Hubs s ≠ -1) (hx : x.Sites.length ≤ 70) (n : Nat) (hn : 100 ≤ n) :
    iter (topo_Entry_L2 m (pl m.Hubs) x) n 0 = some (match x.Sites.find? (upS m.Hubs) with | some s => .stop (.stop (.stop (s, 0))) | none => .go ()) := by
  rw [iter_find x.Sites (upS m.Hubs) (fun i => .stop (.stop (x.Sites.getD i 0, 0))) (fun i s hs hi => by
    unfold topo_Entry_L2
    have e : decide ((i : Int) < (x.Sites.length : Int)) = true := by simpa using hi
    simp only [e, cond_true]
    obtain ⟨j, hj, h1, h2⟩ := at_some (hk s (List.mem_of_getElem? hs))
    have h0 := (hv.srt j hj).1
    have h3 : ps m.Hubs s = j := by unfold ps; rw [if_neg (by omega), h1]
    have hw : IntKind.i64.wrap ((i : Int) + 1) = (i : Int) + 1 := w64 (by omega) (by omega)
    rw [idx_get hs, pl_get hv.srt, if_pos (.inr (by omega)), h3, Option.getD_some, idx_get (List.getElem?_eq_getElem hj), up_of (List.getElem?_eq_getElem hj), hw, getD_of hs]
    have : upS m.Hubs s = up m.Hubs j := by unfold upS; rw [h1]; simp
    rw [this]
    cases up m.Hubs j <;> simp) (by unfold topo_Entry_L2; simp) n (by omega), findIdx_find]
  cases x.Sites.findIdx? (upS m.Hubs) <;> rfl
theorem entry_step {m : S_api_Map} (hf : few m) (hv : valid m) (c c' : List UInt8) (k : Nat) (hk : ([c, []] : List (List UInt8))[k]? = some c') (n : Nat) (hn : 100 ≤ n) :
    topo_Entry_L1 n m c (pl m.Hubs) (k : Int) = some (if ro_ m.Routes c' = -1 then .go ((k + 1 : Nat) : Int) else match (rs m (ro_ m.Routes c').toNat).find? (upS m.Hubs) with | some s => .stop (.stop (s, 0)) | none => .stop (.go ())) := by
  have h20 := hf.2.1
  unfold topo_Entry_L1
  have hk2 : k < 2 := by have := (List.getElem?_eq_some_iff.1 hk).1; simpa using this
  have e : decide ((k : Int) < ((([c, []] : List (List UInt8)).length : Nat) : Int)) = true := by simp; omega
  simp only [e, cond_true]
  rw [idx_get hk, rindex_eq _ _ n (by omega) (by omega)]
  simp only [obind, Option.bind_some]
  rcases ro_cases m.Routes c' with ⟨h1, _⟩ | ⟨i, hi, h1⟩
  · rw [h1, w64 (by omega) (by omega)]; simp
  · have e1 : decide (ro_ m.Routes c' < 0) = false := by rw [h1]; simp
    have hx := List.getElem?_eq_getElem hi
    have hr := rs_of hx
    rw [e1, cond_false, h1, if_neg (by omega), Int.toNat_natCast, idx_get hx, entry_in hf hv (by rw [← hr]; exact (rs_known hv hi).1) (hf.2.2 _ (List.getElem_mem hi)) n hn, hr]
    cases List.find? (upS m.Hubs) m.Routes[i].Sites <;> rfl
theorem entry_eq {m : S_api_Map} (hf : few m) (c : List UInt8) (n : Nat) (hn : 100 ≤ n) : topo_Entry n m c = some (ent m c) := by
  have h70 := hf.1
  unfold topo_Entry ent
  rw [valid_eq hf n hn, places_eq m n (by omega) (by omega)]
  simp only [obind, Option.bind_some]
  by_cases hv : valid m
  · rw [vb_true.2 hv]
    simp only [Bool.not_true, cond_false, if_true]
    obtain ⟨n', rfl⟩ : ∃ n', n = n' + 3 := ⟨n - 3, by omega⟩
    have s0 := entry_step hf hv c c 0 rfl (n' + 3) (by omega)
    have s1 := entry_step hf hv c [] 1 rfl (n' + 3) (by omega)
    have s2 : topo_Entry_L1 (n' + 3) m c (pl m.Hubs) (2 : Int) = some (.stop (.go ())) := by unfold topo_Entry_L1; simp
    unfold sof
    by_cases h0 : ro_ m.Routes c = -1
    · rw [if_pos h0] at s0
      rw [show (n' + 3) = (n' + 2) + 1 by omega] at s0 s1 s2 ⊢
      rw [iter_go (s := (0 : Int)) s0, if_neg (by simpa using h0)]
      by_cases h1 : ro_ m.Routes [] = -1
      · rw [if_pos h1] at s1
        rw [iter_go (n := n' + 1) s1, if_neg (by simpa using h1)]
        rw [iter_stop (n := n') (s := ((1 + 1 : Nat) : Int)) s2]
        rfl
      · rw [if_neg h1] at s1
        rw [if_pos h1]
        cases hfd : (rs m (ro_ m.Routes []).toNat).find? (upS m.Hubs) with
        | none => rw [hfd] at s1; rw [iter_stop (n := n' + 1) s1]; rfl
        | some s => rw [hfd] at s1; rw [iter_stop (n := n' + 1) s1]; rfl
    · rw [if_neg h0] at s0
      rw [if_pos h0]
      rw [show (n' + 3) = (n' + 2) + 1 by omega] at s0 ⊢
      cases hfd : (rs m (ro_ m.Routes c).toNat).find? (upS m.Hubs) with
      | none => rw [hfd] at s0; rw [iter_stop (s := (0 : Int)) s0]; rfl
      | some s => rw [hfd] at s0; rw [iter_stop (s := (0 : Int)) s0]; rfl
  · rw [vb_false hv]; rfl
theorem route_eq (m : S_api_Map) (c : List UInt8) (n : Nat) (hl : m.Routes.length ≤ 1000) (hn : m.Routes.length < n) : ref42_route n m c = some (if ro_ m.Routes c = -1 then ([], false) else (rs m (ro_ m.Routes c).toNat, true)) := by
  unfold ref42_route
  rw [iter_find m.Routes (fun h => decide (h.Country = c)) (fun i => (rs m i, true)) (fun i x hx hi => by
    unfold ref42_route_L1
    have e : decide ((i : Int) < (m.Routes.length : Int)) = true := by simpa using hi
    simp only [e, cond_true]
    rw [idx_get hx, w64 (by omega) (by omega), rs_of hx]
    cases decide (x.Country = c) <;> simp) (by unfold ref42_route_L1; simp) n hn]
  unfold ro_ fx
  cases m.Routes.findIdx? fun h => decide (h.Country = c) with
  | none => simp
  | some i =>
    have : ¬ ((i : Int) = -1) := by omega
    simp [this]
theorem rentry_in {m : S_api_Map} (hf : few m) {l : List Int} (hk : ∀ s ∈ l, at_ m.Hubs s ≠ -1) (hx : l.length ≤ 70) (n : Nat) (hn : 100 ≤ n) :
    iter (ref42_Entry_L1 n m l) n 0 = some (match l.find? (upS m.Hubs) with | some s => .stop ⟨s, 0⟩ | none => .go ()) := by
  have h70 := hf.1
  rw [iter_find l (upS m.Hubs) (fun i => S_ref42_Number.mk (l.getD i 0) 0) (fun i s hs hi => by
    unfold ref42_Entry_L1
    have e : decide ((i : Int) < (l.length : Int)) = true := by simpa using hi
    simp only [e, cond_true]
    obtain ⟨j, hj, h1, h2⟩ := at_some (hk s (List.mem_of_getElem? hs))
    have hw : IntKind.i64.wrap ((i : Int) + 1) = (i : Int) + 1 := w64 (by omega) (by omega)
    rw [idx_get hs, hub_eq m s n (by omega) (by omega)]
    simp only [obind, Option.bind_some]
    rw [h1, idx_get (List.getElem?_eq_getElem hj), up_of (List.getElem?_eq_getElem hj), hw, getD_of hs]
    have : upS m.Hubs s = up m.Hubs j := by unfold upS; rw [h1]; simp
    rw [this]
    cases up m.Hubs j <;> simp) (by unfold ref42_Entry_L1; simp) n (by omega), findIdx_find]
  cases l.findIdx? (upS m.Hubs) <;> rfl
theorem rentry_eq {m : S_api_Map} (hf : few m) (c : List UInt8) (n : Nat) (hn : 100 ≤ n) : ref42_Entry n m c = some ⟨(ent m c).1, (ent m c).2⟩ := by
  have h70 := hf.1
  have h20 := hf.2.1
  unfold ref42_Entry ent
  rw [rvalid_eq hf n hn]
  simp only [obind, Option.bind_some]
  by_cases hv : valid m
  · rw [vb_true.2 hv, route_eq m c n (by omega) (by omega), route_eq m [] n (by omega) (by omega)]
    simp only [Bool.not_true, cond_false, if_true, Option.bind_some]
    have key : (bindJ (S := List Int) (R := S_ref42_Number) (cond (!(if ro_ m.Routes c = -1 then (([] : List Int), false) else (rs m (ro_ m.Routes c).toNat, true)).2) (some (.go (if ro_ m.Routes [] = -1 then (([] : List Int), false) else (rs m (ro_ m.Routes []).toNat, true)).1)) (some (.go (if ro_ m.Routes c = -1 then (([] : List Int), false) else (rs m (ro_ m.Routes c).toNat, true)).1)))) = bindJ (some (.go (sof m c))) := by
      unfold sof
      by_cases h0 : ro_ m.Routes c = -1
      · by_cases h1 : ro_ m.Routes [] = -1 <;> simp [h0, h1]
      · simp [h0]
    rw [key, bindJ_go, rentry_in hf (sof_known hv c).1 (sof_few hf c) n hn]
    cases (sof m c).find? (upS m.Hubs) <;> rfl
  · rw [vb_false hv]; rfl
end Go.Proofs.Ytigiikkenamneaa
