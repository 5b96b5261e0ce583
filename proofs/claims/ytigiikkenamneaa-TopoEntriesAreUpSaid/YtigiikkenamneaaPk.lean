/-
  The climb, sites turned on or off, and the countries moved: the program and the specification say the same.
-/
import Derived.Test.YtigiikkenamneaaPe
namespace Go.Proofs.Ytigiikkenamneaa
open Go.Abs
set_option linter.unusedSimpArgs false
set_option linter.unusedVariables false
/-- the sites that a miss climbs by -/
def cl (l : List S_api_Hub) : Nat → Int → List Int
  | 0, _ => []
  | f + 1, s => if s = -1 then [] else (if upS l s then [s] else []) ++ cl l f (pa l (at_ l s).toNat)
theorem kn_pa {m : S_api_Map} (hv : valid m) {i : Nat} (hi : i < m.Hubs.length) : kn m.Hubs (pa m.Hubs i) := by
  refine Classical.byContradiction fun hb => ?_
  have := hv.rooted i hi
  rw [rt_bad hv.srt hi hb] at this; simp at this
theorem rt_step {l : List S_api_Hub} {f : Nat} {s : Int} (hs : s ≠ -1) (h : rt l f s = true) : ∃ g, f = g + 1 ∧ at_ l s ≠ -1 ∧ rt l g (pa l (at_ l s).toNat) = true := by
  cases f with
  | zero => simp [rt, hs] at h
  | succ g =>
    simp only [rt, hs, decide_false, Bool.false_or, Bool.and_eq_true, decide_eq_true_eq] at h
    exact ⟨g, rfl, h.1, h.2⟩
theorem climb_up {m : S_api_Map} (hv : valid m) : ∀ (f n : Nat) (out : List Int) (s : Int), rt m.Hubs f s = true → out.length + f ≤ 1000 → f < n →
    iter (topo_upward_1_68_L1 (yieldOf topo_Climb_R1) m (pl m.Hubs)) n ((out, none), s) = some ((out ++ cl m.Hubs f s, none), -1)
  | f, 0, _, _, _, _, h => by omega
  | f, n + 1, out, s, hr, ho, hn => by
    by_cases hs : s = -1
    · subst hs
      rw [iter_stop (r := ((out, none), -1)) (by unfold topo_upward_1_68_L1; simp)]
      cases f <;> simp [cl]
    · obtain ⟨g, rfl, h1, h2⟩ := rt_step hs hr
      obtain ⟨j, hj, h3, h4⟩ := at_some h1
      have hx := List.getElem?_eq_getElem hj
      have h5 : upS m.Hubs s = up m.Hubs j := by unfold upS; rw [h3]; simp
      have hst : topo_upward_1_68_L1 (yieldOf topo_Climb_R1) m (pl m.Hubs) ((out, none), s) = some (.go ((out ++ (if upS m.Hubs s then [s] else []), none), pa m.Hubs j)) := by
        unfold topo_upward_1_68_L1
        simp only [hs, ne_eq, not_false_eq_true, decide_true, cond_true]
        rw [pl_get hv.srt, if_pos (.inr h1), show ps m.Hubs s = j by unfold ps; rw [if_neg hs, h3], Option.getD_some, idx_get hx]
        unfold yieldOf topo_Climb_R1
        simp only [up_of hx, st_of hx, pa_of hx, h4, h5]
        rw [need_pos (by simp; omega)]
        cases up m.Hubs j <;> simp [obind]
      rw [h3, Int.toNat_natCast] at h2
      rw [iter_go hst, climb_up hv g n _ _ h2 (by split <;> simp <;> omega) (by omega)]
      simp only [cl, hs, if_false, h3, Int.toNat_natCast, List.append_assoc]
theorem rclimb_in {m : S_api_Map} (hv : valid m) (n0 : Nat) (hm : m.Hubs.length ≤ 1000) (hn0 : m.Hubs.length < n0) : ∀ (f n : Nat) (out : List Int) (s : Int), rt m.Hubs f s = true → out.length + f ≤ 1000 → f < n →
    iter (ref42_Climb_L1 n0 m) n (s, out) = some (.go (out ++ cl m.Hubs f s))
  | f, 0, _, _, _, _, h => by omega
  | f, n + 1, out, s, hr, ho, hn => by
    by_cases hs : s = -1
    · subst hs
      rw [iter_stop (r := .go out) (by unfold ref42_Climb_L1; simp)]
      cases f <;> simp [cl]
    · obtain ⟨g, rfl, h1, h2⟩ := rt_step hs hr
      obtain ⟨j, hj, h3, h4⟩ := at_some h1
      have hx := List.getElem?_eq_getElem hj
      have h0 := (hv.srt j hj).1
      have h5 : upS m.Hubs s = up m.Hubs j := by unfold upS; rw [h3]; simp
      have hst : ref42_Climb_L1 n0 m (s, out) = some (.go (pa m.Hubs j, out ++ (if upS m.Hubs s then [s] else []))) := by
        unfold ref42_Climb_L1
        have e : decide (0 ≤ s) = true := by simp; omega
        simp only [e, cond_true]
        rw [hub_eq m s n0 (by omega) hn0]
        simp only [obind, Option.bind_some]
        rw [h3, idx_get hx, need_pos (by simp; omega)]
        simp only [up_of hx, pa_of hx, h5]
        cases up m.Hubs j <;> simp
      rw [h3, Int.toNat_natCast] at h2
      rw [iter_go hst, rclimb_in hv n0 hm hn0 g n _ _ h2 (by split <;> simp <;> omega) (by omega)]
      simp only [cl, hs, if_false, h3, Int.toNat_natCast, List.append_assoc]
noncomputable def clb (m : S_api_Map) (s : Int) : List Int × Int := if vb m = true then (if at_ m.Hubs s = -1 then ([], 5) else (cl m.Hubs m.Hubs.length s, 0)) else ([], 1)
theorem climb_is {m : S_api_Map} (hf : few m) (s : Int) (n : Nat) (hn : 100 ≤ n) : topo_Climb n m s = some (clb m s) := by
  have h70 := hf.1
  unfold topo_Climb clb topo_upward topo_upward_1_68
  rw [valid_eq hf n hn, find_eq m s n (by omega) (by omega), places_eq m n (by omega) (by omega)]
  simp only [obind, Option.bind_some]
  by_cases hv : valid m
  · rw [vb_true.2 hv]
    simp only [Bool.not_true, cond_false, if_true]
    by_cases h1 : at_ m.Hubs s = -1
    · rw [if_pos h1, h1]; rfl
    · obtain ⟨j, hj, h3, h4⟩ := at_some h1
      have e : decide (at_ m.Hubs s < 0) = false := by rw [h3]; simp
      rw [e, if_neg h1, cond_false, climb_up hv m.Hubs.length n [] s (by rw [← h4]; exact hv.rooted j hj) (by simp; omega) (by omega)]
      simp [onJump]
  · rw [vb_false hv]; rfl
theorem rclimb_is {m : S_api_Map} (hf : few m) (s : Int) (n : Nat) (hn : 100 ≤ n) : ref42_Climb n m s = some ⟨(clb m s).1, (clb m s).2⟩ := by
  have h70 := hf.1
  unfold ref42_Climb clb
  rw [rvalid_eq hf n hn, hub_eq m s n (by omega) (by omega)]
  simp only [obind, Option.bind_some]
  by_cases hv : valid m
  · rw [vb_true.2 hv]
    simp only [Bool.not_true, cond_false, if_true]
    by_cases h1 : at_ m.Hubs s = -1
    · rw [if_pos h1, h1]; rfl
    · obtain ⟨j, hj, h3, h4⟩ := at_some h1
      have e : decide (at_ m.Hubs s < 0) = false := by rw [h3]; simp
      rw [e, if_neg h1, cond_false, rclimb_in hv n (by omega) (by omega) m.Hubs.length n [] s (by rw [← h4]; exact hv.rooted j hj) (by simp; omega) (by omega)]
      simp
  · rw [vb_false hv]; rfl
/-! turned -/
def trn (l : List S_api_Hub) (i : Nat) (u : Bool) : List S_api_Hub := l.set i ⟨st l i, pa l i, u⟩
noncomputable def tur (m : S_api_Map) (s : Int) (u : Bool) : S_api_Map × Int := if vb m = true then (if at_ m.Hubs s = -1 then (⟨[], []⟩, 5) else (⟨trn m.Hubs (at_ m.Hubs s).toNat u, m.Routes⟩, 0)) else (⟨[], []⟩, 1)
theorem turn_is {m : S_api_Map} (hf : few m) (s : Int) (u : Bool) (n : Nat) (hn : 100 ≤ n) : topo_Turn n m s u = some (tur m s u) := by
  have h70 := hf.1
  unfold topo_Turn tur slices_Clone_weirgate_api_Hub_weirgate_api_Hub_41
  rw [valid_eq hf n hn, find_eq m s n (by omega) (by omega)]
  simp only [obind, Option.bind_some]
  by_cases hv : valid m
  · rw [vb_true.2 hv]
    simp only [Bool.not_true, cond_false, if_true]
    by_cases h1 : at_ m.Hubs s = -1
    · rw [if_pos h1, h1]; rfl
    · obtain ⟨j, hj, h3, h4⟩ := at_some h1
      have e : decide (at_ m.Hubs s < 0) = false := by rw [h3]; simp
      have hx := List.getElem?_eq_getElem hj
      rw [e, if_neg h1, cond_false, need_pos (by simp; omega)]
      simp only [Option.bind_some, List.nil_append, h3, Int.toNat_natCast]
      rw [idx_get hx]
      simp only [st_of hx, pa_of hx, trn]
  · rw [vb_false hv]; rfl
theorem rturn_is {m : S_api_Map} (hf : few m) (s : Int) (u : Bool) (n : Nat) (hn : 100 ≤ n) : ref42_Turn n m s u = some ⟨(tur m s u).1, (tur m s u).2⟩ := by
  have h70 := hf.1
  unfold ref42_Turn tur
  rw [rvalid_eq hf n hn, hub_eq m s n (by omega) (by omega)]
  simp only [obind, Option.bind_some]
  by_cases hv : valid m
  · rw [vb_true.2 hv]
    simp only [Bool.not_true, cond_false, if_true]
    by_cases h1 : at_ m.Hubs s = -1
    · rw [if_pos h1, h1]; rfl
    · obtain ⟨j, hj, h3, h4⟩ := at_some h1
      have e : decide (at_ m.Hubs s < 0) = false := by rw [h3]; simp
      have hx := List.getElem?_eq_getElem hj
      rw [e, if_neg h1, cond_false, need_pos (by simp; omega)]
      simp only [Option.bind_some, List.nil_append, h3, Int.toNat_natCast]
      rw [idx_get hx]
      simp only [st_of hx, pa_of hx, trn]
  · rw [vb_false hv]; rfl
/-! moved -/
noncomputable def mvB (a b : S_api_Map) (c : List UInt8) : Bool := decide ((ent a c).1 ≠ (ent b c).1) || (!((decide ((ent a c).2 = 0)) == (decide ((ent b c).2 = 0))))
noncomputable def mvd (a b : S_api_Map) (l : List (List UInt8)) : List (List UInt8) := l.filter (mvB a b)
theorem foldl_filter {α : Type} (p : α → Bool) : ∀ (l out : List α), l.foldl (fun o x => o ++ (if p x then [x] else [])) out = out ++ l.filter p
  | [], out => by simp
  | x :: r, out => by
    simp only [List.foldl_cons, foldl_filter p r, List.filter_cons]
    cases p x <;> simp
theorem moved_is {a b : S_api_Map} (ha : few a) (hb : few b) (l : List (List UInt8)) (hl : l.length ≤ 1000) (n : Nat) (hn : 100 ≤ n) (hn2 : l.length < n) : topo_Moved n a b l = some (mvd a b l) := by
  unfold topo_Moved
  have key := iter_fold (step := topo_Moved_L1 n a b l) (l := l) (R := Lp (List (List UInt8)) (List (List UInt8))) (fun i (o : List (List UInt8)) => (o, (i : Int))) (fun o c => .go (o ++ (if mvB a b c then [c] else []))) (fun o => .go o) (fun i o => o.length ≤ i) (fun i o c ho hc => by
    have hi : i < l.length := (List.getElem?_eq_some_iff.1 hc).1
    refine ⟨?_, fun s' hs => by simp only [Lp.go.injEq] at hs; subst hs; simp only [List.length_append]; split <;> simp <;> omega⟩
    unfold topo_Moved_L1
    have e : decide ((i : Int) < (l.length : Int)) = true := by simpa using hi
    simp only [e, cond_true]
    rw [idx_get hc, entry_eq ha c n hn, entry_eq hb c n hn, need_pos (by simp; omega), w64 (by omega) (by omega)]
    simp only [obind, Option.bind_some]
    rw [show (decide ((ent a c).1 ≠ (ent b c).1) || (!((decide ((ent a c).2 = 0)) == (decide ((ent b c).2 = 0))))) = mvB a b c from rfl]
    cases mvB a b c <;> simp) (fun o _ => by unfold topo_Moved_L1; simp) n 0 [] (Nat.le_refl _) (by omega) (by omega)
  simp only [Int.natCast_zero, List.drop_zero] at key
  have key' : iter (topo_Moved_L1 n a b l) n ([], 0) = _ := key
  rw [key', foldL_go _ (fun _ _ => rfl), foldl_filter]
  simp [mvd]
theorem rmoved_is {a b : S_api_Map} (ha : few a) (hb : few b) (l : List (List UInt8)) (hl : l.length ≤ 1000) (n : Nat) (hn : 100 ≤ n) (hn2 : l.length < n) : ref42_Moved n a b l = some (mvd a b l) := by
  unfold ref42_Moved
  have key := iter_fold (step := ref42_Moved_L1 n a b l) (l := l) (R := Lp (List (List UInt8)) (List (List UInt8))) (fun i (o : List (List UInt8)) => (o, (i : Int))) (fun o c => .go (o ++ (if mvB a b c then [c] else []))) (fun o => .go o) (fun i o => o.length ≤ i) (fun i o c ho hc => by
    have hi : i < l.length := (List.getElem?_eq_some_iff.1 hc).1
    refine ⟨?_, fun s' hs => by simp only [Lp.go.injEq] at hs; subst hs; simp only [List.length_append]; split <;> simp <;> omega⟩
    unfold ref42_Moved_L1
    have e : decide ((i : Int) < (l.length : Int)) = true := by simpa using hi
    simp only [e, cond_true]
    rw [idx_get hc, rentry_eq ha c n hn, rentry_eq hb c n hn, need_pos (by simp; omega), w64 (by omega) (by omega)]
    simp only [obind, Option.bind_some]
    rw [show (decide ((ent a c).1 ≠ (ent b c).1) || (!((decide ((ent a c).2 = 0)) == (decide ((ent b c).2 = 0))))) = mvB a b c from rfl]
    cases mvB a b c <;> simp) (fun o _ => by unfold ref42_Moved_L1; simp) n 0 [] (Nat.le_refl _) (by omega) (by omega)
  have key' : iter (ref42_Moved_L1 n a b l) n ([], 0) = _ := key
  rw [key', foldL_go _ (fun _ _ => rfl), foldl_filter]
  simp [mvd]
/-! the same -/
theorem samelist_refl (a : List Int) (hl : a.length ≤ 100000) (n : Nat) (hn : a.length < n) : ref42_SameList n a a = some true := by
  unfold ref42_SameList
  have e : decide ((a.length : Int) ≠ (a.length : Int)) = false := by simp
  rw [e, cond_false, iter_allgo a.length (.go ()) (fun i hi => by
    unfold ref42_SameList_L1
    have e : decide ((i : Int) < (a.length : Int)) = true := by simpa using hi
    simp only [e, cond_true]
    rw [idx_get' hi, idx_get' hi, w64 (by omega) (by omega)]; simp) (by unfold ref42_SameList_L1; simp) n hn]
  rfl
theorem samemap_refl (m : S_api_Map) (h1 : m.Hubs.length ≤ 1000) (h2 : m.Routes.length ≤ 1000) (h3 : ∀ r ∈ m.Routes, r.Sites.length ≤ 1000) (n : Nat) (hn : 1000 < n) : ref42_SameMap n m m = some true := by
  unfold ref42_SameMap
  have e : (decide ((m.Hubs.length : Int) ≠ (m.Hubs.length : Int)) || decide ((m.Routes.length : Int) ≠ (m.Routes.length : Int))) = false := by simp
  rw [e, cond_false, iter_allgo m.Hubs.length (.go ()) (fun i hi => by
    unfold ref42_SameMap_L1
    have e : decide ((i : Int) < (m.Hubs.length : Int)) = true := by simpa using hi
    simp only [e, cond_true]
    rw [idx_get' hi, idx_get' hi, w64 (by omega) (by omega)]; simp) (by unfold ref42_SameMap_L1; simp) n (by omega), bindJ_go, iter_allgo m.Routes.length (.go ()) (fun i hi => by
    unfold ref42_SameMap_L2
    have e : decide ((i : Int) < (m.Routes.length : Int)) = true := by simpa using hi
    simp only [e, cond_true]
    have := h3 _ (List.getElem_mem hi)
    rw [idx_get' hi, idx_get' hi, w64 (by omega) (by omega), samelist_refl _ (by omega) n (by omega)]; simp [obind]) (by unfold ref42_SameMap_L2; simp) n (by omega)]
  rfl
theorem few_eq (m : S_api_Map) (n : Nat) (hl : m.Routes.length ≤ 9223372036854775807) (hn : m.Routes.length < n) : ∃ b, ref42_Few n m = some b ∧ (b = true → few m) := by
  unfold ref42_Few
  have key : iter (ref42_Few_L1 m) n 0 = some (foldL (S := Unit) (fun _ (k : Nat) => cond (!decide (70 < (rs m k).length)) (.go ()) (.stop (.stop false))) .go () (List.range m.Routes.length)) := by
    refine iter_range m.Routes.length (fun (i : Nat) (_ : Unit) => (i : Int)) (fun (_ : Unit) (k : Nat) => cond (!decide (70 < (rs m k).length)) (.go ()) (.stop (.stop false))) (.go : Unit → Lp Unit Bool) (fun _ _ => True) (fun i s _ hi => ⟨?_, fun _ _ => trivial⟩) (fun s _ => ?_) n () trivial (by omega)
    · unfold ref42_Few_L1
      have e : decide ((i : Int) < (m.Routes.length : Int)) = true := by simpa using hi
      simp only [e, cond_true]
      have hx := List.getElem?_eq_getElem hi
      have e2 : decide (70 < (m.Routes[i].Sites.length : Int)) = decide (70 < m.Routes[i].Sites.length) := decide_eq_decide.2 (by omega)
      rw [idx_get hx, w64 (by omega) (by omega), rs_of hx, e2]
      cases decide (70 < m.Routes[i].Sites.length) <;> simp
    · unfold ref42_Few_L1; simp
  rw [key, foldL_all (fun k => !decide (70 < (rs m k).length)) (.stop false) _ (fun _ _ => rfl)]
  cases hb : (List.range m.Routes.length).all fun k => !decide (70 < (rs m k).length) with
  | false => exact ⟨false, rfl, fun h => by simp at h⟩
  | true =>
    refine ⟨_, rfl, fun h => ?_⟩
    simp at h
    refine ⟨by omega, by omega, fun r hr => ?_⟩
    obtain ⟨i, hi, rfl⟩ := List.getElem_of_mem hr
    have := List.all_eq_true.1 hb i (by simpa using hi)
    rw [rs_of (List.getElem?_eq_getElem hi)] at this
    simp at this; exact this
end Go.Proofs.Ytigiikkenamneaa
