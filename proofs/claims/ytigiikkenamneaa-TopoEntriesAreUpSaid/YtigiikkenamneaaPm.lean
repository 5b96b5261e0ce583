/-
  A right map: the program and the specification say the same (the hubs).
-/
import Derived.Test.YtigiikkenamneaaPv
namespace Go.Proofs.Ytigiikkenamneaa
open Go.Abs
set_option linter.unusedSimpArgs false
set_option linter.unusedVariables false
/-- going up from s one comes to no site in f steps -/
def rt (l : List S_api_Hub) : Nat → Int → Bool
  | 0, s => decide (s = -1)
  | f + 1, s => decide (s = -1) || (decide (at_ l s ≠ -1) && rt l f (pa l (at_ l s).toNat))
structure valid (m : S_api_Map) : Prop where
  srt : srt m.Hubs
  rooted : ∀ i, i < m.Hubs.length → rt m.Hubs m.Hubs.length (st m.Hubs i) = true
  routes : ((List.range m.Routes.length).all (rok m)) = true
noncomputable def vb (m : S_api_Map) : Bool := @decide (valid m) (Classical.propDecidable _)
theorem vb_true {m : S_api_Map} : vb m = true ↔ valid m := by unfold vb; exact @decide_eq_true_iff _ (Classical.propDecidable _)
theorem vb_false {m : S_api_Map} (h : ¬ valid m) : vb m = false := by rw [Bool.eq_false_iff]; exact fun q => h (vb_true.1 q)
theorem rooted_in {m : S_api_Map} (hm : m.Hubs.length ≤ 1000) (n0 : Nat) (hn0 : m.Hubs.length < n0) : ∀ (f n k : Nat) (s : Int), k + f = m.Hubs.length → f + 1 < n →
    bindJ (S := Unit) (iter (ref42_rooted_L1 n0 m) n (s, (k : Int))) (fun _ => some false) = some (rt m.Hubs f s)
  | f, 0, _, _, _, h => by omega
  | f, n + 1, k, s, hk, hn => by
    have e : decide ((k : Int) ≤ (m.Hubs.length : Int)) = true := by simp; omega
    by_cases hs : s = -1
    · subst hs
      have h1 : ref42_rooted_L1 n0 m (-1, (k : Int)) = some (.stop (.stop true)) := by
        unfold ref42_rooted_L1; simp only [e, cond_true]; simp
      rw [iter_stop h1]
      cases f <;> simp [rt]
    · rcases at_cases m.Hubs s with ⟨h1, _⟩ | ⟨i, hi, h1, _⟩
      · have h2 : ref42_rooted_L1 n0 m (s, (k : Int)) = some (.stop (.stop false)) := by
          unfold ref42_rooted_L1; simp only [e, cond_true, hs, decide_false, cond_false]
          rw [hub_eq m s n0 (by omega) hn0, h1]; simp [obind]
        rw [iter_stop h2]
        cases f <;> simp [rt, hs, h1]
      · have h2 : ref42_rooted_L1 n0 m (s, (k : Int)) = some (.go (pa m.Hubs i, ((k + 1 : Nat) : Int))) := by
          unfold ref42_rooted_L1; simp only [e, cond_true, hs, decide_false, cond_false]
          rw [hub_eq m s n0 (by omega) hn0, h1]
          have e3 : decide ((i : Int) < 0) = false := by simp
          simp only [obind, Option.bind_some, e3, cond_false]
          rw [idx_get (List.getElem?_eq_getElem hi), pa_of (List.getElem?_eq_getElem hi), w64 (by omega) (by omega)]; simp
        rw [iter_go h2]
        cases f with
        | zero =>
          cases n with
          | zero => omega
          | succ n =>
            have h3 : ref42_rooted_L1 n0 m (pa m.Hubs i, ((k + 1 : Nat) : Int)) = some (.stop (.go ())) := by
              unfold ref42_rooted_L1
              have e3 : decide (((k + 1 : Nat) : Int) ≤ (m.Hubs.length : Int)) = false := by simp; omega
              simp only [e3, cond_false]
            rw [iter_stop h3]
            simp [rt, hs]
        | succ f =>
          rw [rooted_in hm n0 hn0 f n (k + 1) _ (by omega) (by omega)]
          have : ¬ ((i : Int) = -1) := by omega
          simp only [rt, hs, this, decide_false, Bool.false_or, ne_eq, not_false_eq_true, decide_true, Bool.true_and, h1, Int.toNat_natCast]
theorem rooted_eq {m : S_api_Map} (hm : m.Hubs.length ≤ 1000) (s : Int) (n : Nat) (hn : m.Hubs.length + 1 < n) : ref42_rooted n m s = some (rt m.Hubs m.Hubs.length s) :=
  rooted_in hm n (by omega) m.Hubs.length n 0 s (by omega) (by omega)
theorem rt_bad {l : List S_api_Hub} (hl : srt l) {i : Nat} (hi : i < l.length) (h : ¬ kn l (pa l i)) : ∀ f, rt l f (st l i) = false
  | 0 => by have := (hl i hi).1; simp [rt]; omega
  | f + 1 => by
    have h0 := (hl i hi).1
    have h1 : pa l i ≠ -1 := fun q => h (.inl q)
    have h2 : at_ l (pa l i) = -1 := Classical.byContradiction fun q => h (.inr q)
    have h3 : st l i ≠ -1 := by omega
    simp only [rt, at_st hl hi, Int.toNat_natCast, h3, decide_false, Bool.false_or]
    cases f <;> simp [rt, h1, h2]
def pp (l : List S_api_Hub) : List Int := (List.range l.length).map fun i => ps l (pa l i)
theorem pp_len (l : List S_api_Hub) : (pp l).length = l.length := by simp [pp]
theorem pp_par {l : List S_api_Hub} {i : Nat} (hi : i < l.length) : par (pp l) (i : Int) = ps l (pa l i) := by simp [par, pp, List.getD, hi]
theorem ps_range (l : List S_api_Hub) (s : Int) : -1 ≤ ps l s ∧ ps l s < l.length := by
  unfold ps; split
  · omega
  · rcases at_cases l s with ⟨h1, _⟩ | ⟨i, hi, h1, _⟩ <;> omega
theorem pp_ok (l : List S_api_Hub) : okp (pp l) := by
  intro x hx
  obtain ⟨i, hi, rfl⟩ := List.mem_map.1 hx
  rw [pp_len]; exact ps_range l _
theorem en_rt {l : List S_api_Hub} (hk : ∀ i, i < l.length → kn l (pa l i)) : ∀ (f : Nat) (s : Int), kn l s → en (pp l) f (ps l s) = rt l f s
  | f, s, hs => by
    by_cases e : s = -1
    · subst e
      have : ps l (-1) = -1 := by simp [ps]
      rw [this, en_neg (by omega)]
      cases f <;> simp [rt]
    · rcases at_cases l s with ⟨h1, _⟩ | ⟨i, hi, h1, _⟩
      · rcases hs with h | h
        · exact absurd h e
        · exact absurd h1 h
      · have h2 : ps l s = i := by simp [ps, e, h1]
        have h3 : at_ l s ≠ -1 := by omega
        rw [h2]
        cases f with
        | zero => simp [en, rt, e]
        | succ f =>
          rw [en_succ (by omega), pp_par hi, en_rt hk f _ (hk i hi)]
          have h4 : ¬ ((i : Int) = -1) := by omega
          simp only [rt, e, h4, decide_false, Bool.false_or, ne_eq, not_false_eq_true, decide_true, Bool.true_and, h1, Int.toNat_natCast]
theorem ps_st {l : List S_api_Hub} (hl : srt l) {i : Nat} (hi : i < l.length) : ps l (st l i) = i := by
  have := (hl i hi).1
  unfold ps; rw [if_neg (by omega), at_st hl hi]
theorem kn_st {l : List S_api_Hub} (hl : srt l) {i : Nat} (hi : i < l.length) : kn l (st l i) := .inr (by rw [at_st hl hi]; omega)
theorem wfp_rt {l : List S_api_Hub} (hl : srt l) (hk : ∀ i, i < l.length → kn l (pa l i)) : wfp (pp l) ↔ ∀ i, i < l.length → rt l l.length (st l i) = true := by
  unfold wfp
  rw [pp_len]
  constructor
  · rintro ⟨_, h⟩ i hi
    rw [← en_rt hk _ _ (kn_st hl hi), ps_st hl hi]; exact h i hi
  · intro h
    refine ⟨pp_ok l, fun v hv => ?_⟩
    rw [← ps_st hl hv, en_rt hk _ _ (kn_st hl hv)]; exact h v hv
def hok (l : List S_api_Hub) (i : Nat) : Bool := (decide (0 ≤ st l i) && decide (st l i < 64)) && !(decide (0 < i) && decide (st l i ≤ st l (i - 1)))
theorem hok_srt {l : List S_api_Hub} : ((List.range l.length).all (hok l)) = true ↔ srt l := by
  rw [List.all_eq_true]
  constructor
  · intro h i hi
    have := h i (by simpa using hi)
    simp only [hok, Bool.and_eq_true, decide_eq_true_eq, Bool.not_eq_true', Bool.and_eq_false_iff, decide_eq_false_iff_not] at this
    omega
  · intro h i hi
    have := h i (by simpa using hi)
    simp only [hok, Bool.and_eq_true, decide_eq_true_eq, Bool.not_eq_true', Bool.and_eq_false_iff, decide_eq_false_iff_not]
    omega
theorem rhubs_eq {m : S_api_Map} (hm : m.Hubs.length ≤ 1000) (n : Nat) (hn : m.Hubs.length < n) : iter (ref42_ValidMap_L1 m) n 0 = some (cond ((List.range m.Hubs.length).all (hok m.Hubs)) (.go ()) (.stop false)) := by
  have key : iter (ref42_ValidMap_L1 m) n 0 = some (foldL (S := Unit) (fun _ (k : Nat) => cond (hok m.Hubs k) (.go ()) (.stop (.stop false))) .go () (List.range m.Hubs.length)) := by
    refine iter_range m.Hubs.length (fun (i : Nat) (_ : Unit) => (i : Int)) (fun (_ : Unit) (k : Nat) => cond (hok m.Hubs k) (.go ()) (.stop (.stop false))) (.go : Unit → Lp Unit Bool) (fun _ _ => True) (fun i s _ hi => ⟨?_, fun _ _ => trivial⟩) (fun s _ => ?_) n () trivial (by omega)
    · unfold ref42_ValidMap_L1 ref42_site hok
      have e : decide ((i : Int) < (m.Hubs.length : Int)) = true := by simpa using hi
      simp only [e, cond_true]
      have hx := List.getElem?_eq_getElem hi
      have hw : IntKind.i64.wrap ((i : Int) + 1) = (i : Int) + 1 := w64 (by omega) (by omega)
      rw [idx_get hx, hw, st_of hx]
      simp only [obind, Option.bind_some]
      by_cases h0 : 0 < i
      · have hx1 := List.getElem?_eq_getElem (show i - 1 < m.Hubs.length by omega)
        have e1 : decide (0 < (i : Int)) = true := by simpa using h0
        rw [w64 (by omega) (by omega), show (i : Int) - 1 = ((i - 1 : Nat) : Int) by omega, idx_get hx1, st_of hx1, e1]
        simp only [h0, decide_true, cond_true, bindJ_go, Bool.true_and]
        cases (decide (0 ≤ st m.Hubs i) && decide (st m.Hubs i < 64)) <;> cases decide (st m.Hubs i ≤ st m.Hubs (i - 1)) <;> simp
      · have e1 : decide (0 < (i : Int)) = false := by simpa using h0
        rw [e1]
        simp only [h0, decide_false, cond_false, bindJ_go, Bool.false_and]
        cases (decide (0 ≤ st m.Hubs i) && decide (st m.Hubs i < 64)) <;> simp
    · unfold ref42_ValidMap_L1; simp
  rw [key, foldL_all (hok m.Hubs) (.stop false) _ (fun _ _ => rfl)]
theorem rrooted_eq {m : S_api_Map} (hm : m.Hubs.length ≤ 1000) (n : Nat) (hn : m.Hubs.length + 1 < n) : iter (ref42_ValidMap_L2 n m) n 0 = some (cond ((List.range m.Hubs.length).all fun i => rt m.Hubs m.Hubs.length (st m.Hubs i)) (.go ()) (.stop false)) := by
  have key : iter (ref42_ValidMap_L2 n m) n 0 = some (foldL (S := Unit) (fun _ (k : Nat) => cond (rt m.Hubs m.Hubs.length (st m.Hubs k)) (.go ()) (.stop (.stop false))) .go () (List.range m.Hubs.length)) := by
    refine iter_range m.Hubs.length (fun (i : Nat) (_ : Unit) => (i : Int)) (fun (_ : Unit) (k : Nat) => cond (rt m.Hubs m.Hubs.length (st m.Hubs k)) (.go ()) (.stop (.stop false))) (.go : Unit → Lp Unit Bool) (fun _ _ => True) (fun i s _ hi => ⟨?_, fun _ _ => trivial⟩) (fun s _ => ?_) n () trivial (by omega)
    · unfold ref42_ValidMap_L2
      have e : decide ((i : Int) < (m.Hubs.length : Int)) = true := by simpa using hi
      simp only [e, cond_true]
      have hx := List.getElem?_eq_getElem hi
      have hw : IntKind.i64.wrap ((i : Int) + 1) = (i : Int) + 1 := w64 (by omega) (by omega)
      rw [idx_get hx, hw, st_of hx, rooted_eq hm _ n hn]
      simp only [obind, Option.bind_some]
      cases rt m.Hubs m.Hubs.length (st m.Hubs i) <;> simp
    · unfold ref42_ValidMap_L2; simp
  rw [key, foldL_all (fun k => rt m.Hubs m.Hubs.length (st m.Hubs k)) (.stop false) _ (fun _ _ => rfl)]
theorem rvalid_eq {m : S_api_Map} (hf : few m) (n : Nat) (hn : 100 ≤ n) : ref42_ValidMap n m = some (vb m) := by
  have h70 := hf.1
  have h20 := hf.2.1
  unfold ref42_ValidMap
  rw [rhubs_eq (by omega) n (by omega)]
  by_cases hs : srt m.Hubs
  · rw [hok_srt.2 hs, cond_true, bindJ_go, rrooted_eq (by omega) n (by omega)]
    by_cases hr : ((List.range m.Hubs.length).all fun i => rt m.Hubs m.Hubs.length (st m.Hubs i)) = true
    · rw [hr, cond_true, bindJ_go, rroutes_eq hf n hn]
      have hr' : ∀ i, i < m.Hubs.length → rt m.Hubs m.Hubs.length (st m.Hubs i) = true := fun i hi => List.all_eq_true.1 hr i (by simpa using hi)
      have e : decide ((m.Routes.length : Int) ≤ 1000) = true := by simp; omega
      by_cases ho : ((List.range m.Routes.length).all (rok m)) = true
      · rw [ho, cond_true, bindJ_go, e, vb_true.2 ⟨hs, hr', ho⟩]
      · rw [Bool.eq_false_iff.2 ho, cond_false, bindJ_stop, vb_false fun q => ho q.routes]
    · rw [Bool.eq_false_iff.2 hr, cond_false, bindJ_stop, vb_false fun q => hr (List.all_eq_true.2 fun i hi => q.rooted i (by simpa using hi))]
  · rw [Bool.eq_false_iff.2 fun q => hs (hok_srt.1 q), cond_false, bindJ_stop, vb_false fun q => hs q.srt]
def hgo (l : List S_api_Hub) (r : List (Int × Int)) (i : Nat) : Bool := hok l i && (mget r (pa l i)).isSome
theorem hubs_eq {m : S_api_Map} (hm : m.Hubs.length ≤ 1000) (r : List (Int × Int)) (n : Nat) (hn : m.Hubs.length < n) :
    iter (topo_ValidMap_L1 m r) n ([], -1, 0) = some (foldL (S := List Int) (R := Lp (List Int) Bool) (fun p (i : Nat) => cond (hgo m.Hubs r i) (.go (p ++ [(mget r (pa m.Hubs i)).getD 0])) (.stop (.stop false))) .go [] (List.range m.Hubs.length)) := by
  refine iter_range m.Hubs.length (fun (i : Nat) (p : List Int) => (p, (if i = 0 then -1 else st m.Hubs (i - 1)), (i : Int))) (fun (p : List Int) (i : Nat) => cond (hgo m.Hubs r i) (.go (p ++ [(mget r (pa m.Hubs i)).getD 0])) (.stop (.stop false))) (.go : List Int → Lp (List Int) Bool) (fun i p => p.length = i ∧ (0 < i → 0 ≤ st m.Hubs (i - 1))) (fun i p hp hi => ⟨?_, ?_⟩) (fun s _ => ?_) n [] ⟨rfl, fun h => by omega⟩ hn
  · unfold topo_ValidMap_L1 topo_isSite
    have e : decide ((i : Int) < (m.Hubs.length : Int)) = true := by simpa using hi
    simp only [e, cond_true]
    have hx := List.getElem?_eq_getElem hi
    have hw : IntKind.i64.wrap ((i : Int) + 1) = (i : Int) + 1 := w64 (by omega) (by omega)
    rw [idx_get hx, hw, st_of hx, pa_of hx, need_pos (by simp; omega)]
    simp only [obind, Option.bind_some]
    have e2 : (((!(decide (0 ≤ st m.Hubs i) && decide (st m.Hubs i < 64))) || decide (st m.Hubs i ≤ (if i = 0 then -1 else st m.Hubs (i - 1)))) || (!((mget r (pa m.Hubs i)).isSome))) = !hgo m.Hubs r i := by
      unfold hgo hok
      rw [Bool.eq_iff_iff]
      by_cases h0 : i = 0
      · subst h0
        simp only [if_true, Nat.lt_irrefl, decide_false, Bool.false_and, Bool.not_false, Bool.and_true]
        cases (mget r (pa m.Hubs 0)).isSome <;> simp <;> omega
      · rw [if_neg h0]
        have : decide (0 < i) = true := by simp; omega
        rw [this]
        cases (mget r (pa m.Hubs i)).isSome <;> cases (decide (0 ≤ st m.Hubs i) && decide (st m.Hubs i < 64)) <;> cases decide (st m.Hubs i ≤ st m.Hubs (i - 1)) <;> simp
    rw [e2]
    cases hgo m.Hubs r i <;> simp
  · intro s' hs
    cases hc : hgo m.Hubs r i with
    | false => rw [hc] at hs; simp at hs
    | true =>
      rw [hc] at hs
      simp only [cond_true, Lp.go.injEq] at hs
      subst hs
      refine ⟨by simp [hp.1], fun _ => ?_⟩
      unfold hgo hok at hc
      simp only [Bool.and_eq_true, decide_eq_true_eq] at hc
      exact hc.1.1.1
  · unfold topo_ValidMap_L1; simp
theorem valid_eq {m : S_api_Map} (hf : few m) (n : Nat) (hn : 100 ≤ n) : topo_ValidMap n m = some (vb m) := by
  have h70 := hf.1
  have h20 := hf.2.1
  unfold topo_ValidMap
  rw [places_eq m n (by omega) (by omega)]
  simp only [obind, Option.bind_some]
  rw [hubs_eq (by omega) _ n (by omega)]
  have stop : ∀ i, i < m.Hubs.length → hgo m.Hubs (pl m.Hubs) i = false → foldL (S := List Int) (R := Lp (List Int) Bool) (fun p (i : Nat) => cond (hgo m.Hubs (pl m.Hubs) i) (.go (p ++ [(mget (pl m.Hubs) (pa m.Hubs i)).getD 0])) (.stop (.stop false))) .go [] (List.range m.Hubs.length) = .stop false := fun i hi hb =>
    by
      refine foldL_stop (Lp.stop false : Lp (List Int) Bool) (List.range m.Hubs.length) _ (fun p x _ => ?_) ⟨i, List.mem_range.2 hi, fun p => by rw [hb]; rfl⟩
      cases hgo m.Hubs (pl m.Hubs) x
      · exact .inl rfl
      · exact .inr ⟨_, rfl⟩
  by_cases hs : srt m.Hubs
  · have hg : ∀ i, i < m.Hubs.length → hgo m.Hubs (pl m.Hubs) i = decide (kn m.Hubs (pa m.Hubs i)) := fun i hi => by
      unfold hgo
      rw [List.all_eq_true.1 (hok_srt.2 hs) i (by simpa using hi), pl_get hs]
      by_cases h : kn m.Hubs (pa m.Hubs i) <;> simp [h]
    by_cases hk : ∀ i, i < m.Hubs.length → kn m.Hubs (pa m.Hubs i)
    · rw [foldL_gom (fun p i => p ++ [ps m.Hubs (pa m.Hubs i)]) _ _ (fun p i hi => by
        have hi' : i < m.Hubs.length := by simpa using hi
        simp only [hg i hi', pl_get hs, hk i hi', decide_true, cond_true, if_true, Option.getD_some]), foldl_app]
      simp only [bindJ_go, List.nil_append]
      rw [show (List.range m.Hubs.length).map (fun i => ps m.Hubs (pa m.Hubs i)) = pp m.Hubs from rfl, Depths_eq n (by rw [pp_len]; omega)]
      simp only [Option.bind_some]
      have e : decide (1000 < (m.Routes.length : Int)) = false := by simp; omega
      rw [e, routes_eq hf hs n hn]
      by_cases hw : wfp (pp m.Hubs)
      · have hr := (wfp_rt hs hk).1 hw
        rw [if_pos ⟨by rw [pp_len]; omega, hw⟩]
        by_cases ho : ((List.range m.Routes.length).all (rok m)) = true
        · rw [ho, vb_true.2 ⟨hs, hr, ho⟩]; simp
        · rw [Bool.eq_false_iff.2 ho, vb_false fun q => ho q.routes]; simp
      · rw [if_neg fun q => hw q.2, vb_false fun q => hw ((wfp_rt hs hk).2 q.rooted)]; simp
    · obtain ⟨i, hi, hb⟩ : ∃ i, i < m.Hubs.length ∧ ¬ kn m.Hubs (pa m.Hubs i) := Classical.byContradiction fun q => hk fun i hi => Classical.byContradiction fun c => q ⟨i, hi, c⟩
      rw [stop i hi (by rw [hg i hi]; simp [hb]), bindJ_stop, vb_false fun q => by have := q.rooted i hi; rw [rt_bad hs hi hb] at this; simp at this]
  · obtain ⟨i, hi, hb⟩ : ∃ i, i < m.Hubs.length ∧ hok m.Hubs i = false := Classical.byContradiction fun q => hs (hok_srt.1 (List.all_eq_true.2 fun i hi => Classical.byContradiction fun c => q ⟨i, by simpa using hi, Bool.eq_false_iff.2 c⟩))
    rw [stop i hi (by unfold hgo; rw [hb]; rfl), bindJ_stop, vb_false fun q => hs q.srt]
end Go.Proofs.Ytigiikkenamneaa
