/-
  What a right map is: the program and the specification say the same.
-/
import Derived.Test.YtigiikkenamneaaPf
import Derived.Test.YtigiikkenamneaaPt
namespace Go.Proofs.Ytigiikkenamneaa
open Go.Abs
set_option linter.unusedSimpArgs false
set_option linter.unusedVariables false
/-! countries -/
def ctr (s : List UInt8) : Bool := match s with | [a, b] => decide (97 ≤ a.toNat) && decide (a.toNat ≤ 122) && decide (97 ≤ b.toNat) && decide (b.toNat ≤ 122) | _ => false
theorem rcountry_eq (s : List UInt8) : ref42_country s = some (ctr s) := by
  unfold ref42_country ctr
  match s with
  | [] => simp
  | [a] => simp
  | [a, b] =>
    have e2 : decide ((([a, b] : List UInt8).length : Int) = 2) = true := rfl
    have hA : decide (97 ≤ (a.toNat : Int)) = decide (97 ≤ a.toNat) := decide_eq_decide.2 (by omega)
    have hB : decide ((a.toNat : Int) ≤ 122) = decide (a.toNat ≤ 122) := decide_eq_decide.2 (by omega)
    have hC : decide (97 ≤ (b.toNat : Int)) = decide (97 ≤ b.toNat) := decide_eq_decide.2 (by omega)
    have hD : decide ((b.toNat : Int) ≤ 122) = decide (b.toNat ≤ 122) := decide_eq_decide.2 (by omega)
    have i0 : ∀ {β : Type} (k : UInt8 → Option β), idx [a, b] 0 k = k a := fun k => rfl
    have i1 : ∀ {β : Type} (k : UInt8 → Option β), idx [a, b] 1 k = k b := fun k => rfl
    simp only [e2, cond_true, i0, i1, hA, hB, hC, hD]
    cases decide (97 ≤ a.toNat) <;> cases decide (a.toNat ≤ 122) <;> cases decide (97 ≤ b.toNat) <;> cases decide (b.toNat ≤ 122) <;> rfl
  | a :: b :: c :: r =>
    have : decide ((((a :: b :: c :: r).length : Nat) : Int) = 2) = false := by simp; omega
    simp only [this, cond_false, bindJ_go]
theorem country_eq (s : List UInt8) : topo_isCountry s = some (decide (s = []) || ctr s) := by
  unfold topo_isCountry ctr
  match s with
  | [] => simp
  | [a] => simp
  | [a, b] =>
    have e2 : decide ((([a, b] : List UInt8).length : Int) = 2) = true := rfl
    have hA : decide (97 ≤ (min (a.toNat : Int) (b.toNat : Int))) = (decide (97 ≤ a.toNat) && decide (97 ≤ b.toNat)) := by rw [← Bool.decide_and]; exact decide_eq_decide.2 (by omega)
    have hB : decide ((max (a.toNat : Int) (b.toNat : Int)) ≤ 122) = (decide (a.toNat ≤ 122) && decide (b.toNat ≤ 122)) := by rw [← Bool.decide_and]; exact decide_eq_decide.2 (by omega)
    have i0 : ∀ {β : Type} (k : UInt8 → Option β), idx [a, b] 0 k = k a := fun k => rfl
    have i1 : ∀ {β : Type} (k : UInt8 → Option β), idx [a, b] 1 k = k b := fun k => rfl
    have e0 : decide (([a, b] : List UInt8) = []) = false := by simp
    simp only [e2, e0, cond_true, cond_false, i0, i1, hA, hB]
    cases decide (97 ≤ a.toNat) <;> cases decide (a.toNat ≤ 122) <;> cases decide (97 ≤ b.toNat) <;> cases decide (b.toNat ≤ 122) <;> rfl
  | a :: b :: c :: r =>
    have : decide ((((a :: b :: c :: r).length : Nat) : Int) = 2) = false := by simp; omega
    have e0 : decide (a :: b :: c :: r = []) = false := by simp
    simp only [this, e0, cond_false, bindJ_go]; rfl
/-! the routes -/
def sok (l : List S_api_Hub) (ss : List Int) : Bool := (List.range ss.length).all fun k => decide (at_ l (ss.getD k 0) ≠ -1) && !decide (ss.getD k 0 ∈ ss.take k)
def cy (m : S_api_Map) (i : Nat) : List UInt8 := ((m.Routes[i]?).map (·.Country)).getD []
def rs (m : S_api_Map) (i : Nat) : List Int := ((m.Routes[i]?).map (·.Sites)).getD []
def rok (m : S_api_Map) (i : Nat) : Bool := (decide (cy m i = []) || ctr (cy m i)) && (!(decide (0 < i) && (strLt (cy m i) (cy m (i - 1)) || decide (cy m i = cy m (i - 1)))) && sok m.Hubs (rs m i))
theorem getD_of {l : List Int} {i : Nat} {x : Int} (h : l[i]? = some x) : l.getD i 0 = x := by simp [List.getD, h]
theorem sites_eq {R : Type} {l : List S_api_Hub} (hl : srt l) {x : S_api_Route} (hx : x.Sites.length ≤ 1000) (n : Nat) (hn : x.Sites.length < n) :
    iter (topo_ValidMap_L3 n (pl l) x) n 0 = some (cond (sok l x.Sites) (.go ()) (.stop (.stop (.stop false)))) := by
  have key : iter (topo_ValidMap_L3 n (pl l) x) n 0 = some (foldL (S := Unit) (fun _ (k : Nat) => cond (decide (at_ l (x.Sites.getD k 0) ≠ -1) && !decide (x.Sites.getD k 0 ∈ x.Sites.take k)) (.go ()) (.stop (.stop (.stop (.stop false))))) .go () (List.range x.Sites.length)) := by
    refine iter_range x.Sites.length (fun (i : Nat) (_ : Unit) => (i : Int)) (fun (_ : Unit) (k : Nat) => cond (decide (at_ l (x.Sites.getD k 0) ≠ -1) && !decide (x.Sites.getD k 0 ∈ x.Sites.take k)) (.go ()) (.stop (.stop (.stop (.stop false))))) (.go : Unit → Lp Unit (Lp Int (Lp Unit Bool))) (fun _ _ => True) (fun i s _ hi => ⟨?_, fun _ _ => trivial⟩) (fun s _ => ?_) n () trivial hn
    · unfold topo_ValidMap_L3
      have e : decide ((i : Int) < (x.Sites.length : Int)) = true := by simpa using hi
      simp only [e, cond_true]
      have hx' := List.getElem?_eq_getElem hi
      rw [idx_get hx', getD_of hx', pl_get hl]
      generalize x.Sites[i] = v
      have e2 : ((!((if kn l v then some (ps l v) else none).isSome)) || decide (v < 0)) = !decide (at_ l v ≠ -1) := by
        unfold kn
        by_cases h1 : v = -1
        · have : at_ l v = -1 := by
            rcases at_cases l v with ⟨h, _⟩ | ⟨j, hj, _, h⟩
            · exact h
            · have := (hl j hj).1; omega
          simp [h1] at *; exact this
        · by_cases h2 : at_ l v = -1
          · simp [h1, h2]
          · have : ¬ v < 0 := by
              rcases at_cases l v with ⟨h, _⟩ | ⟨j, hj, _, h⟩
              · exact absurd h h2
              · have := (hl j hj).1; omega
            simp [h1, h2, this]
      rw [e2]
      by_cases h2 : at_ l v = -1
      · simp [h2]
      · simp only [h2, ne_eq, not_false_eq_true, decide_true, Bool.not_true, cond_false]
        rw [need_pos (by omega), show ((i : Int)).toNat = i by omega, contains_eq _ _ n (by simp; omega) (by simp; omega)]
        simp only [obind, Option.bind_some, bindJ_go]
        rw [w64 (by omega) (by omega)]
        cases decide (v ∈ x.Sites.take i) <;> simp
    · unfold topo_ValidMap_L3; simp
  rw [key, foldL_all (fun k => decide (at_ l (x.Sites.getD k 0) ≠ -1) && !decide (x.Sites.getD k 0 ∈ x.Sites.take k)) (.stop (.stop (.stop false))) _ (fun _ _ => rfl)]
  rfl
theorem getD_lt {l : List Int} {i : Nat} (h : i < l.length) : l[i] = l.getD i 0 := (getD_of (List.getElem?_eq_getElem h)).symm
theorem twice_eq {R : Type} {x : S_api_Route} {k : Nat} (hk : k < x.Sites.length) (hx : x.Sites.length ≤ 1000) (n : Nat) (hn : x.Sites.length < n) :
    iter (ref42_ValidMap_L5 x k) n 0 = some (cond (decide (x.Sites.getD k 0 ∈ x.Sites.take k)) (.stop (.stop (.stop (.stop (.stop false))))) (.go ())) := by
  have key : iter (ref42_ValidMap_L5 x k) n 0 = some (foldL (S := Unit) (fun _ (j : Nat) => cond (!decide (x.Sites.getD j 0 = x.Sites.getD k 0)) (.go ()) (.stop (.stop (.stop (.stop (.stop (.stop false))))))) .go () (List.range k)) := by
    refine iter_range k (fun (i : Nat) (_ : Unit) => (i : Int)) (fun (_ : Unit) (j : Nat) => cond (!decide (x.Sites.getD j 0 = x.Sites.getD k 0)) (.go ()) (.stop (.stop (.stop (.stop (.stop (.stop false))))))) (.go : Unit → Lp Unit (Lp Int (Lp Unit (Lp Int (Lp Unit Bool))))) (fun _ _ => True) (fun i s _ hi => ⟨?_, fun _ _ => trivial⟩) (fun s _ => ?_) n () trivial (by omega)
    · unfold ref42_ValidMap_L5
      have e : decide ((i : Int) < (k : Int)) = true := by simpa using hi
      simp only [e, cond_true]
      have h1 := List.getElem?_eq_getElem (show i < x.Sites.length by omega)
      rw [idx_get h1, idx_get (List.getElem?_eq_getElem hk), getD_of h1, getD_of (List.getElem?_eq_getElem hk), w64 (by omega) (by omega)]
      cases decide (x.Sites[i]'(by omega) = x.Sites[k]) <;> simp
    · unfold ref42_ValidMap_L5; simp
  rw [key, foldL_all (fun j => !decide (x.Sites.getD j 0 = x.Sites.getD k 0)) (.stop (.stop (.stop (.stop (.stop false))))) _ (fun _ _ => rfl)]
  by_cases hm : x.Sites.getD k 0 ∈ x.Sites.take k
  · have : ((List.range k).all fun j => !decide (x.Sites.getD j 0 = x.Sites.getD k 0)) = false := by
      rw [Bool.eq_false_iff]; intro hh
      obtain ⟨j, hj, e⟩ := List.getElem_of_mem hm
      simp at hj
      have := List.all_eq_true.1 hh j (by simp; omega)
      rw [List.getElem_take, getD_lt (by omega)] at e
      simp at this
      simp only [List.getD] at e
      exact this e
    simp only [this, hm, decide_true, cond_true, cond_false]
  · have : ((List.range k).all fun j => !decide (x.Sites.getD j 0 = x.Sites.getD k 0)) = true := by
      rw [List.all_eq_true]; intro j hj
      have hj' : j < k := by simpa using hj
      have : x.Sites.getD j 0 ≠ x.Sites.getD k 0 := fun e => hm (by
        rw [← e, ← getD_lt (by omega)]
        exact List.mem_take_iff_getElem.2 ⟨j, by omega, rfl⟩)
      simp only [this, decide_false, Bool.not_false]
    simp only [this, hm, decide_false, cond_true, cond_false]
theorem rsites_eq {m : S_api_Map} {x : S_api_Route} (hm : m.Hubs.length ≤ 1000) (hx : x.Sites.length ≤ 1000) (n : Nat) (hn : x.Sites.length < n) (hn2 : m.Hubs.length < n) :
    iter (ref42_ValidMap_L4 n m x) n 0 = some (cond (sok m.Hubs x.Sites) (.go ()) (.stop (.stop (.stop false)))) := by
  have key : iter (ref42_ValidMap_L4 n m x) n 0 = some (foldL (S := Unit) (fun _ (k : Nat) => cond (decide (at_ m.Hubs (x.Sites.getD k 0) ≠ -1) && !decide (x.Sites.getD k 0 ∈ x.Sites.take k)) (.go ()) (.stop (.stop (.stop (.stop false))))) .go () (List.range x.Sites.length)) := by
    refine iter_range x.Sites.length (fun (i : Nat) (_ : Unit) => (i : Int)) (fun (_ : Unit) (k : Nat) => cond (decide (at_ m.Hubs (x.Sites.getD k 0) ≠ -1) && !decide (x.Sites.getD k 0 ∈ x.Sites.take k)) (.go ()) (.stop (.stop (.stop (.stop false))))) (.go : Unit → Lp Unit (Lp Int (Lp Unit Bool))) (fun _ _ => True) (fun i s _ hi => ⟨?_, fun _ _ => trivial⟩) (fun s _ => ?_) n () trivial hn
    · unfold ref42_ValidMap_L4
      have e : decide ((i : Int) < (x.Sites.length : Int)) = true := by simpa using hi
      simp only [e, cond_true]
      have hx' := List.getElem?_eq_getElem hi
      rw [idx_get hx', twice_eq (R := Unit) hi hx n hn, getD_of hx', hub_eq m _ n (by omega) hn2, w64 (by omega) (by omega)]
      simp only [obind, Option.bind_some]
      have e2 : decide (at_ m.Hubs x.Sites[i] < 0) = !decide (at_ m.Hubs x.Sites[i] ≠ -1) := by
        rcases at_cases m.Hubs x.Sites[i] with ⟨h, _⟩ | ⟨j, _, h, _⟩ <;> simp [h]
      rw [e2]
      cases decide (at_ m.Hubs x.Sites[i] ≠ -1) <;> cases decide (x.Sites[i] ∈ x.Sites.take i) <;> simp
    · unfold ref42_ValidMap_L4; simp
  rw [key, foldL_all (fun k => decide (at_ m.Hubs (x.Sites.getD k 0) ≠ -1) && !decide (x.Sites.getD k 0 ∈ x.Sites.take k)) (.stop (.stop (.stop false))) _ (fun _ _ => rfl)]
  rfl
/-- the bounds within which the laws ask -/
def few (m : S_api_Map) : Prop := m.Hubs.length ≤ 70 ∧ m.Routes.length ≤ 20 ∧ ∀ r ∈ m.Routes, r.Sites.length ≤ 70
theorem cy_of {m : S_api_Map} {i : Nat} {x : S_api_Route} (h : m.Routes[i]? = some x) : cy m i = x.Country := by simp [cy, h]
theorem rs_of {m : S_api_Map} {i : Nat} {x : S_api_Route} (h : m.Routes[i]? = some x) : rs m i = x.Sites := by simp [rs, h]
theorem routes_eq {m : S_api_Map} (hf : few m) (hl : srt m.Hubs) (n : Nat) (hn : 100 ≤ n) :
    iter (topo_ValidMap_L2 n m (pl m.Hubs)) n 0 = some (cond ((List.range m.Routes.length).all (rok m)) (.go ()) (.stop false)) := by
  have h70 := hf.1
  have h20 := hf.2.1
  have key : iter (topo_ValidMap_L2 n m (pl m.Hubs)) n 0 = some (foldL (S := Unit) (fun _ (k : Nat) => cond (rok m k) (.go ()) (.stop (.stop false))) .go () (List.range m.Routes.length)) := by
    refine iter_range m.Routes.length (fun (i : Nat) (_ : Unit) => (i : Int)) (fun (_ : Unit) (k : Nat) => cond (rok m k) (.go ()) (.stop (.stop false))) (.go : Unit → Lp Unit Bool) (fun _ _ => True) (fun i s _ hi => ⟨?_, fun _ _ => trivial⟩) (fun s _ => ?_) n () trivial (by omega)
    · unfold topo_ValidMap_L2
      have e : decide ((i : Int) < (m.Routes.length : Int)) = true := by simpa using hi
      simp only [e, cond_true]
      have hx := List.getElem?_eq_getElem hi
      have hs := hf.2.2 _ (List.getElem_mem hi)
      rw [idx_get hx, country_eq, sites_eq (R := Unit) hl (by omega) n (by omega)]
      unfold rok
      rw [cy_of hx, rs_of hx]
      have hw : IntKind.i64.wrap ((i : Int) + 1) = (i : Int) + 1 := w64 (by omega) (by omega)
      rw [hw]
      simp only [obind, Option.bind_some]
      by_cases h0 : 0 < i
      · have hx1 := List.getElem?_eq_getElem (show i - 1 < m.Routes.length by omega)
        have e1 : decide (0 < (i : Int)) = true := by simpa using h0
        rw [w64 (by omega) (by omega), show (i : Int) - 1 = ((i - 1 : Nat) : Int) by omega, idx_get hx1, cy_of hx1, e1]
        simp only [h0, decide_true, cond_true, bindJ_go, Bool.true_and]
        cases (decide (m.Routes[i].Country = []) || ctr m.Routes[i].Country) <;> cases (strLt m.Routes[i].Country (m.Routes[i - 1]'(by omega)).Country || decide (m.Routes[i].Country = (m.Routes[i - 1]'(by omega)).Country)) <;> cases sok m.Hubs m.Routes[i].Sites <;> simp
      · have e1 : decide (0 < (i : Int)) = false := by simpa using h0
        rw [e1]
        simp only [h0, decide_false, cond_false, bindJ_go, Bool.false_and]
        cases (decide (m.Routes[i].Country = []) || ctr m.Routes[i].Country) <;> cases sok m.Hubs m.Routes[i].Sites <;> simp
    · unfold topo_ValidMap_L2; simp
  rw [key, foldL_all (rok m) (.stop false) _ (fun _ _ => rfl)]
theorem rroutes_eq {m : S_api_Map} (hf : few m) (n : Nat) (hn : 100 ≤ n) :
    iter (ref42_ValidMap_L3 n m) n 0 = some (cond ((List.range m.Routes.length).all (rok m)) (.go ()) (.stop false)) := by
  have h70 := hf.1
  have h20 := hf.2.1
  have key : iter (ref42_ValidMap_L3 n m) n 0 = some (foldL (S := Unit) (fun _ (k : Nat) => cond (rok m k) (.go ()) (.stop (.stop false))) .go () (List.range m.Routes.length)) := by
    refine iter_range m.Routes.length (fun (i : Nat) (_ : Unit) => (i : Int)) (fun (_ : Unit) (k : Nat) => cond (rok m k) (.go ()) (.stop (.stop false))) (.go : Unit → Lp Unit Bool) (fun _ _ => True) (fun i s _ hi => ⟨?_, fun _ _ => trivial⟩) (fun s _ => ?_) n () trivial (by omega)
    · unfold ref42_ValidMap_L3
      have e : decide ((i : Int) < (m.Routes.length : Int)) = true := by simpa using hi
      simp only [e, cond_true]
      have hx := List.getElem?_eq_getElem hi
      have hs := hf.2.2 _ (List.getElem_mem hi)
      rw [idx_get hx, rcountry_eq, rsites_eq (by omega) (by omega) n (by omega) (by omega)]
      unfold rok
      rw [cy_of hx, rs_of hx]
      have hw : IntKind.i64.wrap ((i : Int) + 1) = (i : Int) + 1 := w64 (by omega) (by omega)
      rw [hw]
      simp only [obind, Option.bind_some]
      by_cases h0 : 0 < i
      · have hx1 := List.getElem?_eq_getElem (show i - 1 < m.Routes.length by omega)
        have e1 : decide (0 < (i : Int)) = true := by simpa using h0
        rw [w64 (by omega) (by omega), show (i : Int) - 1 = ((i - 1 : Nat) : Int) by omega, idx_get hx1, cy_of hx1, e1]
        simp only [h0, decide_true, cond_true, bindJ_go, Bool.true_and]
        cases decide (m.Routes[i].Country = []) <;> cases ctr m.Routes[i].Country <;> cases (strLt m.Routes[i].Country (m.Routes[i - 1]'(by omega)).Country || decide (m.Routes[i].Country = (m.Routes[i - 1]'(by omega)).Country)) <;> cases sok m.Hubs m.Routes[i].Sites <;> simp
      · have e1 : decide (0 < (i : Int)) = false := by simpa using h0
        rw [e1]
        simp only [h0, decide_false, cond_false, bindJ_go, Bool.false_and]
        cases decide (m.Routes[i].Country = []) <;> cases ctr m.Routes[i].Country <;> cases sok m.Hubs m.Routes[i].Sites <;> simp
    · unfold ref42_ValidMap_L3; simp
  rw [key, foldL_all (rok m) (.stop false) _ (fun _ _ => rfl)]
end Go.Proofs.Ytigiikkenamneaa
