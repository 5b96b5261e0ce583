/-
  Texts that stand side by side: Pa, AbsEnd, AbsEnd2, AbsEnd3, AbsEnd4, AbsEnd5, Opn, Pi, Pj, Pl, Pm, Pn, Pg, Pu, Sane.
-/
import Derived.Test.YtgelifcckhemiaaM10
import Derived.Test.YtgelifcckhemiaaG4b
import Derived.Test.YtgelifcckhemiaaM0
import Derived.WalkKit
import Derived.ProofKit
import Derived.OpenShut
import Derived.ShutString
import Derived.ChangeOld
import Derived.Below
import Derived.SliceStrings
import Derived.Test.YtgelifcckhemiaaM1
import Derived.ChangeArms
import Derived.Test.YtgelifcckhemiaaFa
import Derived.Test.YtgelifcckhemiaaFe
namespace Go.Proofs.Ytgelifcckhemiaa
open Go.Abs
set_option linter.unusedSimpArgs false
set_option linter.unusedVariables false
theorem mget_put {V : Type} (l : List (Int × V)) (k : Int) (v : V) (k' : Int) : mget (mput l k v) k' = if k' = k then some v else mget l k' := by
  induction l with
  | nil => simp only [mput, mget]; by_cases h : k = k' <;> simp [h, eq_comm]
  | cons p r ih =>
    simp only [mput]
    by_cases h : p.1 = k
    · simp only [h, if_true, mget]
      by_cases e : k = k'
      · simp [e]
      · rw [if_neg e, if_neg e, if_neg (fun q => e q.symm)]
    · simp only [h, if_false, mget, ih]
      by_cases e : p.1 = k'
      · simp only [e, if_true]; rw [if_neg (fun q => h (e.trans q))]
      · simp only [e, if_false]
def rng (n : S_api_Net) (l : List Int) (i : Nat) : Prop := 0 ≤ g l i ∧ g l i < n.Arcs.length
def ar (n : S_api_Net) (l : List Int) (i : Nat) : S_api_Arc := (n.Arcs[(g l i).toNat]?).getD ⟨0, 0, 0, 0⟩
theorem ar_of {n : S_api_Net} {l : List Int} {i : Nat} (h : rng n l i) : n.Arcs[(g l i).toNat]? = some (ar n l i) := by
  have : (g l i).toNat < n.Arcs.length := by have := h.1; have := h.2; omega
  unfold ar; rw [List.getElem?_eq_getElem this]; rfl
theorem idx_ar {n : S_api_Net} {l : List Int} {i : Nat} {β : Type} (h : rng n l i) (k : S_api_Arc → Option β) : idx n.Arcs (g l i) k = k (ar n l i) := by
  have := idx_get (ar_of h) k
  rwa [show (((g l i).toNat : Nat) : Int) = g l i by have := h.1; omega] at this
theorem ar_ok {n : S_api_Net} (hn : okNet n) {l : List Int} {i : Nat} (h : rng n l i) : okArc n (ar n l i) := hn.2.2.2 _ (List.mem_of_getElem? (ar_of h))
def sm (n : S_api_Net) (l : List Int) : Nat → Int
  | 0 => 0
  | k + 1 => sm n l k + (ar n l k).Cost
theorem sm_bd {n : S_api_Net} (hn : okNet n) {l : List Int} : ∀ k, (∀ i, i < k → rng n l i) → -(1048576 * (k : Int)) ≤ sm n l k ∧ sm n l k ≤ 1048576 * (k : Int)
  | 0, _ => by simp [sm]
  | k + 1, h => by
    have h1 := sm_bd hn k (fun i hi => h i (by omega))
    obtain ⟨_, _, _, _, c0, c1⟩ := ar_ok hn (h k (by omega))
    simp only [sm]; omega
/-- what the first loop of isCycle asks of the first k -/
def Pk1 (n : S_api_Net) (l : List Int) (can : List Bool) (k : Nat) : Prop := ∀ i, i < k → rng n l i ∧ M can (ar n l i).From ∧ ∀ j, j < i → (ar n l j).From ≠ (ar n l i).From
theorem iscyc1 {n : S_api_Net} (hn : okNet n) {l : List Int} (hl : l.length ≤ 1000) {can : List Bool} (hc : (can.length : Int) = n.Nodes) (m : Nat) (hm : 3000 ≤ m) :
    (Pk1 n l can l.length ∧ iter (graph_isCycle_L1 n l can) m (0, 0, []) = some (.go (sm n l l.length))) ∨ (¬ Pk1 n l can l.length ∧ iter (graph_isCycle_L1 n l can) m (0, 0, []) = some (.stop false)) := by
  have key := iter_inv (step := graph_isCycle_L1 n l can) (fun s => ∃ i : Nat, s.2.1 = (i : Int) ∧ i ≤ l.length ∧ Pk1 n l can i ∧ s.1 = sm n l i ∧ ∀ w, (mget s.2.2 w).getD false = true ↔ ∃ j, j < i ∧ (ar n l j).From = w) (fun s => l.length - s.2.1.toNat)
    (fun r => (Pk1 n l can l.length ∧ r = .go (sm n l l.length)) ∨ (¬ Pk1 n l can l.length ∧ r = .stop false)) (by
    rintro ⟨sum, i', x⟩ ⟨i, he, hi, hp, hsum, hx⟩
    simp only at he hsum hx
    subst he hsum
    unfold graph_isCycle_L1
    by_cases hlt : i < l.length
    · have e : decide ((i : Int) < (l.length : Int)) = true := by simpa using hlt
      simp only [e, cond_true]
      rw [idx_get (g_get hlt)]
      have bad : ¬ (rng n l i ∧ M can (ar n l i).From ∧ ∀ j, j < i → (ar n l j).From ≠ (ar n l i).From) → ¬ Pk1 n l can l.length := fun h hP => h (hP i hlt)
      by_cases hr : rng n l i
      · have er : (decide (g l i < 0) || decide ((n.Arcs.length : Int) ≤ g l i)) = false := by have := hr.1; have := hr.2; simp; omega
        obtain ⟨f0, f1, t0, t1, c0, c1⟩ := ar_ok hn hr
        simp only [er, cond_false, idx_ar hr, bindJ_go]
        cases hmg : (mget x (ar n l i).From).getD false with
        | true =>
          right
          simp only [cond_true, bindJ_go]
          obtain ⟨j, hj, ej⟩ := (hx _).1 hmg
          exact ⟨_, rfl, .inr ⟨bad (fun h => h.2.2 j hj ej), rfl⟩⟩
        | false =>
          simp only [cond_false]
          rw [idx_Mi f0 (by omega)]
          by_cases hM : M can (ar n l i).From
          · left
            have hb := sm_bd hn i (fun j hj => (hp j hj).1)
            simp only [hM, decide_true, Bool.not_true, bindJ_go, cond_false]
            rw [w64 (by omega) (by omega), w64 (by omega) (by omega)]
            refine ⟨_, rfl, ⟨i + 1, by simp, by omega, fun j hj => ?_, rfl, fun w => ?_⟩, by simp only; omega⟩
            · by_cases ej : j = i
              · subst ej
                refine ⟨hr, hM, fun j' hj' ee => ?_⟩
                have := (hx (ar n l j).From).2 ⟨j', hj', ee⟩
                rw [hmg] at this; simp at this
              · exact hp j (by omega)
            · rw [mget_put]
              by_cases ew : w = (ar n l i).From
              · rw [if_pos ew]; simp only [Option.getD_some, true_iff]; exact ⟨i, by omega, ew.symm⟩
              · rw [if_neg ew, hx w]
                constructor
                · rintro ⟨j, hj, ej⟩; exact ⟨j, by omega, ej⟩
                · rintro ⟨j, hj, ej⟩
                  by_cases eji : j = i
                  · subst eji; exact absurd ej.symm ew
                  · exact ⟨j, by omega, ej⟩
          · right
            simp only [hM, decide_false, Bool.not_false, bindJ_go, cond_true]
            exact ⟨_, rfl, .inr ⟨bad (fun h => hM h.2.1), rfl⟩⟩
      · right
        have er : (decide (g l i < 0) || decide ((n.Arcs.length : Int) ≤ g l i)) = true := by unfold rng at hr; simp; omega
        simp only [er, cond_true, bindJ_go]
        exact ⟨_, rfl, .inr ⟨bad (fun h => hr h.1), rfl⟩⟩
    · right
      have e : decide ((i : Int) < (l.length : Int)) = false := by simpa using hlt
      simp only [e, cond_false]
      have : i = l.length := by omega
      subst this
      exact ⟨_, rfl, .inl ⟨hp, rfl⟩⟩) m (0, 0, []) ⟨0, rfl, Nat.zero_le _, fun i hi => by omega, rfl, fun w => by simp [mget]⟩ (by simp; omega)
  obtain ⟨r, hr, ⟨h1, rfl⟩ | ⟨h1, rfl⟩⟩ := key
  · exact .inl ⟨h1, hr⟩
  · exact .inr ⟨h1, hr⟩
def Lk (n : S_api_Net) (l : List Int) : Prop := ∀ i, i < l.length → (ar n l i).To = (ar n l ((i + 1) % l.length)).From
theorem tmod_nat (a b : Nat) : ((a : Int)).tmod (b : Int) = ((a % b : Nat) : Int) := by
  rw [Int.tmod_eq_emod_of_nonneg (by omega)]; simp
theorem iscyc2 {n : S_api_Net} {l : List Int} (hl : l.length ≤ 1000) (hr : ∀ i, i < l.length → rng n l i) (m : Nat) (hm : 3000 ≤ m) :
    (Lk n l ∧ iter (graph_isCycle_L2 n l) m 0 = some (.go ())) ∨ (¬ Lk n l ∧ iter (graph_isCycle_L2 n l) m 0 = some (.stop false)) := by
  have hfd := iter_find2 (step := graph_isCycle_L2 n l) (fun i => (i : Int)) (List.range l.length) (fun i => decide ((ar n l i).To ≠ (ar n l ((i + 1) % l.length)).From)) (fun _ => (.stop false : Lp Unit Bool)) (.go ()) (fun i x hx hi => by
    have hi : i < l.length := by simpa using hi
    have : x = i := by rw [List.getElem?_range hi] at hx; cases hx; rfl
    subst this
    unfold graph_isCycle_L2
    have e : decide ((x : Int) < (l.length : Int)) = true := by simpa using hi
    simp only [e, cond_true]
    have hmod : (x + 1) % l.length < l.length := Nat.mod_lt _ (by omega)
    rw [idx_get (g_get hi), idx_ar (hr x hi), need_pos (by omega), w64 (by omega) (by omega), show (x : Int) + 1 = ((x + 1 : Nat) : Int) by simp, tmod_nat, idx_get (g_get hmod), idx_ar (hr _ hmod)]
    cases decide ((ar n l x).To ≠ (ar n l ((x + 1) % l.length)).From) <;> rfl) (by unfold graph_isCycle_L2; simp) m (by simp; omega)
  have hfd' : iter (graph_isCycle_L2 n l) m 0 = _ := hfd
  rw [hfd']
  cases hfi : (List.range l.length).findIdx? (fun i => decide ((ar n l i).To ≠ (ar n l ((i + 1) % l.length)).From)) with
  | none =>
    left
    refine ⟨fun i hi => ?_, rfl⟩
    have := List.findIdx?_eq_none_iff.1 hfi i (by simpa using hi)
    simpa using this
  | some i =>
    right
    obtain ⟨hi, hp, _⟩ := List.findIdx?_eq_some_iff_getElem.1 hfi
    simp at hi hp
    exact ⟨fun h => hp (h i hi), rfl⟩
theorem iscyc_eq {n : S_api_Net} (hn : okNet n) {l : List Int} (hl : l.length ≤ 1000) {can : List Bool} (hc : (can.length : Int) = n.Nodes) (m : Nat) (hm : 3000 ≤ m) :
    ∃ b, graph_isCycle m n l can = some b ∧ (b = true ↔ Pk1 n l can l.length ∧ Lk n l ∧ sm n l l.length < 0) := by
  unfold graph_isCycle
  rcases iscyc1 hn hl hc m hm with ⟨h1, e1⟩ | ⟨h1, e1⟩
  · rw [e1, bindJ_go]
    rcases iscyc2 hl (fun i hi => (h1 i hi).1) m hm with ⟨h2, e2⟩ | ⟨h2, e2⟩
    · rw [e2, bindJ_go]; exact ⟨_, rfl, by simp [h1, h2]⟩
    · rw [e2, bindJ_stop]; exact ⟨_, rfl, by simp [h2]⟩
  · rw [e1, bindJ_stop]; exact ⟨_, rfl, by simp [h1]⟩
/-- what the specification's walk asks -/
def pr (l : List Int) (i : Nat) : Nat := (i + l.length - 1) % l.length
def W1 (n : S_api_Net) (l : List Int) (k : Nat) : Prop := ∀ i, i < k → rng n l i ∧ (rng n l (pr l i) ∧ (ar n l (pr l i)).To = (ar n l i).From) ∧ ∀ j, j < i → (ar n l j).From ≠ (ar n l i).From
theorem walk_is {n : S_api_Net} (hn : okNet n) {l : List Int} (hl : l.length ≤ 1000) (m : Nat) (hm : 3000 ≤ m) :
    ∃ b, ref09_walk m n l = some b ∧ (b = true ↔ l ≠ [] ∧ W1 n l l.length) := by
  have hN := hn.2.1
  have h00 := hn.1
  unfold ref09_walk
  by_cases h0 : l = []
  · subst h0; exact ⟨false, by simp, by simp⟩
  · have hlp : 0 < l.length := List.length_pos_iff.2 h0
    have e0 : decide ((l.length : Int) = 0) = false := by rw [decide_eq_false_iff_not]; omega
    simp only [e0, cond_false]
    rw [need_pos (by omega)]
    have key := iter_inv (step := ref09_walk_L1 n l) (fun s => ∃ i : Nat, s.1 = (i : Int) ∧ i ≤ l.length ∧ W1 n l i ∧ (s.2.length : Int) = n.Nodes ∧ ∀ w, 0 ≤ w → (M s.2 w ↔ ∃ j, j < i ∧ (ar n l j).From = w)) (fun s => l.length - s.1.toNat)
      (fun r => (W1 n l l.length ∧ r = .go ()) ∨ (¬ W1 n l l.length ∧ r = .stop false)) (by
      rintro ⟨i', x⟩ ⟨i, he, hi, hp, hxl, hx⟩
      simp only at he hxl hx
      subst he
      unfold ref09_walk_L1
      by_cases hlt : i < l.length
      · have e : decide ((i : Int) < (l.length : Int)) = true := by simpa using hlt
        simp only [e, cond_true]
        have bad : ¬ (rng n l i ∧ (rng n l (pr l i) ∧ (ar n l (pr l i)).To = (ar n l i).From) ∧ ∀ j, j < i → (ar n l j).From ≠ (ar n l i).From) → ¬ W1 n l l.length := fun h hP => h (hP i hlt)
        have hprl : pr l i < l.length := Nat.mod_lt _ hlp
        rw [idx_get (g_get hlt), idx_get (g_get hlt)]
        by_cases hr : rng n l i
        · have er : (decide (g l i < 0) || decide ((n.Arcs.length : Int) ≤ g l i)) = false := by have := hr.1; have := hr.2; simp; omega
          obtain ⟨f0, f1, t0, t1, c0, c1⟩ := ar_ok hn hr
          simp only [er, cond_false, idx_ar hr]
          rw [need_pos (by omega), w64 (x := (i : Int) + (l.length : Int)) (by omega) (by omega), w64 (x := (i : Int) + (l.length : Int) - 1) (by omega) (by omega), show (i : Int) + (l.length : Int) - 1 = ((i + l.length - 1 : Nat) : Int) by omega, tmod_nat]
          rw [show (i + l.length - 1) % l.length = pr l i from rfl, idx_get (g_get hprl)]
          rw [idx_Mi f0 (by omega)]
          by_cases hr2 : rng n l (pr l i)
          · have er2 : (decide (g l (pr l i) < 0) || decide ((n.Arcs.length : Int) ≤ g l (pr l i))) = false := by have := hr2.1; have := hr2.2; simp; omega
            simp only [er2, cond_false, idx_ar hr2, bindJ_go]
            by_cases ht : (ar n l (pr l i)).To = (ar n l i).From
            · simp only [ht, ne_eq, not_true_eq_false, decide_false, cond_false, bindJ_go]
              by_cases hM : M x (ar n l i).From
              · right
                simp only [hM, decide_true, cond_true]
                obtain ⟨j, hj, ej⟩ := (hx _ f0).1 hM
                exact ⟨_, rfl, .inr ⟨bad (fun h => h.2.2 j hj ej), rfl⟩⟩
              · left
                simp only [hM, decide_false, cond_false]
                rw [idx_Mi f0 (by omega), w64 (by omega) (by omega)]
                refine ⟨_, rfl, ⟨i + 1, by simp, by omega, fun j hj => ?_, by simpa using hxl, fun w hw => ?_⟩, by simp only; omega⟩
                · by_cases ej : j = i
                  · subst ej
                    exact ⟨hr, ⟨hr2, ht⟩, fun j' hj' ee => hM ((hx _ f0).2 ⟨j', hj', ee⟩)⟩
                  · exact hp j (by omega)
                · simp only
                  rw [M_set f0 hw (by omega), hx w hw]
                  constructor
                  · rintro (ew | ⟨j, hj, ej⟩)
                    · exact ⟨i, by omega, ew.symm⟩
                    · exact ⟨j, by omega, ej⟩
                  · rintro ⟨j, hj, ej⟩
                    by_cases eji : j = i
                    · subst eji; exact .inl ej.symm
                    · exact .inr ⟨j, by omega, ej⟩
            · right
              simp only [ht, ne_eq, not_false_eq_true, decide_true, cond_true, bindJ_go]
              exact ⟨_, rfl, .inr ⟨bad (fun h => ht h.2.1.2), rfl⟩⟩
          · right
            have er2 : (decide (g l (pr l i) < 0) || decide ((n.Arcs.length : Int) ≤ g l (pr l i))) = true := by unfold rng at hr2; simp; omega
            simp only [er2, cond_true, bindJ_go]
            exact ⟨_, rfl, .inr ⟨bad (fun h => hr2 h.2.1.1), rfl⟩⟩
        · right
          have er : (decide (g l i < 0) || decide ((n.Arcs.length : Int) ≤ g l i)) = true := by unfold rng at hr; simp; omega
          simp only [er, cond_true]
          exact ⟨_, rfl, .inr ⟨bad (fun h => hr h.1), rfl⟩⟩
      · right
        have e : decide ((i : Int) < (l.length : Int)) = false := by simpa using hlt
        simp only [e, cond_false]
        have : i = l.length := by omega
        subst this
        exact ⟨_, rfl, .inl ⟨hp, rfl⟩⟩) m (0, List.replicate n.Nodes.toNat false) ⟨0, rfl, Nat.zero_le _, fun i hi => by omega, by simp; omega, fun w hw => by
          constructor
          · intro h
            unfold M at h
            rw [List.getElem?_replicate] at h
            split at h <;> simp at h
          · rintro ⟨j, hj, _⟩; omega⟩ (by simp; omega)
    obtain ⟨r, hr, ⟨h1, rfl⟩ | ⟨h1, rfl⟩⟩ := key
    · rw [hr]; exact ⟨true, rfl, by simp [h0, h1]⟩
    · rw [hr]; exact ⟨false, rfl, by simp [h1]⟩
theorem pr_zero {l : List Int} (h : 0 < l.length) : pr l 0 = l.length - 1 := by
  unfold pr; rw [Nat.zero_add, Nat.mod_eq_of_lt (by omega)]
theorem pr_succ {l : List Int} {i : Nat} (h : i + 1 < l.length) : pr l (i + 1) = i := by
  unfold pr; rw [show i + 1 + l.length - 1 = i + l.length by omega, Nat.add_mod_right, Nat.mod_eq_of_lt (by omega)]
theorem pr_nx {l : List Int} {i : Nat} (h : i < l.length) : pr l ((i + 1) % l.length) = i := by
  by_cases e : i + 1 = l.length
  · rw [e, Nat.mod_self, pr_zero (by omega)]; omega
  · rw [Nat.mod_eq_of_lt (by omega), pr_succ (by omega)]
theorem nx_pr {l : List Int} {i : Nat} (h : i < l.length) : (pr l i + 1) % l.length = i := by
  cases i with
  | zero => rw [pr_zero h, Nat.sub_add_cancel h, Nat.mod_self]
  | succ i => rw [pr_succ h, Nat.mod_eq_of_lt h]
theorem cyc_same {n : S_api_Net} (hn : okNet n) {l : List Int} (h0 : 0 < l.length) {u : Int} {can : List Bool} (hm : ∀ w, 0 ≤ w → (M can w ↔ Pth n false u w)) :
    (Pk1 n l can l.length ∧ Lk n l) ↔ (W1 n l l.length ∧ M can (ar n l 0).From) := by
  constructor
  · rintro ⟨h1, h2⟩
    refine ⟨fun i hi => ⟨(h1 i hi).1, ⟨(h1 _ (Nat.mod_lt _ h0)).1, ?_⟩, (h1 i hi).2.2⟩, (h1 0 h0).2.1⟩
    have := h2 (pr l i) (Nat.mod_lt _ h0)
    rw [nx_pr hi] at this; exact this
  · rintro ⟨h1, h2⟩
    have hcan : ∀ i, i < l.length → M can (ar n l i).From := by
      intro i
      induction i with
      | zero => intro _; exact h2
      | succ i ih =>
        intro hi
        have hM := ih (by omega)
        have hr := (h1 i (by omega)).1
        obtain ⟨f0, f1, t0, t1, _⟩ := ar_ok hn hr
        have e := (h1 (i + 1) hi).2.1.2
        rw [pr_succ hi] at e
        rw [← e, hm _ t0]
        exact .step ((hm _ f0).1 hM) ⟨_, List.mem_of_getElem? (ar_of hr), rfl, rfl⟩
    refine ⟨fun i hi => ⟨(h1 i hi).1, hcan i hi, (h1 i hi).2.2⟩, fun i hi => ?_⟩
    have := (h1 ((i + 1) % l.length) (Nat.mod_lt _ h0)).2.1.2
    rw [pr_nx hi] at this; exact this
theorem sum_is {n : S_api_Net} (hn : okNet n) {r : S_api_Routes} (hl : r.Cycle.length ≤ 1000) (hr : ∀ i, i < r.Cycle.length → rng n r.Cycle i) (m : Nat) (hm : 3000 ≤ m) : iter (ref09_CheckPaths_L1 n r) m (0, 0) = some (.go (sm n r.Cycle r.Cycle.length)) := by
  have key := iter_inv (step := ref09_CheckPaths_L1 n r) (fun s => ∃ i : Nat, s.2 = (i : Int) ∧ i ≤ r.Cycle.length ∧ s.1 = sm n r.Cycle i) (fun s => r.Cycle.length - s.2.toNat) (fun q => q = .go (sm n r.Cycle r.Cycle.length)) (by
    rintro ⟨sum, i'⟩ ⟨i, he, hi, hs⟩
    simp only at he hs
    subst he hs
    unfold ref09_CheckPaths_L1
    by_cases hlt : i < r.Cycle.length
    · left
      have e : decide ((i : Int) < (r.Cycle.length : Int)) = true := by simpa using hlt
      simp only [e, cond_true]
      have hb := sm_bd hn i (fun j hj => hr j (by omega))
      obtain ⟨_, _, _, _, c0, c1⟩ := ar_ok hn (hr i hlt)
      rw [idx_get (g_get hlt), idx_ar (hr i hlt), w64 (by omega) (by omega), w64 (by omega) (by omega)]
      exact ⟨_, rfl, ⟨i + 1, by simp, by omega, rfl⟩, by simp only; omega⟩
    · right
      have e : decide ((i : Int) < (r.Cycle.length : Int)) = false := by simpa using hlt
      simp only [e, cond_false]
      have : i = r.Cycle.length := by omega
      subst this
      exact ⟨_, rfl, rfl⟩) m (0, 0) ⟨0, rfl, Nat.zero_le _, rfl⟩ (by simp; omega)
  obtain ⟨q, hq, rfl⟩ := key
  exact hq
end Go.Proofs.Ytgelifcckhemiaa
namespace Go.Abs
open Go.Sem Go.ChangeShapes Go.RowKit

/-- a law's contract, as the claim's frame wants it -/
theorem Meets.law {P : Program} {f : FuncId} {args : List Value} {H : List HA} (h : Meets P f args H (fun v G => v = .bool true ∧ G = [])) {w : World} (hs : Sats w (fun _ => .no) H) :
    Calls P f args.toArray w fun e w' => e = .returned (.bool true) ∧ Below w.heap.size w w' := by
  refine (h w (fun _ => .no) (fun _ _ => rfl) hs).mono fun e w' ⟨v, G, o', he, ⟨hv, _⟩, _, ht, _⟩ => ?_
  subst hv
  exact ⟨he, ht.os, ht.tape, ht.output, ht.size, fun k hk => (ht.no k hk rfl).2⟩

theorem cells_open {w : World} {a : Option Addr} {len cap es : Nat} {cells : List (List Value)} (hcl : cells.length = len) (h1 : len ≤ cap) (h2 : cap ≤ maxLen) (h3 : a = none → cap = 0) (hes : 0 < es)
    (he : ∀ c ∈ cells, c.length = es) (hc : ∀ x, a = some x → ∀ i c, cells[i]? = some c → ∀ j v, c[j]? = some v → w.cell? (x.add (i * es + j)) = some v) :
    SliceIs w (fun b => (fun _ => Ow.no : Own) b = .no) (.slice a len cap) es cells := by
  refine ⟨a, cap, by rw [hcl], by omega, h2, h3, ?_⟩
  intro i c hi
  have hlen := he c (List.mem_of_getElem? hi)
  cases a with
  | none =>
    have := (List.getElem?_eq_some_iff.1 hi).1
    have := h3 rfl
    omega
  | some x =>
    have e0 : c[0]? = some (c[0]'(by omega)) := List.getElem?_eq_getElem (by omega)
    have h := hc x rfl i c hi 0 _ e0
    have hs0 := World.cell?_spot h
    have hb : x.block < w.heap.size := by
      unfold World.cell? at h
      have e : (x.add (i * es + 0)).block = x.block := by unfold Addr.add; split <;> rfl
      rw [e] at h
      cases hh : w.heap[x.block]? with
      | none => rw [hh] at h; simp at h
      | some o => exact (Array.getElem?_eq_some_iff.1 hh).1
    obtain ⟨b, off, spot⟩ := x
    refine ⟨hlen, b, off, ?_, hb, rfl, ?_⟩
    · cases spot with
      | none => rfl
      | some q =>
        exfalso
        have hi0 : ∀ i c, cells[i]? = some c → i = 0 := by
          intro i c hi
          false_or_by_contra
          have hlen := he c (List.mem_of_getElem? hi)
          have hi00 : cells[0]? = some (cells[0]'(by have := (List.getElem?_eq_some_iff.1 hi).1; omega)) := List.getElem?_eq_getElem _
          have hl0 := he _ (List.mem_of_getElem? hi00)
          have h := hc _ rfl 0 _ hi00 0 _ (List.getElem?_eq_getElem (by omega))
          have := World.cell?_spot h
          simp [Addr.add] at this
        have := hi0 i c hi
        subst this
        simp [Addr.add] at hs0
    · intro j v hj
      have h' := hc _ rfl i c hi j v hj
      have hsp := World.cell?_spot h'
      rw [← h']
      congr 1
      unfold Addr.add at hsp ⊢
      split
      · rename_i h0
        rw [if_pos h0] at hsp
        simp only at hsp
        rw [hsp]
        have : off + i * es + j = off := by omega
        rw [this]
      · rw [Nat.add_assoc]
theorem slice_nil {w : World} {B : Nat → Prop} {es : Nat} : SliceIs w B (.slice none 0 0) es [] := ⟨none, 0, rfl, by simp, by unfold maxLen; omega, fun _ => rfl, fun i c h => by simp at h⟩
end Go.Abs
namespace Go.Abs
open Go.Sem Go.ChangeShapes Go.RowKit
end Go.Abs
namespace Go.Abs
open Go.Sem Go.ChangeShapes Go.RowKit
section
variable {H : Type} {enc : TypeId × Value → H} {P : Program} {w : World} {base : Nat} {sp : Nat → Bool} {held : Bool}
end
end Go.Abs
namespace Go.Abs
open Go.Sem Go.ChangeShapes Go.RowKit
section
variable {H : Type} {enc : TypeId × Value → H} {P : Program} {w : World} {base : Nat} {sp : Nat → Bool} {held : Bool}
def wfI (k : IntKind) (n : Int) : Prop := (Lit.int k n).wf = true
theorem wf64 {n : Int} (h : wfI .i64 n) : -9223372036854775808 ≤ n ∧ n ≤ 9223372036854775807 := by
  simp only [wfI, Lit.wf, Bool.and_eq_true, decide_eq_true_eq] at h; exact h
/-- a type is opened: what is read of it lies in the cells 'F a', and a is well formed -/
def Opens (enc : TypeId × Value → H) (P : Program) (w : World) (base : Nat) (sp : Nat → Bool) (held : Bool) (t : TypeId) {α : Type} (F : α → List Value) (wf : α → Prop) : Prop :=
  ∀ (fuel : Nat) (cs : List Value) (x : DataW H × List MemPlace), DataW.trod enc P w base sp held fuel t cs = some x → ∃ a, cs = F a ∧ wf a
theorem opn_int {t : TypeId} {k : IntKind} (ht : P.underlying t = some (.int k)) : Opens enc P w base sp held t (eInt k) (wfI k) := by
  intro fuel cs x h
  obtain ⟨n, hc, _, hw⟩ := DataW.trod_int ht h
  exact ⟨n, hc, hw⟩
/-- the elements of a slice that is opened -/
theorem opn_slice {t e : TypeId} {es : Nat} {α : Type} {F : α → List Value} {wf : α → Prop} (ht : P.underlying t = some (.slice e)) (hce : P.cellsOf e = es) (hes : 0 < es) (hF : ∀ a, (F a).length = es)
    (ho : Opens enc P w base sp held e F wf) {fuel : Nat} {cs : List Value} {x : DataW H × List MemPlace} (h : DataW.trod enc P w base sp held fuel t cs = some x) :
    ∃ (v : Value) (l : List α), cs = [v] ∧ (∀ a ∈ l, wf a) ∧ SliceIs w (fun b => (fun _ => Ow.no : Own) b = .no) v es (l.map F) ∧
      ((x = (.nil, []) ∧ l = []) ∨ ∃ ys rs ps, x = (.slice ys rs, ps) ∧ ys.length = l.length) := by
  rcases DataW.trod_slice ht h with ⟨rfl, hx⟩ | ⟨a, len, cap, elems, rest, m, _, rfl, rfl, hb, hl, hm, hlen, hel', hsp, hns⟩
  · exact ⟨_, [], rfl, by simp, slice_nil, .inl ⟨hx, rfl⟩⟩
  · have each : ∀ i, i < len → ∃ d : α, wf d ∧ ∀ j v, (F d)[j]? = some v → w.cell? (a.add (i * es + j)) = some v := by
      intro i hi
      have h1 := hel' i hi
      rw [List.getElem?_eq_getElem (by omega), hce, Option.bind_eq_some_iff] at h1
      obtain ⟨cs', hcs, hy⟩ := h1
      obtain ⟨d, rfl, hd⟩ := ho _ _ _ hy
      refine ⟨d, hd, fun j v hj => ?_⟩
      have hjlt : j < es := by have := (List.getElem?_eq_some_iff.1 hj).1; rw [hF] at this; omega
      have := (World.cells?_some hcs).2.2 j hjlt
      rw [hj] at this
      rw [← this]
      congr 1
      unfold Addr.add
      by_cases e1 : i * es = 0
      · rw [if_pos e1]; simp [e1]
      · rw [if_neg e1, if_neg (by omega)]
        by_cases e2 : j = 0
        · simp [e2]
        · rw [if_neg e2]; simp [Nat.add_assoc]
    have hch : ∃ l : List α, l.length = len ∧ ∀ i d, l[i]? = some d → wf d ∧ ∀ j v, (F d)[j]? = some v → w.cell? (a.add (i * es + j)) = some v := by
      clear hel' hlen hsp hns hl h
      induction len with
      | zero => exact ⟨[], rfl, by simp⟩
      | succ k ih =>
        obtain ⟨l, hl1, hl2⟩ := ih (fun i hi => each i (by omega))
        obtain ⟨d, hd1, hd2⟩ := each k (by omega)
        refine ⟨l ++ [d], by simp [hl1], fun i d' hi => ?_⟩
        by_cases hik : i < k
        · rw [List.getElem?_append_left (by omega)] at hi; exact hl2 i d' hi
        · rw [List.getElem?_append_right (by omega)] at hi
          have : i = k := by have := (List.getElem?_eq_some_iff.1 hi).1; simp at this; omega
          subst this
          rw [hl1, Nat.sub_self] at hi
          simp at hi
          subst hi
          exact ⟨hd1, hd2⟩
    obtain ⟨l, hl1, hl2⟩ := hch
    refine ⟨_, l, rfl, ?_, ?_, .inr ⟨_, _, _, rfl, by simp [hlen, hl1]⟩⟩
    · intro d hd
      obtain ⟨i, hi⟩ := List.getElem?_of_mem hd
      exact (hl2 i d hi).1
    · refine cells_open (by rw [List.length_map, hl1]) hl hm (by simp) hes ?_ ?_
      · intro c hc
        obtain ⟨d, hd, rfl⟩ := List.mem_map.1 hc
        exact hF d
      · intro x hx i c hi j v hj
        cases hx
        simp only [List.getElem?_map, Option.map_eq_some_iff] at hi
        obtain ⟨d, hd, rfl⟩ := hi
        exact (hl2 i d hd).2 j v hj
end
end Go.Abs
namespace Go.Abs
open Go.Sem Go.ChangeShapes Go.RowKit
section
variable {H : Type} {enc : TypeId × Value → H} {P : Program} {w : World} {base : Nat} {sp : Nat → Bool} {held : Bool}
def noO : Own := fun _ => .no
def OpensN (enc : TypeId × Value → H) (P : Program) (w : World) (base : Nat) (sp : Nat → Bool) (held : Bool) (t : TypeId) {α : Type} (C : NC α) (wf : α → Prop) : Prop :=
  ∀ (fuel : Nat) (cs : List Value) (x : DataW H × List MemPlace), DataW.trod enc P w base sp held fuel t cs = some x → ∃ a g, cs = C.F a g ∧ wf a ∧ ∀ k, HsP (C.S a g) w noO k
theorem opn_leaf {t e : TypeId} {es : Nat} {α : Type} {F : α → List Value} {wf : α → Prop} (ht : P.underlying t = some (.slice e)) (hce : P.cellsOf e = es) (hes : 0 < es) (hF : ∀ a, (F a).length = es)
    (ho : Opens enc P w base sp held e F wf) {fuel : Nat} {cs : List Value} {x : DataW H × List MemPlace} (h : DataW.trod enc P w base sp held fuel t cs = some x) :
    ∃ (v : Value) (l : List α), cs = [v] ∧ (∀ a ∈ l, wf a) ∧ ∀ k, (ro v es (l.map F)).p w noO k := by
  obtain ⟨v, l, h1, h2, h3, _⟩ := opn_slice ht hce hes hF ho h
  exact ⟨v, l, h1, h2, fun _ => h3⟩
end
end Go.Abs
namespace Go.Proofs.Ytgelifcckhemiaa
open Go.Abs
set_option linter.unusedVariables false
set_option linter.unusedSimpArgs false
set_option maxRecDepth 20000
set_option maxHeartbeats 4000000

open Go.Sem Go.ChangeShapes Go.RowKit
def NC_api_Net_24 : NC S_api_Net where
  G := Value
  es := 2
  F := fun x g => [.int .i64 x.Nodes, g]
  S := fun x g => [ro g 4 (x.Arcs.map S_api_Arc.enc)]
  free := by
    intro x g h hh
    simp only [List.mem_cons, List.not_mem_nil, or_false] at hh
    rcases hh with rfl <;> first | exact free_ro | exact free_nro
  ok := by
    intro x g w o k hh
    refine ⟨rfl, ?_⟩
    intro u hu
    simp only [List.mem_cons, List.not_mem_nil, or_false] at hu
    rcases hu with rfl | rfl <;> first | rfl | exact ro_one (hh _ (.head _)) | exact nro_one (hh _ (.head _))

def NC_api_Routes_51 : NC S_api_Routes where
  G := Value × Value × Value
  es := 3
  F := fun x g => [g.1, g.2.1, g.2.2]
  S := fun x g => [ro g.1 1 (x.Dist.map (eInt .i64)), ro g.2.1 1 (x.Via.map (eInt .i64)), ro g.2.2 1 (x.Cycle.map (eInt .i64))]
  free := by
    intro x g h hh
    simp only [List.mem_cons, List.not_mem_nil, or_false] at hh
    rcases hh with rfl | rfl | rfl <;> first | exact free_ro | exact free_nro
  ok := by
    intro x g w o k hh
    refine ⟨rfl, ?_⟩
    intro u hu
    simp only [List.mem_cons, List.not_mem_nil, or_false] at hu
    rcases hu with rfl | rfl | rfl <;> first | rfl | exact ro_one (hh _ (.head _)) | exact nro_one (hh _ (.head _)) | exact ro_one (hh _ (.tail _ (.head _))) | exact nro_one (hh _ (.tail _ (.head _))) | exact ro_one (hh _ (.tail _ (.tail _ (.head _)))) | exact nro_one (hh _ (.tail _ (.tail _ (.head _))))

def S_api_Arc.wf (x : S_api_Arc) : Prop := wfI .i64 x.From ∧ wfI .i64 x.To ∧ wfI .i64 x.Cap ∧ wfI .i64 x.Cost
theorem S_api_Arc.opn {H : Type} {enc : TypeId × Value → H} {w : World} {base : Nat} {sp : Nat → Bool} {held : Bool} : Opens enc Try.prog w base sp held 67 S_api_Arc.enc S_api_Arc.wf := by
  intro fuel cs x h
  obtain ⟨xs, n, _, _, hl, hlen, hf⟩ := DataW.trod_struct Try.underlying67 h
  have hl' : cs.length = 4 := hl.trans (by kernel_rfl)
  have hx : xs.length = 4 := hlen
  have k3 : Try.prog.cellsOf 3 = 1 := by kernel_rfl
  match cs, hl' with
  | [c0, c1, c2, c3], _ =>
    have f0 := hf 0 _ rfl
    rw [List.getElem?_eq_getElem (show 0 < xs.length by omega)] at f0
    obtain ⟨a0, e0, w0⟩ := (opn_int Try.underlying3) _ _ _ f0
    simp [k3, eInt, eStr, eBool] at e0
    have f1 := hf 1 _ rfl
    rw [List.getElem?_eq_getElem (show 1 < xs.length by omega)] at f1
    obtain ⟨a1, e1, w1⟩ := (opn_int Try.underlying3) _ _ _ f1
    simp [k3, eInt, eStr, eBool] at e1
    have f2 := hf 2 _ rfl
    rw [List.getElem?_eq_getElem (show 2 < xs.length by omega)] at f2
    obtain ⟨a2, e2, w2⟩ := (opn_int Try.underlying3) _ _ _ f2
    simp [k3, eInt, eStr, eBool] at e2
    have f3 := hf 3 _ rfl
    rw [List.getElem?_eq_getElem (show 3 < xs.length by omega)] at f3
    obtain ⟨a3, e3, w3⟩ := (opn_int Try.underlying3) _ _ _ f3
    simp [k3, eInt, eStr, eBool] at e3
    exact ⟨⟨a0, a1, a2, a3⟩, by simp [S_api_Arc.enc, e0, e1, e2, e3], w0, w1, w2, w3⟩
def S_api_Net.wf (x : S_api_Net) : Prop := wfI .i64 x.Nodes ∧ (∀ a ∈ x.Arcs, S_api_Arc.wf a)
theorem S_api_Net.opnN {H : Type} {enc : TypeId × Value → H} {w : World} {base : Nat} {sp : Nat → Bool} {held : Bool} : OpensN enc Try.prog w base sp held 24 NC_api_Net_24 S_api_Net.wf := by
  intro fuel cs x h
  obtain ⟨xs, n, _, _, hl, hlen, hf⟩ := DataW.trod_struct Try.underlying24 h
  have hl' : cs.length = 2 := hl.trans (by kernel_rfl)
  have hx : xs.length = 2 := hlen
  have k3 : Try.prog.cellsOf 3 = 1 := by kernel_rfl
  have k22 : Try.prog.cellsOf 22 = 1 := by kernel_rfl
  match cs, hl' with
  | [c0, c1], _ =>
    have f0 := hf 0 _ rfl
    rw [List.getElem?_eq_getElem (show 0 < xs.length by omega)] at f0
    obtain ⟨a0, e0, w0⟩ := (opn_int Try.underlying3) _ _ _ f0
    simp [k3, eInt, eStr, eBool] at e0
    have f1 := hf 1 _ rfl
    rw [List.getElem?_eq_getElem (show 1 < xs.length by omega)] at f1
    obtain ⟨v1, a1, e1, w1, s1⟩ := opn_leaf (es := 4) (F := S_api_Arc.enc) (wf := S_api_Arc.wf) Try.underlying22 (by kernel_rfl) (by decide) (fun a => (S_api_Arc.enc_ok a).1) S_api_Arc.opn f1
    simp [k22, eInt, eStr, eBool] at e1
    refine ⟨⟨a0, a1⟩, v1, by simp [NC_api_Net_24, e0, e1], ⟨w0, w1⟩, fun k h hh => ?_⟩
    simp only [NC_api_Net_24, List.mem_cons, List.not_mem_nil, or_false] at hh
    subst hh; exact s1 k
def S_api_Routes.wf (x : S_api_Routes) : Prop := (∀ a ∈ x.Dist, wfI .i64 a) ∧ (∀ a ∈ x.Via, wfI .i64 a) ∧ (∀ a ∈ x.Cycle, wfI .i64 a)
theorem S_api_Routes.opnN {H : Type} {enc : TypeId × Value → H} {w : World} {base : Nat} {sp : Nat → Bool} {held : Bool} : OpensN enc Try.prog w base sp held 51 NC_api_Routes_51 S_api_Routes.wf := by
  intro fuel cs x h
  obtain ⟨xs, n, _, _, hl, hlen, hf⟩ := DataW.trod_struct Try.underlying51 h
  have hl' : cs.length = 3 := hl.trans (by kernel_rfl)
  have hx : xs.length = 3 := hlen
  have k34 : Try.prog.cellsOf 34 = 1 := by kernel_rfl
  match cs, hl' with
  | [c0, c1, c2], _ =>
    have f0 := hf 0 _ rfl
    rw [List.getElem?_eq_getElem (show 0 < xs.length by omega)] at f0
    obtain ⟨v0, a0, e0, w0, s0⟩ := opn_leaf (es := 1) (F := (eInt .i64)) (wf := (fun a => wfI .i64 a)) Try.underlying34 (by kernel_rfl) (by decide) (fun a => ((eInt_ok _) a).1) (opn_int Try.underlying3) f0
    simp [k34, eInt, eStr, eBool] at e0
    have f1 := hf 1 _ rfl
    rw [List.getElem?_eq_getElem (show 1 < xs.length by omega)] at f1
    obtain ⟨v1, a1, e1, w1, s1⟩ := opn_leaf (es := 1) (F := (eInt .i64)) (wf := (fun a => wfI .i64 a)) Try.underlying34 (by kernel_rfl) (by decide) (fun a => ((eInt_ok _) a).1) (opn_int Try.underlying3) f1
    simp [k34, eInt, eStr, eBool] at e1
    have f2 := hf 2 _ rfl
    rw [List.getElem?_eq_getElem (show 2 < xs.length by omega)] at f2
    obtain ⟨v2, a2, e2, w2, s2⟩ := opn_leaf (es := 1) (F := (eInt .i64)) (wf := (fun a => wfI .i64 a)) Try.underlying34 (by kernel_rfl) (by decide) (fun a => ((eInt_ok _) a).1) (opn_int Try.underlying3) f2
    simp [k34, eInt, eStr, eBool] at e2
    refine ⟨⟨a0, a1, a2⟩, (v0, v1, v2), by simp [NC_api_Routes_51, e0, e1, e2], ⟨w0, w1, w2⟩, fun k h hh => ?_⟩
    simp only [NC_api_Routes_51, List.mem_cons, List.not_mem_nil, or_false] at hh
    rcases hh with rfl | rfl | rfl
    · exact s0 k
    · exact s1 k
    · exact s2 k

end Go.Proofs.Ytgelifcckhemiaa
namespace Go.Proofs.Ytgelifcckhemiaa
open Go.Abs
set_option linter.unusedSimpArgs false
set_option linter.unusedVariables false
theorem wrap_near {x c d : Int} (h1 : -9223372036854775808 ≤ x) (h2 : x ≤ 9223372036854775807) (c1 : -1048576 ≤ c) (c2 : c ≤ 1048576) (d1 : -1099511627776 ≤ d) (d2 : d ≤ 1099511627776) : d = IntKind.i64.wrap (x + c) ↔ d = x + c := by
  unfold IntKind.wrap
  simp only [IntKind.signed, IntKind.bits]
  simp
  omega
/-- a row of numbers of 64 bits -/
def in64 (l : List Int) : Prop := ∀ x ∈ l, -9223372036854775808 ≤ x ∧ x ≤ 9223372036854775807
theorem in64_g {l : List Int} (h : in64 l) (i : Nat) : -9223372036854775808 ≤ g l i ∧ g l i ≤ 9223372036854775807 := by
  unfold g
  by_cases hi : i < l.length
  · have : l.getD i 0 = l[i] := by simp [List.getD, List.getElem?_eq_getElem hi]
    rw [this]; exact h _ (List.getElem_mem hi)
  · have : l.getD i 0 = 0 := by simp [List.getD, List.getElem?_eq_none (Nat.le_of_not_lt hi)]
    rw [this]; omega
/-- what both ask of a node -/
structure Tv (n : S_api_Net) (u : Int) (D V : List Int) (can : List Bool) (v : Nat) : Prop where
  bd : -1099511627776 ≤ g D v ∧ g D v ≤ 1099511627776
  bv : -1 ≤ g V v ∧ g V v < n.Arcs.length
  root : (v : Int) = u → g V v = -1 ∧ g D v = 0
  out : (v : Int) ≠ u → ¬ M can v → g V v = -1 ∧ g D v = 0
  on : (v : Int) ≠ u → M can v → 0 ≤ g V v ∧ (ar n V v).To = v ∧ g D v = g D (ar n V v).From.toNat + (ar n V v).Cost
theorem tree1 {n : S_api_Net} (hn : okNet n) {u : Int} {r : S_api_Routes} {can : List Bool} (hc : (can.length : Int) = n.Nodes) (hD : (r.Dist.length : Int) = n.Nodes) (hV : (r.Via.length : Int) = n.Nodes) (h64 : in64 r.Dist) (m : Nat) (hm : 3000 ≤ m) :
    ((∀ v, v < n.Nodes.toNat → Tv n u r.Dist r.Via can v) ∧ iter (graph_isTree_L1 n u r can) m 0 = some (.go ())) ∨ ((¬ ∀ v, v < n.Nodes.toNat → Tv n u r.Dist r.Via can v) ∧ iter (graph_isTree_L1 n u r can) m 0 = some (.stop false)) := by
  have hN := hn.2.1
  have key := iter_inv (step := graph_isTree_L1 n u r can) (fun s => ∃ i : Nat, s = (i : Int) ∧ i ≤ n.Nodes.toNat ∧ ∀ v, v < i → Tv n u r.Dist r.Via can v) (fun s => n.Nodes.toNat - s.toNat)
    (fun q => ((∀ v, v < n.Nodes.toNat → Tv n u r.Dist r.Via can v) ∧ q = .go ()) ∨ ((¬ ∀ v, v < n.Nodes.toNat → Tv n u r.Dist r.Via can v) ∧ q = .stop false)) (by
    rintro i' ⟨i, he, hi, hp⟩
    subst he
    unfold graph_isTree_L1
    by_cases hlt : i < n.Nodes.toNat
    · have e : decide ((i : Int) < (r.Via.length : Int)) = true := by rw [decide_eq_true_iff]; omega
      simp only [e, cond_true]
      rw [idx_get (g_get (show i < r.Via.length by omega)), idx_get (g_get (show i < r.Dist.length by omega)), w64 (by omega) (by omega)]
      have good : Tv n u r.Dist r.Via can i → (∃ s', (some (Lp.go (R := Lp Unit Bool) ((i : Int) + 1)) : Option _) = some (.go s') ∧ (∃ j : Nat, s' = (j : Int) ∧ j ≤ n.Nodes.toNat ∧ ∀ v, v < j → Tv n u r.Dist r.Via can v) ∧ n.Nodes.toNat - s'.toNat < n.Nodes.toNat - ((i : Int)).toNat) := fun h =>
        ⟨_, rfl, ⟨i + 1, by simp, by omega, fun v hv => by
          by_cases e : v = i
          · subst e; exact h
          · exact hp v (by omega)⟩, by omega⟩
      have bad : ¬ Tv n u r.Dist r.Via can i → ∃ q, (some (Lp.stop (.stop false)) : Option (Lp Int (Lp Unit Bool))) = some (.stop q) ∧ (((∀ v, v < n.Nodes.toNat → Tv n u r.Dist r.Via can v) ∧ q = .go ()) ∨ ((¬ ∀ v, v < n.Nodes.toNat → Tv n u r.Dist r.Via can v) ∧ q = .stop false)) := fun h =>
        ⟨_, rfl, .inr ⟨fun q => h (q i hlt), rfl⟩⟩
      by_cases hb : (((decide (1099511627776 < g r.Dist i) || decide (g r.Dist i < (-1099511627776))) || decide (g r.Via i < (-1))) || decide ((n.Arcs.length : Int) ≤ g r.Via i)) = true
      · right
        rw [hb]
        simp only [cond_true, bindJ_stop]
        refine bad (fun h => ?_)
        have := h.bd; have := h.bv
        simp at hb; omega
      · rw [Bool.eq_false_iff.2 hb]
        simp at hb
        simp only [cond_false]
        by_cases hu : (i : Int) = u
        · have eu : decide ((i : Int) = u) = true := by simpa using hu
          simp only [eu, cond_true]
          by_cases h0 : (decide (g r.Via i ≠ (-1)) || decide (g r.Dist i ≠ 0)) = true
          · right
            rw [h0]
            simp only [cond_true, bindJ_stop]
            refine bad (fun h => ?_)
            have := h.root hu
            simp at h0; omega
          · left
            rw [Bool.eq_false_iff.2 h0]
            simp at h0
            simp only [cond_false, bindJ_go]
            exact good ⟨by omega, by omega, fun _ => by omega, fun h => absurd hu h, fun h => absurd hu h⟩
        · simp only [hu, decide_false, cond_false]
          rw [idx_Mi (by omega) (by omega)]
          by_cases hM : M can i
          · simp only [hM, decide_true, Bool.not_true, cond_false]
            by_cases h1 : g r.Via i = -1
            · right
              simp only [h1, decide_true, cond_true, bindJ_go, bindJ_stop]
              exact bad (fun h => by have := (h.on hu hM).1; omega)
            · have hr : rng n r.Via i := ⟨by omega, by omega⟩
              obtain ⟨f0, f1, t0, t1, c0, c1⟩ := ar_ok hn hr
              simp only [h1, decide_false, cond_false, idx_ar hr, bindJ_go]
              by_cases ht : (ar n r.Via i).To = (i : Int)
              · simp only [ht, ne_eq, not_true_eq_false, decide_false, cond_false]
                rw [idx_int f0 (by omega), g_el (by omega)]
                have h6 := in64_g h64 (ar n r.Via i).From.toNat
                have hwn := wrap_near h6.1 h6.2 c0 c1 (d := g r.Dist i) (by omega) (by omega)
                by_cases hd : g r.Dist i = g r.Dist (ar n r.Via i).From.toNat + (ar n r.Via i).Cost
                · left
                  have : ¬ (¬ g r.Dist i = IntKind.i64.wrap (g r.Dist (ar n r.Via i).From.toNat + (ar n r.Via i).Cost)) := fun q => q (hwn.2 hd)
                  simp only [this, decide_false, bindJ_go, cond_false]
                  exact good ⟨by omega, by omega, fun h => absurd h hu, fun _ h => absurd hM h, fun _ _ => ⟨by omega, ht, hd⟩⟩
                · right
                  have : ¬ g r.Dist i = IntKind.i64.wrap (g r.Dist (ar n r.Via i).From.toNat + (ar n r.Via i).Cost) := fun q => hd (hwn.1 q)
                  simp only [this, not_false_eq_true, decide_true, bindJ_go, cond_true, bindJ_stop]
                  exact bad (fun h => hd (h.on hu hM).2.2)
              · right
                simp only [ht, ne_eq, not_false_eq_true, decide_true, cond_true, bindJ_go, bindJ_stop]
                exact bad (fun h => ht (h.on hu hM).2.1)
          · simp only [hM, decide_false, Bool.not_false, cond_true]
            by_cases h0 : (decide (g r.Via i ≠ (-1)) || decide (g r.Dist i ≠ 0)) = true
            · right
              rw [h0]
              simp only [cond_true, bindJ_stop]
              refine bad (fun h => ?_)
              have := h.out hu hM
              simp at h0; omega
            · left
              rw [Bool.eq_false_iff.2 h0]
              simp at h0
              simp only [cond_false, bindJ_go]
              exact good ⟨by omega, by omega, fun h => absurd h hu, fun _ _ => by omega, fun _ h => absurd h hM⟩
    · right
      have e : decide ((i : Int) < (r.Via.length : Int)) = false := by rw [decide_eq_false_iff_not]; omega
      simp only [e, cond_false]
      have : i = n.Nodes.toNat := by omega
      subst this
      exact ⟨_, rfl, .inl ⟨hp, rfl⟩⟩) m 0 ⟨0, rfl, Nat.zero_le _, fun v hv => by omega⟩ (by simp; omega)
  obtain ⟨q, hq, ⟨h1, rfl⟩ | ⟨h1, rfl⟩⟩ := key
  · exact .inl ⟨h1, hq⟩
  · exact .inr ⟨h1, hq⟩
theorem rtree1 {n : S_api_Net} (hn : okNet n) {u : Int} {r : S_api_Routes} {can : List Bool} (hc : (can.length : Int) = n.Nodes) (hD : (r.Dist.length : Int) = n.Nodes) (hV : (r.Via.length : Int) = n.Nodes) (h64 : in64 r.Dist) (hroot : g r.Via u.toNat = -1 ∧ g r.Dist u.toNat = 0) (m : Nat) (hm : 3000 ≤ m) :
    ((∀ v, v < n.Nodes.toNat → Tv n u r.Dist r.Via can v) ∧ iter (ref09_tree_L1 n u r can) m 0 = some (.go ())) ∨ ((¬ ∀ v, v < n.Nodes.toNat → Tv n u r.Dist r.Via can v) ∧ iter (ref09_tree_L1 n u r can) m 0 = some (.stop false)) := by
  have hN := hn.2.1
  have key := iter_inv (step := ref09_tree_L1 n u r can) (fun s => ∃ i : Nat, s = (i : Int) ∧ i ≤ n.Nodes.toNat ∧ ∀ v, v < i → Tv n u r.Dist r.Via can v) (fun s => n.Nodes.toNat - s.toNat)
    (fun q => ((∀ v, v < n.Nodes.toNat → Tv n u r.Dist r.Via can v) ∧ q = .go ()) ∨ ((¬ ∀ v, v < n.Nodes.toNat → Tv n u r.Dist r.Via can v) ∧ q = .stop false)) (by
    rintro i' ⟨i, he, hi, hp⟩
    subst he
    unfold ref09_tree_L1
    by_cases hlt : i < n.Nodes.toNat
    · have e : decide ((i : Int) < n.Nodes) = true := by rw [decide_eq_true_iff]; omega
      simp only [e, cond_true]
      have iV : ∀ {β : Type} (k : Int → Option β), idx r.Via (i : Int) k = k (g r.Via i) := fun k => idx_get (g_get (show i < r.Via.length by omega)) k
      have iD : ∀ {β : Type} (k : Int → Option β), idx r.Dist (i : Int) k = k (g r.Dist i) := fun k => idx_get (g_get (show i < r.Dist.length by omega)) k
      have iC : ∀ {β : Type} (k : Bool → Option β), idx can (i : Int) k = k (decide (M can i)) := fun k => idx_Mi (by omega) (by omega) k
      have hw : IntKind.i64.wrap ((i : Int) + 1) = (i : Int) + 1 := w64 (by omega) (by omega)
      simp only [iV, iD, iC, hw]
      have good : Tv n u r.Dist r.Via can i → (∃ s', (some (Lp.go (R := Lp Unit Bool) ((i : Int) + 1)) : Option _) = some (.go s') ∧ (∃ j : Nat, s' = (j : Int) ∧ j ≤ n.Nodes.toNat ∧ ∀ v, v < j → Tv n u r.Dist r.Via can v) ∧ n.Nodes.toNat - s'.toNat < n.Nodes.toNat - ((i : Int)).toNat) := fun h =>
        ⟨_, rfl, ⟨i + 1, by simp, by omega, fun v hv => by
          by_cases e : v = i
          · subst e; exact h
          · exact hp v (by omega)⟩, by omega⟩
      have bad : ¬ Tv n u r.Dist r.Via can i → ∃ q, (some (Lp.stop (.stop false)) : Option (Lp Int (Lp Unit Bool))) = some (.stop q) ∧ (((∀ v, v < n.Nodes.toNat → Tv n u r.Dist r.Via can v) ∧ q = .go ()) ∨ ((¬ ∀ v, v < n.Nodes.toNat → Tv n u r.Dist r.Via can v) ∧ q = .stop false)) := fun h =>
        ⟨_, rfl, .inr ⟨fun q => h (q i hlt), rfl⟩⟩
      by_cases q1 : (decide (g r.Via i < (-1)) || decide ((n.Arcs.length : Int) ≤ g r.Via i)) = true
      · right
        simp only [q1, cond_true, bindJ_go, bindJ_stop]
        refine bad (fun h => ?_)
        have := h.bv; simp at q1; omega
      · rw [Bool.eq_false_iff.2 q1]
        simp at q1
        by_cases q2 : 1099511627776 < g r.Dist i
        · right
          simp only [q2, decide_true, cond_false, cond_true, bindJ_go, bindJ_stop]
          exact bad (fun h => by have := h.bd; omega)
        · by_cases q3 : g r.Dist i < -1099511627776
          · right
            simp only [q2, q3, decide_true, decide_false, cond_false, cond_true, bindJ_go, bindJ_stop]
            exact bad (fun h => by have := h.bd; omega)
          · simp only [q2, q3, decide_false, cond_false, bindJ_go]
            by_cases hu : (i : Int) = u
            · left
              have eu : decide ((i : Int) = u) = true := by simpa using hu
              have hui : u.toNat = i := by omega
              rw [hui] at hroot
              simp only [eu, cond_true, bindJ_go]
              exact good ⟨by omega, by omega, fun _ => hroot, fun h => absurd hu h, fun h => absurd hu h⟩
            · simp only [hu, decide_false, cond_false]
              by_cases hM : M can i
              · by_cases h1 : g r.Via i = -1
                · right
                  simp only [hM, h1, decide_true, Bool.not_true]
                  simp only [show ((true == false) : Bool) = false from rfl, Bool.not_false, cond_true, bindJ_go, bindJ_stop]
                  exact bad (fun h => by have := (h.on hu hM).1; omega)
                · have hr : rng n r.Via i := ⟨by omega, by omega⟩
                  obtain ⟨f0, f1, t0, t1, c0, c1⟩ := ar_ok hn hr
                  have h0 : decide (0 ≤ g r.Via i) = true := by simp; omega
                  simp only [hM, h1, decide_true, decide_false, Bool.not_true, show ((false == false) : Bool) = true from rfl, cond_false, bindJ_go, h0, cond_true, idx_ar hr]
                  by_cases ht : (ar n r.Via i).To = (i : Int)
                  · simp only [ht, ne_eq, not_true_eq_false, decide_false, cond_false]
                    rw [idx_int f0 (by omega), g_el (by omega), w64 (by omega) (by omega)]
                    by_cases hd : g r.Dist i = g r.Dist (ar n r.Via i).From.toNat + (ar n r.Via i).Cost
                    · left
                      have : ¬ (¬ g r.Dist i - (ar n r.Via i).Cost = g r.Dist (ar n r.Via i).From.toNat) := fun q => q (by omega)
                      simp only [this, decide_false, bindJ_go, cond_false]
                      exact good ⟨by omega, by omega, fun h => absurd h hu, fun _ h => absurd hM h, fun _ _ => ⟨by omega, ht, hd⟩⟩
                    · right
                      have : ¬ g r.Dist i - (ar n r.Via i).Cost = g r.Dist (ar n r.Via i).From.toNat := fun q => hd (by omega)
                      simp only [this, not_false_eq_true, decide_true, bindJ_go, cond_true, bindJ_stop]
                      exact bad (fun h => hd (h.on hu hM).2.2)
                  · right
                    simp only [ht, ne_eq, not_false_eq_true, decide_true, cond_true, bindJ_go, bindJ_stop]
                    exact bad (fun h => ht (h.on hu hM).2.1)
              · by_cases h1 : g r.Via i = -1
                · simp only [hM, h1, decide_true, decide_false, Bool.not_false, show ((true == true) : Bool) = true from rfl, Bool.not_true, cond_false, cond_true, bindJ_go]
                  by_cases hd : g r.Dist i = 0
                  · left
                    simp only [hd, ne_eq, not_true_eq_false, decide_false, bindJ_go, cond_false, show decide ((0 : Int) ≤ -1) = false from rfl]
                    exact good ⟨by omega, by omega, fun h => absurd h hu, fun _ _ => ⟨h1, hd⟩, fun _ h => absurd h hM⟩
                  · right
                    simp only [hd, ne_eq, not_false_eq_true, decide_true, bindJ_go, cond_true, bindJ_stop]
                    exact bad (fun h => hd (h.out hu hM).2)
                · right
                  simp only [hM, h1, decide_false, Bool.not_false, show ((false == true) : Bool) = false from rfl, cond_true, bindJ_go, bindJ_stop]
                  exact bad (fun h => h1 (h.out hu hM).1)
    · right
      have e : decide ((i : Int) < n.Nodes) = false := by rw [decide_eq_false_iff_not]; omega
      simp only [e, cond_false]
      have : i = n.Nodes.toNat := by omega
      subst this
      exact ⟨_, rfl, .inl ⟨hp, rfl⟩⟩) m 0 ⟨0, rfl, Nat.zero_le _, fun v hv => by omega⟩ (by simp; omega)
  obtain ⟨q, hq, ⟨h1, rfl⟩ | ⟨h1, rfl⟩⟩ := key
  · exact .inl ⟨h1, hq⟩
  · exact .inr ⟨h1, hq⟩
end Go.Proofs.Ytgelifcckhemiaa
namespace Go.Proofs.Ytgelifcckhemiaa
open Go.Abs
set_option linter.unusedSimpArgs false
set_option linter.unusedVariables false
namespace Bk
def par (p : List Int) (w : Int) : Int := p.getD w.toNat (-1)
def ch (p : List Int) : Nat → Int → List Int
  | 0, _ => []
  | f + 1, w => if w < 0 then [] else w :: ch p f (par p w)
def en (p : List Int) : Nat → Int → Bool
  | 0, w => decide (w < 0)
  | f + 1, w => decide (w < 0) || en p f (par p w)
def okp (p : List Int) : Prop := ∀ x ∈ p, -1 ≤ x ∧ x < (p.length : Int)
instance (p : List Int) : Decidable (okp p) := by unfold okp; exact inferInstance
theorem par_mem {p : List Int} {w : Int} (h0 : 0 ≤ w) (h1 : w < (p.length : Int)) : par p w ∈ p := by
  have hlt : w.toNat < p.length := by omega
  have : par p w = p[w.toNat] := by simp [par, List.getD, List.getElem?_eq_getElem hlt]
  rw [this]; exact List.getElem_mem _
theorem ch_neg {p : List Int} {w : Int} (h : w < 0) : ∀ f, ch p f w = []
  | 0 => rfl
  | f + 1 => by simp [ch, h]
theorem en_neg {p : List Int} {w : Int} (h : w < 0) : ∀ f, en p f w = true
  | 0 => by simp [en, h]
  | f + 1 => by simp [en, h]
theorem en_succ {p : List Int} {f : Nat} {w : Int} (h : 0 ≤ w) : en p (f + 1) w = en p f (par p w) := by
  have : ¬ w < 0 := by omega
  simp [en, this]
theorem ch_succ {p : List Int} {f : Nat} {w : Int} (h : 0 ≤ w) : ch p (f + 1) w = w :: ch p f (par p w) := by
  have : ¬ w < 0 := by omega
  simp [ch, this]
theorem en_more {p : List Int} : ∀ (f g : Nat) (w : Int), en p f w = true → f ≤ g → en p g w = true ∧ ch p g w = ch p f w
  | 0, g, w, h, _ => by
    have hw : w < 0 := by simpa [en] using h
    exact ⟨en_neg hw g, by rw [ch_neg hw, ch_neg hw]⟩
  | f + 1, 0, w, h, hg => by omega
  | f + 1, g + 1, w, h, hg => by
    by_cases hw : w < 0
    · exact ⟨en_neg hw _, by rw [ch_neg hw, ch_neg hw]⟩
    · have h0 : 0 ≤ w := by omega
      rw [en_succ h0] at h ⊢
      obtain ⟨h1, h2⟩ := en_more f g (par p w) h (by omega)
      exact ⟨h1, by rw [ch_succ h0, ch_succ h0, h2]⟩
theorem en_len {p : List Int} : ∀ (f : Nat) (w : Int), en p f w = true → en p (ch p f w).length w = true
  | 0, w, h => by simpa [ch] using h
  | f + 1, w, h => by
    by_cases hw : w < 0
    · exact en_neg hw _
    · have h0 : 0 ≤ w := by omega
      rw [ch_succ h0, List.length_cons, en_succ h0]
      rw [en_succ h0] at h
      exact en_len f _ h
/-- what stands on a chain has a chain that is no longer -/
theorem ch_mem {p : List Int} : ∀ (f : Nat) (w y : Int), en p f w = true → y ∈ ch p f w → 0 ≤ y ∧ ∃ g, g ≤ f ∧ en p g y = true ∧ (ch p g y).length ≤ (ch p f w).length
  | 0, w, y, _, hy => by simp [ch] at hy
  | f + 1, w, y, h, hy => by
    by_cases hw : w < 0
    · rw [ch_neg hw] at hy; simp at hy
    · have h0 : 0 ≤ w := by omega
      rw [ch_succ h0] at hy
      rcases List.mem_cons.1 hy with rfl | hy
      · exact ⟨h0, f + 1, Nat.le_refl _, h, Nat.le_refl _⟩
      · rw [en_succ h0] at h
        obtain ⟨h1, g, h2, h3, h4⟩ := ch_mem f (par p w) y h hy
        exact ⟨h1, g, by omega, h3, by rw [ch_succ h0, List.length_cons]; omega⟩
theorem ch_nodup {p : List Int} : ∀ (f : Nat) (w : Int), en p f w = true → (ch p f w).Nodup
  | 0, w, _ => by simp [ch]
  | f + 1, w, h => by
    by_cases hw : w < 0
    · rw [ch_neg hw]; exact List.nodup_nil
    · have h0 : 0 ≤ w := by omega
      have h' := h
      rw [en_succ h0] at h
      rw [ch_succ h0]
      refine List.nodup_cons.2 ⟨fun hm => ?_, ch_nodup f _ h⟩
      obtain ⟨_, g, h2, h3, h4⟩ := ch_mem f (par p w) w h hm
      have e1 := (en_more g (f + 1) w h3 (by omega)).2
      rw [← e1, ch_succ h0, List.length_cons] at h4
      omega
theorem ch_in {p : List Int} (hp : okp p) : ∀ (f : Nat) (w : Int), w < p.length → ∀ y ∈ ch p f w, 0 ≤ y ∧ y < p.length
  | 0, w, _, y, hy => by simp [ch] at hy
  | f + 1, w, hw, y, hy => by
    by_cases h : w < 0
    · rw [ch_neg h] at hy; simp at hy
    · have h0 : 0 ≤ w := by omega
      rw [ch_succ h0] at hy
      rcases List.mem_cons.1 hy with rfl | hy
      · exact ⟨h0, hw⟩
      · exact ch_in hp f _ (hp _ (par_mem h0 hw)).2 y hy
theorem en_pigeon {p : List Int} (hp : okp p) {f : Nat} {w : Int} (hw : w < p.length) (h : en p f w = true) : en p p.length w = true :=
  (en_more _ _ w (en_len f w h) (nodup_range (ch_nodup f w h) (ch_in hp f w hw))).1

end Bk
open Bk
/-- the node before, by the last arcs -/
def nx (n : S_api_Net) (V : List Int) (w : Int) : Int := (ar n V w.toNat).From
def bk (n : S_api_Net) (u : Int) (V : List Int) (can : List Bool) : Nat → Int → Bool
  | 0, w => decide (w = u)
  | f + 1, w => decide (w = u) || (decide (M can w) && bk n u V can f (nx n V w))
def bp (n : S_api_Net) (u : Int) (V : List Int) (can : List Bool) : List Int := (List.range n.Nodes.toNat).map fun v : Nat => if (v : Int) = u then -1 else if M can (v : Int) then nx n V v else (v : Int)
theorem bp_par {n : S_api_Net} {u : Int} {V : List Int} {can : List Bool} {w : Int} (h0 : 0 ≤ w) (h1 : w < n.Nodes) : par (bp n u V can) w = if w = u then -1 else if M can w then nx n V w else w := by
  have : w.toNat < n.Nodes.toNat := by omega
  unfold par bp
  rw [List.getD, List.getElem?_map, List.getElem?_range this]
  simp only [Option.map_some, Option.getD_some, show ((w.toNat : Nat) : Int) = w by omega]
theorem en_loop {p : List Int} {w : Int} (h0 : 0 ≤ w) (h : par p w = w) : ∀ f, en p f w = false
  | 0 => by simp [en]; omega
  | f + 1 => by rw [en_succ h0, h]; exact en_loop h0 h f
theorem tv_nx {n : S_api_Net} (hn : okNet n) {u : Int} {D V : List Int} {can : List Bool} (hT : ∀ v, v < n.Nodes.toNat → Tv n u D V can v) {w : Int} (h0 : 0 ≤ w) (h1 : w < n.Nodes) (hu : w ≠ u) (hM : M can w) : rng n V w.toNat ∧ 0 ≤ nx n V w ∧ nx n V w < n.Nodes := by
  have hv := hT w.toNat (by omega)
  have h2 := hv.on (by omega) (by rw [show ((w.toNat : Nat) : Int) = w by omega]; exact hM)
  have hr : rng n V w.toNat := ⟨h2.1, hv.bv.2⟩
  obtain ⟨f0, f1, _⟩ := ar_ok hn hr
  exact ⟨hr, f0, f1⟩
theorem bk_en {n : S_api_Net} (hn : okNet n) {u : Int} {D V : List Int} {can : List Bool} (hT : ∀ v, v < n.Nodes.toNat → Tv n u D V can v) : ∀ (f : Nat) (w : Int), 0 ≤ w → w < n.Nodes → en (bp n u V can) (f + 1) w = bk n u V can f w
  | f, w, h0, h1 => by
    rw [en_succ h0, bp_par h0 h1]
    by_cases hu : w = u
    · rw [if_pos hu, en_neg (by omega)]
      cases f <;> simp [bk, hu]
    · rw [if_neg hu]
      by_cases hM : M can w
      · rw [if_pos hM]
        obtain ⟨_, h2, h3⟩ := tv_nx hn hT h0 h1 hu hM
        cases f with
        | zero => simp [en, bk, hu]; omega
        | succ f => rw [bk_en hn hT f _ h2 h3]; simp [bk, hu, hM]
      · rw [if_neg hM, en_loop h0 (by rw [bp_par h0 h1, if_neg hu, if_neg hM])]
        cases f <;> simp [bk, hu, hM]
theorem bk_sat {n : S_api_Net} (hn : okNet n) {u : Int} {D V : List Int} {can : List Bool} (hT : ∀ v, v < n.Nodes.toNat → Tv n u D V can v) {w : Int} (h0 : 0 ≤ w) (h1 : w < n.Nodes) : bk n u V can (n.Nodes.toNat + 1) w = bk n u V can n.Nodes.toNat w := by
  have hlen : (bp n u V can).length = n.Nodes.toNat := by simp [bp]
  have hok : okp (bp n u V can) := by
    intro x hx
    rw [hlen]
    obtain ⟨v, hv, rfl⟩ := List.mem_map.1 hx
    have hv' : v < n.Nodes.toNat := by simpa using hv
    split
    · omega
    · rename_i hu
      split
      · rename_i hM
        obtain ⟨_, h2, h3⟩ := tv_nx hn hT (w := (v : Int)) (by omega) (by omega) hu hM
        omega
      · omega
  rw [← bk_en hn hT _ _ h0 h1, ← bk_en hn hT _ _ h0 h1, Bool.eq_iff_iff]
  constructor
  · intro h
    have := en_pigeon hok (by rw [hlen]; omega) h
    rw [hlen] at this
    exact (en_more _ _ _ this (by omega)).1
  · intro h
    exact (en_more _ _ _ h (by omega)).1
theorem back_in {n : S_api_Net} (hn : okNet n) {u : Int} {r : S_api_Routes} {can : List Bool} (hc : (can.length : Int) = n.Nodes) (hV : (r.Via.length : Int) = n.Nodes) (hT : ∀ v, v < n.Nodes.toNat → Tv n u r.Dist r.Via can v) : ∀ (f m k : Nat) (w : Int), k + f = n.Nodes.toNat → 0 ≤ w → w < n.Nodes → f + 1 < m →
    bindJ (S := Unit) (iter (ref09_back_L1 n r.Via u) m (w, (k : Int))) (fun _ => some false) = some (bk n u r.Via can f w)
  | f, 0, _, _, _, _, _, h => by omega
  | f, m + 1, k, w, hk, h0, h1, hm => by
    have hN := hn.2.1
    have e : decide ((k : Int) ≤ n.Nodes) = true := by rw [decide_eq_true_iff]; omega
    by_cases hu : w = u
    · have hs : ref09_back_L1 n r.Via u (w, (k : Int)) = some (.stop (.stop true)) := by
        unfold ref09_back_L1
        simp only [e, cond_true, hu, decide_true]
      rw [iter_stop hs]
      cases f <;> simp [bk, hu]
    · by_cases hM : M can w
      · obtain ⟨hr, h2, h3⟩ := tv_nx hn hT h0 h1 hu hM
        have hs : ref09_back_L1 n r.Via u (w, (k : Int)) = some (.go (nx n r.Via w, ((k + 1 : Nat) : Int))) := by
          unfold ref09_back_L1
          simp only [e, cond_true, hu, decide_false, cond_false]
          rw [idx_int h0 (by omega), g_el (by omega)]
          have e2 : decide (g r.Via w.toNat < 0) = false := by rw [decide_eq_false_iff_not]; have := hr.1; omega
          simp only [e2, cond_false, idx_ar hr]
          rw [w64 (by omega) (by omega)]
          simp [nx]
        rw [iter_go hs]
        cases f with
        | zero =>
          obtain ⟨m, rfl⟩ : ∃ q, m = q + 1 := ⟨m - 1, by omega⟩
          rw [iter_stop (r := .go ())]
          · simp [bk, hu]
          · unfold ref09_back_L1
            have e3 : decide (((k + 1 : Nat) : Int) ≤ n.Nodes) = false := by rw [decide_eq_false_iff_not]; omega
            simp only [e3, cond_false]
        | succ f =>
          rw [back_in hn hc hV hT f m (k + 1) _ (by omega) h2 h3 (by omega)]
          simp [bk, hu, hM]
      · have hv := (hT w.toNat (by omega)).out (by omega) (by rw [show ((w.toNat : Nat) : Int) = w by omega]; exact hM)
        have hs : ref09_back_L1 n r.Via u (w, (k : Int)) = some (.stop (.stop false)) := by
          unfold ref09_back_L1
          simp only [e, cond_true, hu, decide_false, cond_false]
          rw [idx_int h0 (by omega), g_el (by omega), hv.1]
          simp
        rw [iter_stop hs]
        cases f <;> simp [bk, hu, hM]
theorem steps_in {n : S_api_Net} (hn : okNet n) {u : Int} {r : S_api_Routes} {can : List Bool} (hc : (can.length : Int) = n.Nodes) (hV : (r.Via.length : Int) = n.Nodes) (hT : ∀ v, v < n.Nodes.toNat → Tv n u r.Dist r.Via can v) {v : Int} (v0 : 0 ≤ v) (v1 : v < n.Nodes) (hMv : M can v) (hMu : M can u) : ∀ (f m k : Nat) (w : Int), k + f = n.Nodes.toNat + 1 → 0 ≤ w → w < n.Nodes → M can w → f + 1 < m →
    iter (graph_isTree_L3 n u r can v) m (w, (k : Int)) = some (cond (bk n u r.Via can f w) (.go ()) (.stop (.stop (.stop false))))
  | f, 0, _, _, _, _, _, _, h => by omega
  | f, m + 1, k, w, hk, h0, h1, hM, hm => by
    have hN := hn.2.1
    by_cases hu : w = u
    · have hs : graph_isTree_L3 n u r can v (w, (k : Int)) = some (.stop (.go ())) := by
        unfold graph_isTree_L3
        simp only []
        rw [idx_Mi v0 (by omega)]
        simp [hMv, hu]
      rw [iter_stop hs]
      cases f <;> simp [bk, hu]
    · obtain ⟨hr, h2, h3⟩ := tv_nx hn hT h0 h1 hu hM
      have hdef : graph_isTree_L3 n u r can v (w, (k : Int)) = cond (decide (n.Nodes < (k : Int)) || !decide (M can (nx n r.Via w))) (some (.stop (.stop (.stop (.stop false))))) (some (.go (nx n r.Via w, ((k + 1 : Nat) : Int)))) := by
        unfold graph_isTree_L3
        simp only []
        rw [idx_Mi v0 (by omega)]
        simp only [hMv, decide_true, Bool.true_and, ne_eq, hu, not_false_eq_true, cond_true]
        rw [idx_int h0 (by omega), g_el (by omega), idx_ar hr, w64 (by omega) (by omega)]
        have : (ar n r.Via w.toNat).From = nx n r.Via w := rfl
        rw [this, idx_Mi h2 (by omega)]
        by_cases hk : n.Nodes < (k : Int) <;> by_cases hM2 : M can (nx n r.Via w) <;> simp [hk, hM2]
      cases f with
      | zero =>
        have e : (decide (n.Nodes < (k : Int)) || !decide (M can (nx n r.Via w))) = true := by rw [Bool.or_eq_true]; left; rw [decide_eq_true_iff]; omega
        rw [e, cond_true] at hdef
        rw [iter_stop hdef]
        simp [bk, hu]
      | succ f =>
        have ek : decide (n.Nodes < (k : Int)) = false := by rw [decide_eq_false_iff_not]; omega
        by_cases hM2 : M can (nx n r.Via w)
        · rw [ek] at hdef
          simp only [hM2, decide_true, Bool.not_true, Bool.or_false, cond_false] at hdef
          rw [iter_go hdef, steps_in hn hc hV hT v0 v1 hMv hMu f m (k + 1) _ (by omega) h2 h3 hM2 (by omega)]
          simp [bk, hu, hM]
        · rw [ek] at hdef
          simp only [hM2, decide_false, Bool.not_false, Bool.or_true, cond_true] at hdef
          rw [iter_stop hdef]
          have hne : nx n r.Via w ≠ u := fun q => hM2 (q ▸ hMu)
          cases f <;> simp [bk, hu, hM, hM2, hne]
end Go.Proofs.Ytgelifcckhemiaa
namespace Go.Proofs.Ytgelifcckhemiaa
open Go.Abs
set_option linter.unusedSimpArgs false
set_option linter.unusedVariables false
/-- every node that can be reached leads back to the root -/
def Bkp (n : S_api_Net) (u : Int) (V : List Int) (can : List Bool) : Prop := ∀ v : Nat, v < n.Nodes.toNat → M can v → bk n u V can n.Nodes.toNat v = true
theorem tree2 {n : S_api_Net} (hn : okNet n) {u : Int} {r : S_api_Routes} {can : List Bool} (hc : (can.length : Int) = n.Nodes) (hV : (r.Via.length : Int) = n.Nodes) (hT : ∀ v, v < n.Nodes.toNat → Tv n u r.Dist r.Via can v) (hMu : M can u) (m : Nat) (hm : 3000 ≤ m) :
    (Bkp n u r.Via can ∧ iter (graph_isTree_L2 m n u r can) m 0 = some (.go ())) ∨ (¬ Bkp n u r.Via can ∧ iter (graph_isTree_L2 m n u r can) m 0 = some (.stop false)) := by
  have hN := hn.2.1
  have hfd := iter_find2 (step := graph_isTree_L2 m n u r can) (fun i => (i : Int)) (List.range n.Nodes.toNat) (fun v : Nat => decide (M can (v : Int)) && !bk n u r.Via can n.Nodes.toNat v) (fun _ => (.stop false : Lp Unit Bool)) (.go ()) (fun i x hx hi => by
    have hi : i < n.Nodes.toNat := by simpa using hi
    have : x = i := by rw [List.getElem?_range hi] at hx; cases hx; rfl
    subst this
    unfold graph_isTree_L2
    have e : decide ((x : Int) < n.Nodes) = true := by rw [decide_eq_true_iff]; omega
    simp only [e, cond_true]
    rw [w64 (by omega) (by omega)]
    by_cases hM : M can (x : Int)
    · have := steps_in hn hc hV hT (v := (x : Int)) (by omega) (by omega) hM hMu (n.Nodes.toNat + 1) m 0 x (by omega) (by omega) (by omega) hM (by omega)
      have this' : iter (graph_isTree_L3 n u r can (x : Int)) m ((x : Int), 0) = _ := this
      rw [this', bk_sat hn hT (by omega) (by omega)]
      cases bk n u r.Via can n.Nodes.toNat (x : Int) <;> simp [hM]
    · obtain ⟨m', rfl⟩ : ∃ q, m = q + 1 := ⟨m - 1, by omega⟩
      rw [iter_stop (r := .go ())]
      · simp [hM]
      · unfold graph_isTree_L3
        simp only []
        rw [idx_Mi (by omega) (by omega)]
        simp [hM]) (by
    unfold graph_isTree_L2
    have e : decide ((((List.range n.Nodes.toNat).length : Nat) : Int) < n.Nodes) = false := by rw [decide_eq_false_iff_not]; simp; omega
    simp only [e, cond_false]) m (by simp; omega)
  have hfd' : iter (graph_isTree_L2 m n u r can) m 0 = _ := hfd
  rw [hfd']
  cases hfi : (List.range n.Nodes.toNat).findIdx? (fun v : Nat => decide (M can (v : Int)) && !bk n u r.Via can n.Nodes.toNat v) with
  | none =>
    left
    refine ⟨fun v hv hM => ?_, rfl⟩
    have := List.findIdx?_eq_none_iff.1 hfi v (by simpa using hv)
    simpa [hM] using this
  | some i =>
    right
    obtain ⟨hi, hp, _⟩ := List.findIdx?_eq_some_iff_getElem.1 hfi
    simp at hi hp
    exact ⟨fun h => by have := h i (by omega) hp.1; rw [this] at hp; simp at hp, rfl⟩
theorem rtree2 {n : S_api_Net} (hn : okNet n) {u : Int} {r : S_api_Routes} {can : List Bool} (hc : (can.length : Int) = n.Nodes) (hV : (r.Via.length : Int) = n.Nodes) (hT : ∀ v, v < n.Nodes.toNat → Tv n u r.Dist r.Via can v) (m : Nat) (hm : 3000 ≤ m) :
    (Bkp n u r.Via can ∧ iter (ref09_tree_L2 m n u r can) m 0 = some (.go ())) ∨ (¬ Bkp n u r.Via can ∧ iter (ref09_tree_L2 m n u r can) m 0 = some (.stop false)) := by
  have hN := hn.2.1
  have hfd := iter_find2 (step := ref09_tree_L2 m n u r can) (fun i => (i : Int)) (List.range n.Nodes.toNat) (fun v : Nat => decide (M can (v : Int)) && !bk n u r.Via can n.Nodes.toNat v) (fun _ => (.stop false : Lp Unit Bool)) (.go ()) (fun i x hx hi => by
    have hi : i < n.Nodes.toNat := by simpa using hi
    have : x = i := by rw [List.getElem?_range hi] at hx; cases hx; rfl
    subst this
    unfold ref09_tree_L2
    have e : decide ((x : Int) < n.Nodes) = true := by rw [decide_eq_true_iff]; omega
    simp only [e, cond_true]
    rw [w64 (by omega) (by omega), idx_Mi (by omega) (by omega)]
    by_cases hM : M can (x : Int)
    · have hb : ref09_back m n r.Via (x : Int) u = some (bk n u r.Via can n.Nodes.toNat x) := back_in hn hc hV hT n.Nodes.toNat m 0 x (by omega) (by omega) (by omega) (by omega)
      rw [hb]
      cases bk n u r.Via can n.Nodes.toNat (x : Int) <;> simp [hM, obind]
    · simp [hM]) (by
    unfold ref09_tree_L2
    have e : decide ((((List.range n.Nodes.toNat).length : Nat) : Int) < n.Nodes) = false := by rw [decide_eq_false_iff_not]; simp; omega
    simp only [e, cond_false]) m (by simp; omega)
  have hfd' : iter (ref09_tree_L2 m n u r can) m 0 = _ := hfd
  rw [hfd']
  cases hfi : (List.range n.Nodes.toNat).findIdx? (fun v : Nat => decide (M can (v : Int)) && !bk n u r.Via can n.Nodes.toNat v) with
  | none =>
    left
    refine ⟨fun v hv hM => ?_, rfl⟩
    have := List.findIdx?_eq_none_iff.1 hfi v (by simpa using hv)
    simpa [hM] using this
  | some i =>
    right
    obtain ⟨hi, hp, _⟩ := List.findIdx?_eq_some_iff_getElem.1 hfi
    simp at hi hp
    exact ⟨fun h => by have := h i (by omega) hp.1; rw [this] at hp; simp at hp, rfl⟩
def tri (D : List Int) (can : List Bool) (a : S_api_Arc) : Bool := !decide (M can a.From) || !decide (g D a.From.toNat + a.Cost < g D a.To.toNat)
def Tri (n : S_api_Net) (D : List Int) (can : List Bool) : Bool := n.Arcs.all (tri D can)
theorem tree3 {n : S_api_Net} (hn : okNet n) {r : S_api_Routes} {can : List Bool} (hc : (can.length : Int) = n.Nodes) (hD : (r.Dist.length : Int) = n.Nodes) (hb : ∀ v : Nat, v < n.Nodes.toNat → -1099511627776 ≤ g r.Dist v ∧ g r.Dist v ≤ 1099511627776) (m : Nat) (hm : 3000 ≤ m) :
    iter (graph_CheckPaths_L1 n r can) m 0 = some (cond (Tri n r.Dist can) (.go ()) (.stop false)) := by
  have hA := hn.2.2.1
  have hfd := iter_find2 (step := graph_CheckPaths_L1 n r can) (fun i => (i : Int)) n.Arcs (fun a => !tri r.Dist can a) (fun _ => (.stop false : Lp Unit Bool)) (.go ()) (fun i a ha hi => by
    obtain ⟨f0, f1, t0, t1, c0, c1⟩ := hn.2.2.2 _ (List.mem_of_getElem? ha)
    have b1 := hb a.From.toNat (by omega)
    have b2 := hb a.To.toNat (by omega)
    unfold graph_CheckPaths_L1 tri
    have e : decide ((i : Int) < (n.Arcs.length : Int)) = true := by simpa using hi
    simp only [e, cond_true]
    rw [idx_get ha, idx_Mi f0 (by omega)]
    by_cases hM : M can a.From
    · simp only [hM, decide_true, cond_true, Bool.not_true, Bool.false_or]
      rw [idx_int t0 (by omega), idx_int f0 (by omega), g_el (by omega), g_el (by omega), w64 (x := (i : Int) + 1) (by omega) (by omega), w64 (by omega) (by omega)]
      by_cases h : g r.Dist a.From.toNat + a.Cost < g r.Dist a.To.toNat
      · have h' : g r.Dist a.From.toNat < g r.Dist a.To.toNat - a.Cost := by omega
        simp [h, h']
      · have h' : ¬ g r.Dist a.From.toNat < g r.Dist a.To.toNat - a.Cost := by omega
        simp [h, h']
    · rw [w64 (by omega) (by omega)]; simp [hM]) (by unfold graph_CheckPaths_L1; simp) m (by omega)
  have hfd' : iter (graph_CheckPaths_L1 n r can) m 0 = _ := hfd
  rw [hfd', Tri]
  cases hfi : n.Arcs.findIdx? (fun a => !tri r.Dist can a) with
  | none =>
    have : n.Arcs.all (tri r.Dist can) = true := List.all_eq_true.2 fun a ha => by have := List.findIdx?_eq_none_iff.1 hfi a ha; simpa using this
    rw [this]; rfl
  | some i =>
    obtain ⟨hi, hp, _⟩ := List.findIdx?_eq_some_iff_getElem.1 hfi
    have : n.Arcs.all (tri r.Dist can) = false := by
      rw [Bool.eq_false_iff]; intro h
      have := List.all_eq_true.1 h _ (List.getElem_mem hi)
      rw [this] at hp; simp at hp
    rw [this]; rfl
theorem rtree3 {n : S_api_Net} (hn : okNet n) {r : S_api_Routes} {can : List Bool} (hc : (can.length : Int) = n.Nodes) (hD : (r.Dist.length : Int) = n.Nodes) (hb : ∀ v : Nat, v < n.Nodes.toNat → -1099511627776 ≤ g r.Dist v ∧ g r.Dist v ≤ 1099511627776) (m : Nat) (hm : 3000 ≤ m) :
    iter (ref09_tree_L3 n r can) m 0 = some (cond (Tri n r.Dist can) (.go ()) (.stop false)) := by
  have hA := hn.2.2.1
  have hfd := iter_find2 (step := ref09_tree_L3 n r can) (fun i => (i : Int)) n.Arcs (fun a => !tri r.Dist can a) (fun _ => (.stop false : Lp Unit Bool)) (.go ()) (fun i a ha hi => by
    obtain ⟨f0, f1, t0, t1, c0, c1⟩ := hn.2.2.2 _ (List.mem_of_getElem? ha)
    have b1 := hb a.From.toNat (by omega)
    have b2 := hb a.To.toNat (by omega)
    unfold ref09_tree_L3 tri
    have e : decide ((i : Int) < (n.Arcs.length : Int)) = true := by simpa using hi
    simp only [e, cond_true]
    rw [idx_get ha, idx_Mi f0 (by omega)]
    by_cases hM : M can a.From
    · simp only [hM, decide_true, cond_true, Bool.not_true, Bool.false_or]
      rw [idx_int t0 (by omega), idx_int f0 (by omega), g_el (by omega), g_el (by omega), w64 (x := (i : Int) + 1) (by omega) (by omega), w64 (by omega) (by omega)]
      by_cases h : g r.Dist a.From.toNat + a.Cost < g r.Dist a.To.toNat
      · have h' : g r.Dist a.From.toNat < g r.Dist a.To.toNat - a.Cost := by omega
        simp [h, h']
      · have h' : ¬ g r.Dist a.From.toNat < g r.Dist a.To.toNat - a.Cost := by omega
        simp [h, h']
    · rw [w64 (by omega) (by omega)]; simp [hM]) (by unfold ref09_tree_L3; simp) m (by omega)
  have hfd' : iter (ref09_tree_L3 n r can) m 0 = _ := hfd
  rw [hfd', Tri]
  cases hfi : n.Arcs.findIdx? (fun a => !tri r.Dist can a) with
  | none =>
    have : n.Arcs.all (tri r.Dist can) = true := List.all_eq_true.2 fun a ha => by have := List.findIdx?_eq_none_iff.1 hfi a ha; simpa using this
    rw [this]; rfl
  | some i =>
    obtain ⟨hi, hp, _⟩ := List.findIdx?_eq_some_iff_getElem.1 hfi
    have : n.Arcs.all (tri r.Dist can) = false := by
      rw [Bool.eq_false_iff]; intro h
      have := List.all_eq_true.1 h _ (List.getElem_mem hi)
      rw [this] at hp; simp at hp
    rw [this]; rfl
end Go.Proofs.Ytgelifcckhemiaa
namespace Go.Proofs.Ytgelifcckhemiaa
open Go.Abs
set_option linter.unusedSimpArgs false
set_option linter.unusedVariables false
theorem tree_same {n : S_api_Net} (hn : okNet n) {u : Int} (h0 : 0 ≤ u) (h1 : u < n.Nodes) {r : S_api_Routes} (hD : (r.Dist.length : Int) = n.Nodes) (hV : (r.Via.length : Int) = n.Nodes) (h64 : in64 r.Dist) (m : Nat) (hm : 3000 ≤ m) {can : List Bool} (hs : graph_search m n u false = some can) (hrs : ref09_reach m n u = some can) (hc : (can.length : Int) = n.Nodes) (hM : ∀ w, 0 ≤ w → (M can w ↔ Pth n false u w)) :
    ∃ b, (obind (graph_isTree m n u r can) fun r35 => cond (!r35) (some false) (bindJ (S := Unit) (iter (graph_CheckPaths_L1 n r can) m 0) (fun _ => some true))) = some b ∧ ref09_tree m n u r = some b := by
  have hMu : M can u := (hM u h0).2 .refl
  unfold ref09_tree graph_isTree
  have e1 : (decide ((r.Dist.length : Int) ≠ n.Nodes) || decide ((r.Via.length : Int) ≠ n.Nodes)) = false := by simp; omega
  rw [e1, cond_false, idx_int h0 (by omega), g_el (by omega), bindJ_go]
  rcases tree1 hn (u := u) hc hD hV h64 m hm with ⟨hT, t1⟩ | ⟨hT, t1⟩
  · have hroot := (hT u.toNat (by omega)).root (by omega)
    rw [hroot.1]
    simp only [ne_eq, not_true_eq_false, decide_false, cond_false]
    rw [idx_int h0 (by omega), g_el (by omega), hroot.2]
    simp only [not_true_eq_false, decide_false, bindJ_go, cond_false, hrs, obind, Option.bind_some]
    rcases rtree1 hn (u := u) hc hD hV h64 hroot m hm with ⟨_, t2⟩ | ⟨hno, _⟩
    · rw [t1, t2, bindJ_go, bindJ_go]
      rcases tree2 hn hc hV hT hMu m hm with ⟨hB, t3⟩ | ⟨hB, t3⟩
      · rcases rtree2 hn hc hV hT m hm with ⟨_, t4⟩ | ⟨hno, _⟩
        · rw [t3, t4, bindJ_go, bindJ_go]
          have hb : ∀ v : Nat, v < n.Nodes.toNat → -1099511627776 ≤ g r.Dist v ∧ g r.Dist v ≤ 1099511627776 := fun v hv => (hT v hv).bd
          rw [rtree3 hn hc hD hb m hm]
          simp only [Option.bind_some, Bool.not_true, cond_false]
          rw [tree3 hn hc hD hb m hm]
          cases Tri n r.Dist can <;> exact ⟨_, rfl, rfl⟩
        · exact absurd hB hno
      · rcases rtree2 hn hc hV hT m hm with ⟨hyes, _⟩ | ⟨_, t4⟩
        · exact absurd hyes hB
        · rw [t3, t4]; exact ⟨false, rfl, rfl⟩
    · exact absurd hT hno
  · rw [t1]
    refine ⟨false, rfl, ?_⟩
    by_cases hroot : g r.Via u.toNat = -1 ∧ g r.Dist u.toNat = 0
    · rw [hroot.1]
      simp only [ne_eq, not_true_eq_false, decide_false, cond_false]
      rw [idx_int h0 (by omega), g_el (by omega), hroot.2]
      simp only [not_true_eq_false, decide_false, bindJ_go, cond_false, hrs, obind, Option.bind_some]
      rcases rtree1 hn (u := u) hc hD hV h64 hroot m hm with ⟨hyes, _⟩ | ⟨_, t2⟩
      · exact absurd hyes hT
      · rw [t2]; rfl
    · by_cases hv : g r.Via u.toNat = -1
      · have hd : g r.Dist u.toNat ≠ 0 := fun q => hroot ⟨hv, q⟩
        rw [hv]
        simp only [ne_eq, not_true_eq_false, decide_false, cond_false]
        rw [idx_int h0 (by omega), g_el (by omega)]
        simp only [hd, not_false_eq_true, decide_true, bindJ_go, cond_true]
      · simp only [ne_eq, hv, not_false_eq_true, decide_true, cond_true, bindJ_go]
theorem checks_same {n : S_api_Net} {u : Int} {r : S_api_Routes} (hlen : r.Dist.length ≤ 1000 ∧ r.Via.length ≤ 1000 ∧ r.Cycle.length ≤ 1000) (h64 : in64 r.Dist) (m : Nat) (hm : n.Arcs.length + 3000 ≤ m) : ∃ b, graph_CheckPaths m n u r = some b ∧ ref09_CheckPaths m n u r = some b := by
  unfold graph_CheckPaths ref09_CheckPaths graph_isNode ref09_node
  rw [Valid_eq n m (by omega), rValid_eq n m (by omega)]
  simp only [obind, Option.bind_some]
  by_cases hn : okNet n
  · by_cases hu : 0 ≤ u ∧ u < n.Nodes
    · have ev : (decide (0 ≤ u) && decide (u < n.Nodes)) = true := by simp; omega
      simp only [hn, decide_true, Bool.not_true, cond_false, ev, bindJ_go]
      obtain ⟨can, hs, hc, hM⟩ := search_eq hn false hu.1 hu.2 m (by omega)
      obtain ⟨can', hrs, hc', hM'⟩ := reach_eq hn hu.1 hu.2 m (by omega)
      have := met_eq hc' hc hM' hM
      subst this
      rw [hs]
      simp only [Option.bind_some]
      by_cases hl : r.Cycle.length = 0
      · have e1 : decide (0 < (r.Cycle.length : Int)) = false := by rw [decide_eq_false_iff_not]; omega
        have e2 : decide ((r.Cycle.length : Int) = 0) = true := by rw [decide_eq_true_iff]; omega
        rw [e1, e2, cond_false, cond_true]
        by_cases hb : (decide ((r.Dist.length : Int) ≠ n.Nodes) || decide ((r.Via.length : Int) ≠ n.Nodes)) = true
        · rw [hb]
          refine ⟨false, by simp, ?_⟩
          unfold ref09_tree
          rw [hb]; simp
        · have hb' := Bool.eq_false_iff.2 hb
          simp at hb
          obtain ⟨b, k1, k2⟩ := tree_same hn hu.1 hu.2 (by omega) (by omega) h64 m (by omega) hs hrs hc hM
          refine ⟨b, ?_, by rw [k2]; rfl⟩
          rw [hb', cond_false, ← k1]
          unfold obind
          cases graph_isTree m n u r can' with
          | none => rfl
          | some q => cases q <;> rfl
      · have e1 : decide (0 < (r.Cycle.length : Int)) = true := by rw [decide_eq_true_iff]; omega
        have e2 : decide ((r.Cycle.length : Int) = 0) = false := by rw [decide_eq_false_iff_not]; omega
        rw [e1, e2, cond_false, cond_true, w64 (by omega) (by omega)]
        obtain ⟨bc, c1, c2⟩ := iscyc_eq hn (l := r.Cycle) hlen.2.2 hc m (by omega)
        obtain ⟨bw, w1, w2⟩ := walk_is hn (l := r.Cycle) hlen.2.2 m (by omega)
        have hcs := cyc_same hn (l := r.Cycle) (by omega) hM
        by_cases hd : r.Dist.length = 0 ∧ r.Via.length = 0
        · have e3 : decide ((r.Dist.length : Int) + (r.Via.length : Int) = 0) = true := by rw [decide_eq_true_iff]; omega
          have e4 : (decide (0 < (r.Dist.length : Int)) || decide (0 < (r.Via.length : Int))) = false := by rw [Bool.or_eq_false_iff, decide_eq_false_iff_not, decide_eq_false_iff_not]; omega
          rw [e3, e4, cond_true, cond_false, c1, w1]
          simp only [Option.bind_some, bindJ_go]
          refine ⟨bc, rfl, ?_⟩
          cases hbw : bw with
          | false =>
            have hno : ¬ (r.Cycle ≠ [] ∧ W1 n r.Cycle r.Cycle.length) := fun q => by have := w2.2 q; rw [hbw] at this; simp at this
            have hne : r.Cycle ≠ [] := fun q => hl (by rw [q]; rfl)
            have : bc = false := by
              rw [Bool.eq_false_iff]; intro q
              have := c2.1 q
              exact hno ⟨hne, (hcs.1 ⟨this.1, this.2.1⟩).1⟩
            rw [this]; rfl
          | true =>
            have hW := (w2.1 hbw).2
            have hr0 := (hW 0 (by omega)).1
            obtain ⟨f0, f1, _⟩ := ar_ok hn hr0
            simp only [Bool.not_true, cond_false]
            rw [sum_is hn hlen.2.2 (fun i hi => (hW i hi).1) m (by omega), bindJ_go, hrs]
            simp only [Option.bind_some]
            rw [show (0 : Int) = ((0 : Nat) : Int) from rfl, idx_get (g_get (show 0 < r.Cycle.length by omega)), idx_ar hr0, idx_Mi f0 (by omega)]
            by_cases hsum : sm n r.Cycle r.Cycle.length < 0
            · have : decide (sm n r.Cycle r.Cycle.length < ((0 : Nat) : Int)) = true := by simpa using hsum
              rw [this, cond_true, bindJ_go]
              congr 1
              rw [Bool.eq_iff_iff, c2, decide_eq_true_iff]
              constructor
              · intro h; exact ⟨(hcs.2 ⟨hW, h⟩).1, (hcs.2 ⟨hW, h⟩).2, hsum⟩
              · intro h; exact (hcs.1 ⟨h.1, h.2.1⟩).2
            · have : decide (sm n r.Cycle r.Cycle.length < ((0 : Nat) : Int)) = false := by simpa using hsum
              rw [this, cond_false, bindJ_go]
              congr 1
              rw [eq_comm, Bool.eq_false_iff]
              intro q; exact hsum (c2.1 q).2.2
        · have e3 : decide ((r.Dist.length : Int) + (r.Via.length : Int) = 0) = false := by rw [decide_eq_false_iff_not]; omega
          have e4 : (decide (0 < (r.Dist.length : Int)) || decide (0 < (r.Via.length : Int))) = true := by
            rw [Bool.or_eq_true, decide_eq_true_iff, decide_eq_true_iff]; omega
          rw [e3, e4, cond_true, cond_false]
          exact ⟨false, rfl, rfl⟩
    · have ev : (decide (0 ≤ u) && decide (u < n.Nodes)) = false := by simp; omega
      exact ⟨false, by simp [hn, ev], by simp [hn, ev]⟩
  · exact ⟨false, by simp [hn], by simp [hn]⟩
end Go.Proofs.Ytgelifcckhemiaa
namespace Go.Proofs.Ytgelifcckhemiaa
open Go.Abs
set_option linter.unusedSimpArgs false
set_option linter.unusedVariables false
/-- the node before, or the node itself where there is none -/
def ff (n : S_api_Net) (via : List Int) (w : Int) : Int := if g via w.toNat = -1 then w else (ar n via w.toNat).From
theorem ff_in {n : S_api_Net} (hn : okNet n) {u R T : Int} {b0 b : List S_graph_reached} {i : Nat} {last : Int} {via : List Int} {r : Int → Int} (h : PI n u R T b0 i last b via r) {w : Int} (h0 : 0 ≤ w) (h1 : w < n.Nodes) : 0 ≤ ff n via w ∧ ff n via w < n.Nodes ∧ (g via w.toNat ≠ -1 → r w ≤ r (ff n via w) + 1) := by
  unfold ff
  rcases h.vi w h0 h1 with e | ⟨j, a, e1, e2, e3, _, e5⟩
  · rw [if_pos e]; exact ⟨h0, h1, fun q => absurd e q⟩
  · have hne : g via w.toNat ≠ -1 := by omega
    have : ar n via w.toNat = a := by unfold ar; rw [e1, Int.toNat_natCast, e2]; rfl
    rw [if_neg hne, this]
    obtain ⟨f0, f1, _⟩ := hn.2.2.2 a (List.mem_of_getElem? e2)
    exact ⟨f0, f1, fun _ => e5⟩
theorem ff_it {n : S_api_Net} (hn : okNet n) {u R T : Int} {b0 b : List S_graph_reached} {i : Nat} {last : Int} {via : List Int} {r : Int → Int} (h : PI n u R T b0 i last b via r) : ∀ (j : Nat) (w : Int), 0 ≤ w → w < n.Nodes → 0 ≤ itp (ff n via) j w ∧ itp (ff n via) j w < n.Nodes
  | 0, w, h0, h1 => ⟨h0, h1⟩
  | j + 1, w, h0, h1 => by have := ff_in hn h h0 h1; exact ff_it hn h j _ this.1 this.2.1
/-- from a node of the last round, the first steps back all have arcs -/
theorem ff_on {n : S_api_Net} (hn : okNet n) {u R T : Int} {b0 b : List S_graph_reached} {i : Nat} {last : Int} {via : List Int} {r : Int → Int} (h : PI n u R T b0 i last b via r) {w : Int} (h0 : 0 ≤ w) (h1 : w < n.Nodes) (hw : r w = R) : ∀ j : Nat, (j : Int) < R → R - j ≤ r (itp (ff n via) j w) ∧ g via (itp (ff n via) j w).toNat ≠ -1
  | 0, hj => ⟨by simp only [itp]; omega, (h.st w h0 h1).2.2 (by omega)⟩
  | j + 1, hj => by
    obtain ⟨k1, k2⟩ := ff_on hn h h0 h1 hw j (by omega)
    have hin := ff_it hn h j w h0 h1
    have hs := ff_in hn h hin.1 hin.2
    rw [itp_succ]
    have k3 := hs.2.2 k2
    exact ⟨by omega, (h.st _ hs.1 hs.2.1).2.2 (by omega)⟩
theorem itp_fix {f : Int → Int} {w : Int} (h : f w = w) : ∀ j, itp f j w = w
  | 0 => rfl
  | j + 1 => by rw [itp, h, itp_fix h j]
theorem itp_mul {f : Int → Int} {w : Int} {k : Nat} (h : itp f k w = w) : ∀ t, itp f (k * t) w = w
  | 0 => rfl
  | t + 1 => by rw [Nat.mul_succ, itp_add, h, itp_mul h t]
theorem ff_all {n : S_api_Net} (hn : okNet n) {u T : Int} {b0 b : List S_graph_reached} {i : Nat} {last : Int} {via : List Int} {r : Int → Int} (h : PI n u (n.Nodes + 1) T b0 i last b via r) {w : Int} (h0 : 0 ≤ w) (h1 : w < n.Nodes) (hw : r w = n.Nodes + 1) (j : Nat) : g via (itp (ff n via) j w).toNat ≠ -1 := by
  by_cases hj : (j : Int) < n.Nodes + 1
  · exact (ff_on hn h h0 h1 hw j hj).2
  · obtain ⟨k, k1, k2, k3, _⟩ := period (N := n.Nodes.toNat) (f := ff n via) (v := w) (fun q => by have := ff_it hn h q w h0 h1; omega)
    have hN := (ff_on hn h h0 h1 hw n.Nodes.toNat (by omega)).2
    intro hc
    have e1 : itp (ff n via) j w = itp (ff n via) (j - n.Nodes.toNat) (itp (ff n via) n.Nodes.toNat w) := by rw [← itp_add]; congr 1; omega
    have hfix : ff n via (itp (ff n via) j w) = itp (ff n via) j w := if_pos hc
    have hm := itp_mul k3 (j - n.Nodes.toNat)
    have hle : j - n.Nodes.toNat ≤ k * (j - n.Nodes.toNat) := Nat.le_mul_of_pos_left _ k1
    have e2 : itp (ff n via) (k * (j - n.Nodes.toNat)) (itp (ff n via) n.Nodes.toNat w) = itp (ff n via) j w := by
      rw [show k * (j - n.Nodes.toNat) = (k * (j - n.Nodes.toNat) - (j - n.Nodes.toNat)) + (j - n.Nodes.toNat) by omega, itp_add, ← e1, itp_fix hfix]
    rw [hm] at e2
    rw [e2] at hN
    exact hN hc
/-- the nodes from which some step back has no arc -/
noncomputable def Dno (n : S_api_Net) (via : List Int) : List Int := ((List.range n.Nodes.toNat).map fun v : Nat => (v : Int)).filter fun w => @decide (∃ j, g via (itp (ff n via) j w).toNat = -1) (Classical.propDecidable _)
theorem not_Dno {n : S_api_Net} {via : List Int} {w : Int} (h0 : 0 ≤ w) (h1 : w < n.Nodes) : w ∉ Dno n via ↔ ∀ j, g via (itp (ff n via) j w).toNat ≠ -1 := by
  unfold Dno
  rw [List.mem_filter, @decide_eq_true_iff _ (Classical.propDecidable _)]
  constructor
  · intro h j hj
    exact h ⟨List.mem_map.2 ⟨w.toNat, by simp; omega, by omega⟩, j, hj⟩
  · rintro h ⟨_, j, hj⟩
    exact h j hj
theorem step_Dno {n : S_api_Net} (hn : okNet n) {u R T : Int} {b0 b : List S_graph_reached} {i : Nat} {last : Int} {via : List Int} {r : Int → Int} (h : PI n u R T b0 i last b via r) {w : Int} (h0 : 0 ≤ w) (h1 : w < n.Nodes) (hw : w ∉ Dno n via) : ∃ j : Nat, g via w.toNat = (j : Int) ∧ Into n (Dno n via) w j := by
  have hall := (not_Dno h0 h1).1 hw
  have hff := ff_in hn h h0 h1
  rcases h.vi w h0 h1 with e | ⟨j, a, e1, e2, e3, _, _⟩
  · exact absurd e (hall 0)
  · refine ⟨j, e1, a, e2, e3, ?_⟩
    have hne : g via w.toNat ≠ -1 := by omega
    have ha : ar n via w.toNat = a := by unfold ar; rw [e1, Int.toNat_natCast, e2]; rfl
    have hfa : ff n via w = a.From := by unfold ff; rw [if_neg hne, ha]
    rw [← hfa]
    exact (not_Dno hff.1 hff.2.1).2 fun q => hall (q + 1)
end Go.Proofs.Ytgelifcckhemiaa
namespace Go.Proofs.Ytgelifcckhemiaa
open Go.Abs
set_option linter.unusedSimpArgs false
set_option linter.unusedVariables false
theorem cyc_in {n : S_api_Net} (hn : okNet n) {D cyc : List Int} {vf : Int → Nat} {pf : Int → Int} {v : Int} {k : Nat} (hc : Cyc n D cyc vf pf v k) : ∀ i, 0 ≤ itp pf i v ∧ itp pf i v < n.Nodes ∧ itp pf i v ∉ D
  | 0 => hc.at_
  | i + 1 => by
    have ih := cyc_in hn hc i
    rw [itp_succ]
    obtain ⟨a, h1, h2, h3, h4⟩ := hc.arc _ ih.1 ih.2.1 ih.2.2
    obtain ⟨q1, q2, _⟩ := hn.2.2.2 a (List.mem_of_getElem? h1)
    rw [h3] at q1 q2
    exact ⟨q1, q2, h4⟩
theorem cyc_len {n : S_api_Net} {D cyc : List Int} {vf : Int → Nat} {pf : Int → Int} {v : Int} {k : Nat} (hc : Cyc n D cyc vf pf v k) : cyc.length = k := by rw [hc.eq]; simp
theorem cyc_g {n : S_api_Net} {D cyc : List Int} {vf : Int → Nat} {pf : Int → Int} {v : Int} {k : Nat} (hc : Cyc n D cyc vf pf v k) {i : Nat} (hi : i < k) : g cyc i = ((vf (itp pf (k - 1 - i) v) : Nat) : Int) := by
  have h : cyc[i]? = some ((vf (itp pf (k - 1 - i) v) : Nat) : Int) := by
    rw [hc.eq, List.getElem?_reverse (by simpa using hi)]
    simp only [List.length_map, List.length_range]
    rw [List.getElem?_map, List.getElem?_range (by omega)]; rfl
  unfold g; rw [List.getD, h]; rfl
theorem cyc_ar {n : S_api_Net} (hn : okNet n) {D cyc : List Int} {vf : Int → Nat} {pf : Int → Int} {v : Int} {k : Nat} (hc : Cyc n D cyc vf pf v k) {i : Nat} (hi : i < k) :
    rng n cyc i ∧ (ar n cyc i).To = itp pf (k - 1 - i) v ∧ (ar n cyc i).From = itp pf (k - i) v ∧ n.Arcs[vf (itp pf (k - 1 - i) v)]? = some (ar n cyc i) := by
  have hw := cyc_in hn hc (k - 1 - i)
  obtain ⟨a, a1, a2, a3, a4⟩ := hc.arc _ hw.1 hw.2.1 hw.2.2
  have hl := (List.getElem?_eq_some_iff.1 a1).1
  have hg := cyc_g hc hi
  have ha : ar n cyc i = a := by unfold ar; rw [hg, Int.toNat_natCast, a1]; rfl
  have hs := itp_succ pf (k - 1 - i) v
  rw [show k - 1 - i + 1 = k - i by omega] at hs
  rw [ha]
  exact ⟨⟨by omega, by omega⟩, a2, by rw [a3, hs], a1⟩
theorem cyc_step {n : S_api_Net} (hn : okNet n) {u R T : Int} {b0 b : List S_graph_reached} {q : Nat} {last : Int} {via : List Int} {r : Int → Int} (h : PI n u R T b0 q last b via r) {D cyc : List Int} {vf : Int → Nat} {pf : Int → Int} {v : Int} {k : Nat} (hc : Cyc n D cyc vf pf v k) (hvia : ∀ w, 0 ≤ w → w < n.Nodes → w ∉ D → g via w.toNat = ((vf w : Nat) : Int)) {i : Nat} (hi : i < k) :
    ∃ x y, gp b (itp pf (k - i) v) = some x ∧ gp b (itp pf (k - 1 - i) v) = some y ∧ ¬ lt2 y (ext x (ar n cyc i)) := by
  have hw := cyc_in hn hc (k - 1 - i)
  obtain ⟨_, c2, c3, c4⟩ := cyc_ar hn hc hi
  have hv := hvia _ hw.1 hw.2.1 hw.2.2
  rcases h.vi _ hw.1 hw.2.1 with e | ⟨j, a, e1, e2, e3, ⟨x, y, e4, e5, e6⟩, _⟩
  · omega
  · have ej : j = vf (itp pf (k - 1 - i) v) := by omega
    rw [ej, c4] at e2
    cases e2
    rw [c3] at e4
    exact ⟨x, y, e4, e5, e6⟩
theorem cyc_chain {n : S_api_Net} (hn : okNet n) {u R T : Int} {b0 b : List S_graph_reached} {q : Nat} {last : Int} {via : List Int} {r : Int → Int} (h : PI n u R T b0 q last b via r) {D cyc : List Int} {vf : Int → Nat} {pf : Int → Int} {v : Int} {k : Nat} (hc : Cyc n D cyc vf pf v k) (hvia : ∀ w, 0 ≤ w → w < n.Nodes → w ∉ D → g via w.toNat = ((vf w : Nat) : Int)) {x : Int × Int} (hx : gp b v = some x) : ∀ i, i ≤ k →
    ∃ y, gp b (itp pf (k - i) v) = some y ∧ ¬ lt2 y (x.1 + sm n cyc i, x.2 + (i : Int))
  | 0, _ => ⟨x, by rw [show k - 0 = k by omega, hc.per]; exact hx, by simp [sm, lt2]⟩
  | i + 1, hi => by
    obtain ⟨y, h1, h2⟩ := cyc_chain hn h hc hvia hx i (by omega)
    obtain ⟨x', y', s1, s2, s3⟩ := cyc_step hn h hc hvia (show i < k by omega)
    rw [h1] at s1; cases s1
    refine ⟨y', by rw [show k - (i + 1) = k - 1 - i by omega]; exact s2, nlt_trans s3 ?_⟩
    have := ext_nlt (ar n cyc i) h2
    unfold ext lt2 at *
    simp only [sm] at *
    omega
theorem cyc_neg {n : S_api_Net} (hn : okNet n) {u R T : Int} {b0 b : List S_graph_reached} {q : Nat} {last : Int} {via : List Int} {r : Int → Int} (h : PI n u R T b0 q last b via r) {D cyc : List Int} {vf : Int → Nat} {pf : Int → Int} {v : Int} {k : Nat} (hc : Cyc n D cyc vf pf v k) (hvia : ∀ w, 0 ≤ w → w < n.Nodes → w ∉ D → g via w.toNat = ((vf w : Nat) : Int)) : sm n cyc k < 0 := by
  have k1 := hc.k1
  obtain ⟨x, _, s1, _, _⟩ := cyc_step hn h hc hvia (show 0 < k by omega)
  rw [show k - 0 = k by omega, hc.per] at s1
  obtain ⟨y, h1, h2⟩ := cyc_chain hn h hc hvia s1 k (Nat.le_refl _)
  rw [Nat.sub_self] at h1
  simp only [itp] at h1
  rw [s1] at h1; cases h1
  unfold lt2 at h2
  simp only at h2
  omega
theorem neg_ok {n : S_api_Net} (hn : okNet n) {u T : Int} (h0 : 0 ≤ u) (h1 : u < n.Nodes) {b0 b : List S_graph_reached} {q : Nat} {last : Int} {via : List Int} {r : Int → Int} (h : PI n u (n.Nodes + 1) T b0 q last b via r) (l0 : 0 ≤ last) (l1 : last < n.Nodes) (hl : r last = n.Nodes + 1) (m : Nat) (hm : n.Arcs.length + 3000 ≤ m) :
    ∃ cyc, graph_around m n via last = some cyc ∧ 0 < cyc.length ∧ graph_CheckPaths m n u ⟨[], [], cyc⟩ = some true := by
  have hN := hn.2.1
  obtain ⟨cyc, vf, pf, v, k, e1, hc, hvia⟩ := around_full hn h.lv (fun w w0 w1 w2 => step_Dno hn h w0 w1 w2) l0 l1 ((not_Dno l0 l1).2 (ff_all hn h l0 l1 hl)) m (by omega)
  have hlen := cyc_len hc
  have k1 := hc.k1
  have kN := hc.kN
  refine ⟨cyc, e1, by omega, ?_⟩
  obtain ⟨can, hs, hcl, hM⟩ := search_eq hn false h0 h1 m (by omega)
  obtain ⟨bc, c1, c2⟩ := iscyc_eq hn (l := cyc) (by omega) hcl m (by omega)
  have hpth : ∀ i, M can (itp pf i v) := fun i => by
    have hw := cyc_in hn hc i
    have hv := hvia _ hw.1 hw.2.1 hw.2.2
    rw [hM _ hw.1]
    rcases h.vi _ hw.1 hw.2.1 with e | ⟨j, a, _, _, _, ⟨x, y, _, e5, _⟩, _⟩
    · omega
    · obtain ⟨k', _, hk⟩ := h.snd _ _ e5
      exact wk_pth hk
  have hdist : ∀ a b, 1 ≤ a → a < b → b ≤ k → itp pf a v ≠ itp pf b v := by
    intro a b h1 h2 h3 he
    have e1 : itp pf (k - b + a) v = v := by rw [itp_add, he, ← itp_add, show k - b + b = k by omega, hc.per]
    exact hc.min (k - b + a) (by omega) (by omega) e1
  have hb : bc = true := c2.2 (by
    rw [hlen]
    refine ⟨fun i hi => ?_, fun i hi => ?_, cyc_neg hn h hc hvia⟩
    · obtain ⟨a1, a2, a3, _⟩ := cyc_ar hn hc hi
      refine ⟨a1, by rw [a3]; exact hpth _, fun j hj => ?_⟩
      obtain ⟨_, _, b3, _⟩ := cyc_ar hn hc (show j < k by omega)
      rw [a3, b3]
      exact fun e => hdist (k - i) (k - j) (by omega) (by omega) (by omega) e.symm
    · rw [hlen] at hi ⊢
      obtain ⟨_, a2, _, _⟩ := cyc_ar hn hc hi
      obtain ⟨_, _, b3, _⟩ := cyc_ar hn hc (Nat.mod_lt (i + 1) (show 0 < k by omega))
      rw [a2, b3]
      by_cases e : i + 1 = k
      · rw [e, Nat.mod_self, show k - 1 - i = 0 by omega, show k - 0 = k by omega, hc.per]; rfl
      · rw [Nat.mod_eq_of_lt (by omega)]; congr 1; omega)
  unfold graph_CheckPaths graph_isNode
  rw [Valid_eq n m (by omega)]
  have ev : (decide (0 ≤ u) && decide (u < n.Nodes)) = true := by simp; omega
  have ec : decide (0 < (cyc.length : Int)) = true := by rw [decide_eq_true_iff]; omega
  simp only [hn, decide_true, obind, Option.bind_some, Bool.not_true, cond_false, ev, bindJ_go, hs, ec, cond_true, c1, hb]
  rw [w64 (by simp) (by simp)]
  simp
end Go.Proofs.Ytgelifcckhemiaa
namespace Go.Proofs.Ytgelifcckhemiaa
open Go.Abs
set_option linter.unusedSimpArgs false
set_option linter.unusedVariables false
theorem g_mapr {N : Nat} (F : Nat → Int) {v : Nat} (h : v < N) : g ((List.range N).map F) v = F v := by
  unfold g; rw [List.getD, List.getElem?_map, List.getElem?_range h]; rfl
theorem dd_of {f : Tab} {v : Int} (h0 : 0 ≤ v) {x : Int × Int} (h : f v = some x) : dd f v.toNat = x.1 := by
  unfold dd; rw [Int.toNat_of_nonneg h0, h]
theorem wk0 {n : S_api_Net} {u v s : Int} (h : Wk n u 0 v s) : v = u := by cases h; rfl
theorem vo_on {n : S_api_Net} (hn : okNet n) {u : Int} {f : Tab} (hf : Opt n u f) {v : Nat} (hu : (v : Int) ≠ u) {x : Int × Int} (hx : f v = some x) (hv : v < n.Nodes.toNat) :
    0 ≤ vo n u f v ∧ vo n u f v < n.Arcs.length ∧ (ar n (vias n u f) v).To = v ∧ ∃ y, f (ar n (vias n u f) v).From = some y ∧ y.2 + 1 = x.2 ∧ y.1 + (ar n (vias n u f) v).Cost = x.1 := by
  have hvo : vo n u f v = fx (pv f v) n.Arcs := by unfold vo; rw [if_neg hu]
  have hg : g (vias n u f) v = fx (pv f v) n.Arcs := by unfold vias; rw [g_mapr _ hv, hvo]
  rcases fx_cases (pv f v) n.Arcs with ⟨_, h2⟩ | ⟨i, hi, h1, h2, _⟩
  · exfalso
    obtain ⟨k, e1, e2⟩ := hf.snd _ _ hx
    cases k with
    | zero => exact hu (wk0 e2)
    | succ k =>
      obtain ⟨a, ha, a1, a2⟩ := opt_pred hf (v := (v : Int)) (s := x.1) (k := k) (by rw [hx]; congr 1; exact Prod.ext rfl e1)
      have := h2 a ha
      unfold pv at this
      rw [a2, hx, a1] at this
      simp at this
      omega
  · have har : ar n (vias n u f) v = n.Arcs[i] := by
      unfold ar; rw [hg, h1, Int.toNat_natCast, List.getElem?_eq_getElem hi]; rfl
    rw [har, hvo, h1]
    unfold pv at h2
    rw [hx] at h2
    cases hy : f (n.Arcs[i]).From with
    | none => rw [hy] at h2; simp at h2
    | some y =>
      rw [hy] at h2
      simp at h2
      exact ⟨by omega, by omega, h2.1, y, rfl, h2.2.1, h2.2.2⟩
theorem own_ok {n : S_api_Net} (hn : okNet n) {u : Int} (h0 : 0 ≤ u) (h1 : u < n.Nodes) {f : Tab} (hf : Opt n u f) (m : Nat) (hm : n.Arcs.length + 3000 ≤ m) : graph_CheckPaths m n u ⟨dist n f, vias n u f, []⟩ = some true := by
  have hN := hn.2.1
  obtain ⟨can, hs, hcl, hM⟩ := search_eq hn false h0 h1 m (by omega)
  have hMu : M can u := (hM u h0).2 .refl
  have hsome : ∀ w, 0 ≤ w → (M can w ↔ ∃ x, f w = some x) := fun w hw => by
    rw [hM w hw]
    constructor
    · intro h
      obtain ⟨k, s, hk⟩ := pth_wk h
      obtain ⟨x, hx, _⟩ := hf.cov k w s hk
      exact ⟨x, hx⟩
    · rintro ⟨x, hx⟩
      obtain ⟨k, _, hk⟩ := hf.snd w x hx
      exact wk_pth hk
  have hgd : ∀ v : Nat, v < n.Nodes.toNat → g (dist n f) v = dd f v := fun v hv => by unfold dist; rw [g_mapr _ hv]
  have hgv : ∀ v : Nat, v < n.Nodes.toNat → g (vias n u f) v = vo n u f v := fun v hv => by unfold vias; rw [g_mapr _ hv]
  have hbd : ∀ v : Nat, -2000000000 ≤ dd f v ∧ dd f v ≤ 2000000000 := fun v => by
    unfold dd
    cases hx : f (v : Int) with
    | none => simp
    | some x => have := opt_bd hn h0 h1 hf _ x hx; simp only; omega
  have hroot := opt_root hf
  have hnone : ∀ v : Nat, ¬ M can (v : Int) → f (v : Int) = none := fun v hv => by
    cases hx : f (v : Int) with
    | none => rfl
    | some x => exact absurd ((hsome v (by omega)).2 ⟨x, hx⟩) hv
  have hT : ∀ v, v < n.Nodes.toNat → Tv n u (dist n f) (vias n u f) can v := fun v hv => by
    have hb := hbd v
    refine ⟨by rw [hgd v hv]; omega, ?_, fun e => ?_, fun e hm' => ?_, fun e hm' => ?_⟩
    · rw [hgv v hv]; unfold vo
      split
      · omega
      · rcases fx_cases (pv f v) n.Arcs with ⟨h, _⟩ | ⟨i, hi, h, _⟩ <;> omega
    · rw [hgv v hv, hgd v hv]
      refine ⟨by unfold vo; rw [if_pos e], ?_⟩
      unfold dd; rw [e, hroot]
    · rw [hgv v hv, hgd v hv]
      have hx := hnone v hm'
      refine ⟨?_, by unfold dd; rw [hx]⟩
      unfold vo
      rw [if_neg e]
      rcases fx_cases (pv f v) n.Arcs with ⟨h, _⟩ | ⟨i, hi, _, h2, _⟩
      · exact h
      · unfold pv at h2; rw [hx] at h2; simp at h2
    · obtain ⟨x, hx⟩ := (hsome v (by omega)).1 hm'
      obtain ⟨q1, q2, q3, y, q4, q5, q6⟩ := vo_on hn hf e hx hv
      have hr : rng n (vias n u f) v := by unfold rng; rw [hgv v hv]; exact ⟨q1, q2⟩
      obtain ⟨f0, f1, _⟩ := ar_ok hn hr
      refine ⟨by rw [hgv v hv]; exact q1, q3, ?_⟩
      have e1 : dd f v = x.1 := by have := dd_of (f := f) (v := (v : Int)) (by omega) hx; simpa using this
      rw [hgd v hv, hgd _ (by omega), dd_of f0 q4, e1, q6]
  have hB : Bkp n u (vias n u f) can := by
    have key : ∀ (k fu : Nat) (w : Int) (s : Int), k ≤ fu → 0 ≤ w → w < n.Nodes → f w = some (s, (k : Int)) → bk n u (vias n u f) can fu w = true := by
      intro k
      induction k with
      | zero =>
        intro fu w s _ w0 w1 hx
        obtain ⟨k', e1, e2⟩ := hf.snd _ _ hx
        simp only at e1 e2
        have : k' = 0 := by omega
        subst this
        cases e2
        cases fu <;> simp [bk]
      | succ k ih =>
        intro fu w s hk w0 w1 hx
        obtain ⟨fu, rfl⟩ : ∃ q, fu = q + 1 := ⟨fu - 1, by omega⟩
        unfold bk
        by_cases hu : w = u
        · simp [hu]
        · have hMw := (hsome w w0).2 ⟨_, hx⟩
          have hwn : ((w.toNat : Nat) : Int) = w := by omega
          obtain ⟨q1, q2, q3, y, q4, q5, q6⟩ := vo_on hn hf (v := w.toNat) (by omega) (by rw [hwn]; exact hx) (by omega)
          have hr : rng n (vias n u f) w.toNat := by unfold rng; rw [hgv _ (by omega)]; exact ⟨q1, q2⟩
          obtain ⟨f0, f1, _⟩ := ar_ok hn hr
          simp only at q5
          have := ih fu (nx n (vias n u f) w) y.1 (by omega) f0 f1 (by unfold nx; rw [q4]; congr 1; exact Prod.ext rfl (by simp only; omega))
          simp [hMw, this]
    intro v hv hMv
    obtain ⟨x, hx⟩ := (hsome v (by omega)).1 hMv
    obtain ⟨k, e1, e2⟩ := hf.snd _ _ hx
    have hx' : f (v : Int) = some (x.1, (k : Int)) := by rw [hx]; congr 1; exact Prod.ext rfl e1
    have := opt_short hn h0 h1 hf hx'
    exact key k _ v x.1 (by omega) (by omega) (by omega) hx'
  have hR : Tri n (dist n f) can = true := by
    unfold Tri
    rw [List.all_eq_true]
    intro a ha
    obtain ⟨f0, f1, t0, t1, _⟩ := hn.2.2.2 a ha
    unfold tri
    by_cases hMa : M can a.From
    · obtain ⟨x, hx⟩ := (hsome _ f0).1 hMa
      obtain ⟨y, hy, hlt⟩ := opt_rel hf ha x hx
      rw [hgd _ (by omega), hgd _ (by omega), dd_of f0 hx, dd_of t0 hy]
      unfold lt2 ext at hlt
      simp only at hlt
      simp
      omega
    · simp [hMa]
  have hD : (((⟨dist n f, vias n u f, []⟩ : S_api_Routes).Dist.length : Nat) : Int) = n.Nodes := by simp [dist]; omega
  have hV : (((⟨dist n f, vias n u f, []⟩ : S_api_Routes).Via.length : Nat) : Int) = n.Nodes := by simp [vias]; omega
  have h64 : in64 (dist n f) := fun x hx => by
    obtain ⟨v, _, rfl⟩ := List.mem_map.1 hx
    have := hbd v; omega
  unfold graph_CheckPaths graph_isNode
  rw [Valid_eq n m (by omega)]
  have ev : (decide (0 ≤ u) && decide (u < n.Nodes)) = true := by simp; omega
  simp only [hn, decide_true, obind, Option.bind_some, Bool.not_true, cond_false, ev, bindJ_go, hs]
  have ec : decide ((0 : Int) < (([] : List Int).length : Int)) = false := by simp
  have e2 : (decide (((dist n f).length : Int) ≠ n.Nodes) || decide (((vias n u f).length : Int) ≠ n.Nodes)) = false := by
    simp only at hD hV
    simp; omega
  simp only [ec, cond_false, e2]
  unfold graph_isTree
  rcases tree1 hn (u := u) (r := ⟨dist n f, vias n u f, []⟩) hcl hD hV h64 m (by omega) with ⟨_, t1⟩ | ⟨hno, _⟩
  · rcases tree2 hn (r := ⟨dist n f, vias n u f, []⟩) hcl hV hT hMu m (by omega) with ⟨_, t2⟩ | ⟨hno, _⟩
    · have hb : ∀ v : Nat, v < n.Nodes.toNat → -1099511627776 ≤ g (dist n f) v ∧ g (dist n f) v ≤ 1099511627776 := fun v hv => (hT v hv).bd
      have t3 := tree3 hn (r := ⟨dist n f, vias n u f, []⟩) hcl hD hb m (by omega)
      simp only at t3
      rw [hR] at t3
      rw [t1, bindJ_go, t2, bindJ_go]
      simp [t3]
    · exact absurd hB hno
  · exact absurd hT hno
end Go.Proofs.Ytgelifcckhemiaa
namespace Go.Proofs.Ytgelifcckhemiaa
open Go.Abs
theorem sane (n : Nat) : law09_sanity (n + 40) = some true := by kernel_rfl
end Go.Proofs.Ytgelifcckhemiaa
