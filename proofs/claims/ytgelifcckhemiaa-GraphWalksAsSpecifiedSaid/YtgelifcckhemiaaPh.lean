/-
  The heap of numbers, in plain words.
-/
import Derived.Test.YtgelifcckhemiaaFe
import Derived.Test.YtgelifcckhemiaaAbsPlain
namespace Go.Proofs.Ytgelifcckhemiaa
open Go.Abs
set_option linter.unusedSimpArgs false
set_option linter.unusedVariables false
def g (h : List Int) (i : Nat) : Int := h.getD i 0
theorem g_get {h : List Int} {i : Nat} (hi : i < h.length) : h[i]? = some (g h i) := by simp [g, List.getD, List.getElem?_eq_getElem hi]
theorem g_el {h : List Int} {i : Nat} (hi : i < h.length) : h[i] = g h i := by simp [g, List.getD, List.getElem?_eq_getElem hi]
def swp (h : List Int) (i k : Nat) : List Int := (h.set i (g h k)).set k (g h i)
theorem swp_len {h : List Int} {i k : Nat} : (swp h i k).length = h.length := by simp [swp]
theorem g_set {h : List Int} {i j : Nat} {v : Int} (hi : i < h.length) : g (h.set i v) j = if j = i then v else g h j := by
  unfold g
  rw [List.getD_eq_getElem?_getD, List.getElem?_set, List.getD_eq_getElem?_getD]
  by_cases e : j = i
  · subst e; simp [hi]
  · have : ¬ i = j := fun h => e h.symm
    simp [e, this]
theorem g_swp {h : List Int} {i k j : Nat} (hi : i < h.length) (hk : k < h.length) : g (swp h i k) j = if j = k then g h i else if j = i then g h k else g h j := by
  unfold swp
  rw [g_set (by simpa using hk)]
  split
  · rfl
  · rw [g_set hi]
theorem swp_perm {h : List Int} {i k : Nat} (hi : i < h.length) (hk : k < h.length) : (swp h i k).Perm h := by
  unfold swp
  rw [← g_el hi, ← g_el hk]
  exact List.set_set_perm hi hk
theorem Swap_eq {h : List Int} {i k : Nat} (hi : i < h.length) (hk : k < h.length) : weirgate_graph_ints_Swap_91_v1 h i k = some (swp h i k) := by
  unfold weirgate_graph_ints_Swap_91_v1
  rw [idx_get (g_get hk), idx_get (g_get hi)]
  rw [Int.toNat_natCast, idx_get' (by simpa using hk)]
  rfl
theorem Less_eq {h : List Int} {i k : Nat} (hi : i < h.length) (hk : k < h.length) : weirgate_graph_ints_Less_88 h i k = some (decide (g h i < g h k)) := by
  unfold weirgate_graph_ints_Less_88
  rw [idx_get (g_get hi), idx_get (g_get hk)]
theorem par_int (j : Nat) (hj : j ≤ 1000000) : IntKind.i64.wrap ((IntKind.i64.wrap ((j : Int) - 1)).tdiv 2) = (((j - 1) / 2 : Nat) : Int) := by
  cases j with
  | zero => rw [w64 (x := ((0 : Nat) : Int) - 1) (by omega) (by omega)]; decide
  | succ j =>
    rw [w64 (x := ((j + 1 : Nat) : Int) - 1) (by omega) (by omega), show ((j + 1 : Nat) : Int) - 1 = ((j : Nat) : Int) by omega]
    rw [show (((j : Nat) : Int).tdiv 2) = ((j / 2 : Nat) : Int) from rfl, w64 (by omega) (by omega)]
    simp
def Heap (n : Nat) (h : List Int) : Prop := ∀ i, 0 < i → i < n → g h ((i - 1) / 2) ≤ g h i
structure Up (l : List Int) (s : Int × List Int) (j : Nat) : Prop where
  e : s.1 = (j : Int)
  lt : j < s.2.length
  perm : s.2.Perm l
  h1 : ∀ i, 0 < i → i < s.2.length → i ≠ j → g s.2 ((i - 1) / 2) ≤ g s.2 i
  h2 : ∀ i, 0 < i → i < s.2.length → (i - 1) / 2 = j → 0 < j → g s.2 ((j - 1) / 2) ≤ g s.2 i
theorem up_step {x : List Int} {j : Nat} (hj : j < x.length) (hl : x.length ≤ 1000000) :
    container_heap_up_59_L1 ((j : Int), x) = if j = 0 ∨ ¬ g x j < g x ((j - 1) / 2) then some (.stop x) else some (.go ((((j - 1) / 2 : Nat) : Int), swp x ((j - 1) / 2) j)) := by
  unfold container_heap_up_59_L1
  simp only [par_int j (by omega)]
  by_cases h0 : j = 0
  · subst h0; simp
  · have e : decide ((((j - 1) / 2 : Nat) : Int) = (j : Int)) = false := by simp; omega
    simp only [e, cond_false]
    rw [Less_eq hj (by omega)]
    simp only [obind, Option.bind_some, bindJ_go]
    by_cases h : g x j < g x ((j - 1) / 2)
    · rw [if_neg (by rintro (h' | h'); exact h0 h'; exact h' h)]
      simp only [h, decide_true, Bool.not_true, cond_false]
      rw [Swap_eq (by omega) hj]; rfl
    · rw [if_pos (.inr h)]
      simp only [h, decide_false, Bool.not_false, cond_true]
theorem up_eq {l : List Int} (hl : l.length ≤ 1000000) {j : Nat} (hj : j < l.length) (h1 : ∀ i, 0 < i → i < l.length → i ≠ j → g l ((i - 1) / 2) ≤ g l i) (h2 : ∀ i, 0 < i → i < l.length → (i - 1) / 2 = j → 0 < j → g l ((j - 1) / 2) ≤ g l i) (m : Nat) (hm : l.length < m) :
    ∃ l', container_heap_up_59 m l j = some l' ∧ l'.Perm l ∧ Heap l'.length l' := by
  unfold container_heap_up_59
  have key := iter_inv (step := container_heap_up_59_L1) (fun s => ∃ j, Up l s j) (fun s => s.1.toNat) (fun r => r.Perm l ∧ Heap r.length r) (by
    rintro ⟨j', x⟩ ⟨j, hu⟩
    obtain ⟨he, hlt, hp, g1, g2⟩ := hu
    simp only at he hlt hp g1 g2
    subst he
    have hxl : x.length = l.length := hp.length_eq
    rw [up_step hlt (by omega)]
    by_cases hc : j = 0 ∨ ¬ g x j < g x ((j - 1) / 2)
    · right
      rw [if_pos hc]
      refine ⟨x, rfl, hp, fun i hi0 hil => ?_⟩
      by_cases e : i = j
      · subst e
        rcases hc with h | h
        · omega
        · omega
      · exact g1 i hi0 hil e
    · left
      rw [if_neg hc]
      have hj0 : j ≠ 0 := fun h => hc (.inl h)
      have hlt2 : g x j < g x ((j - 1) / 2) := Classical.byContradiction fun h => hc (.inr h)
      obtain ⟨p, hpd⟩ : ∃ p, p = (j - 1) / 2 := ⟨_, rfl⟩
      rw [← hpd] at hlt2 ⊢
      have hpj : p < j := by omega
      have hpl : p < x.length := by omega
      have gs : ∀ i, g (swp x p j) i = if i = j then g x p else if i = p then g x j else g x i := fun i => g_swp hpl hlt
      refine ⟨_, rfl, ⟨p, rfl, by simp only [swp_len]; exact hpl, (swp_perm hpl hlt).trans hp, fun i hi0 hil hip => ?_, fun i hi0 hil hip hp0 => ?_⟩, by simp; omega⟩
      · simp only [swp_len] at hil
        simp only [gs]
        by_cases e1 : i = j
        · subst e1
          rw [if_pos rfl, ← hpd, if_neg (by omega), if_pos rfl]; omega
        · rw [if_neg e1, if_neg hip]
          by_cases e2 : (i - 1) / 2 = j
          · rw [if_pos e2]
            have := g2 i hi0 hil e2 (by omega)
            rwa [← hpd] at this
          · rw [if_neg e2]
            have := g1 i hi0 hil e1
            by_cases e3 : (i - 1) / 2 = p
            · rw [if_pos e3]; rw [e3] at this; omega
            · rw [if_neg e3]; exact this
      · simp only [swp_len] at hil
        simp only [gs]
        have hpp := g1 p hp0 hpl (by omega)
        rw [if_neg (by omega), if_neg (by omega)]
        by_cases e1 : i = j
        · rw [if_pos e1]; exact hpp
        · rw [if_neg e1, if_neg (by omega)]
          have := g1 i hi0 hil e1
          rw [hip] at this; omega)
    m ((j : Int), l) ⟨j, rfl, hj, List.Perm.refl _, h1, h2⟩ (by simp; omega)
  obtain ⟨r, hr, h3, h4⟩ := key
  exact ⟨r, hr, h3, h4⟩
theorem g_app {l : List Int} {x : Int} {i : Nat} : g (l ++ [x]) i = if i < l.length then g l i else if i = l.length then x else 0 := by
  unfold g
  rw [List.getD_eq_getElem?_getD, List.getElem?_append, List.getD_eq_getElem?_getD]
  split
  · rfl
  · split
    · rename_i h e; subst e; simp
    · rename_i h e
      rw [List.getElem?_eq_none (by simp; omega)]; rfl
theorem Push_eq {l : List Int} (hl : l.length ≤ 100000) (hh : Heap l.length l) (x : Int) (m : Nat) (hm : l.length + 1 < m) : ∃ l', container_heap_Push_36 m l x = some l' ∧ l'.Perm (x :: l) ∧ Heap l'.length l' := by
  have hlen : (l ++ [x]).length = l.length + 1 := by simp
  obtain ⟨l', h1, h2, h3⟩ := up_eq (l := l ++ [x]) (by omega) (j := l.length) (by omega) (fun i hi0 hil hne => by
    rw [hlen] at hil
    rw [g_app, g_app, if_pos (by omega), if_pos (by omega)]
    exact hh i hi0 (by omega)) (fun i hi0 hil hp h0 => by rw [hlen] at hil; omega) m (by omega)
  refine ⟨l', ?_, h2.trans (List.perm_append_comm.trans (List.Perm.refl _)), h3⟩
  unfold container_heap_Push_36 weirgate_graph_ints_Push_90 weirgate_graph_ints_Len_37
  rw [need_pos (by simp; omega)]
  simp only [obind, Option.bind_some]
  rw [hlen, w64 (by omega) (by omega), show (((l.length + 1 : Nat) : Int) - 1) = ((l.length : Nat) : Int) by omega, h1]
  rfl
structure Dn (n : Nat) (l : List Int) (s : Int × List Int) (i : Nat) : Prop where
  e : s.1 = (i : Int)
  len : s.2.length = l.length
  perm : s.2.Perm l
  keep : ∀ k, n ≤ k → g s.2 k = g l k
  h1 : ∀ k, 0 < k → k < n → (k - 1) / 2 ≠ i → g s.2 ((k - 1) / 2) ≤ g s.2 k
  h2 : ∀ k, 0 < k → k < n → (k - 1) / 2 = i → 0 < i → g s.2 ((i - 1) / 2) ≤ g s.2 k
  lt : i ≤ n
theorem down_step {x : List Int} {i n : Nat} (hn : n ≤ x.length) (hi : i ≤ n) (hl : x.length ≤ 1000000) :
    container_heap_down_60_L1 (n : Int) ((i : Int), x) = if n ≤ 2 * i + 1 then some (.stop (.go ((i : Int), x))) else
      (if ¬ g x (if 2 * i + 2 < n ∧ g x (2 * i + 2) < g x (2 * i + 1) then 2 * i + 2 else 2 * i + 1) < g x i then some (.stop (.go ((i : Int), x))) else
        some (.go ((((if 2 * i + 2 < n ∧ g x (2 * i + 2) < g x (2 * i + 1) then 2 * i + 2 else 2 * i + 1) : Nat) : Int), swp x i (if 2 * i + 2 < n ∧ g x (2 * i + 2) < g x (2 * i + 1) then 2 * i + 2 else 2 * i + 1)))) := by
  unfold container_heap_down_60_L1
  simp only []
  rw [w64 (x := 2 * (i : Int)) (by omega) (by omega), w64 (x := 2 * (i : Int) + 1) (by omega) (by omega), w64 (x := 2 * (i : Int) + 1 + 1) (by omega) (by omega)]
  rw [show (2 * (i : Int) + 1 + 1) = ((2 * i + 2 : Nat) : Int) by omega, show (2 * (i : Int) + 1) = ((2 * i + 1 : Nat) : Int) by omega]
  by_cases h : n ≤ 2 * i + 1
  · have e : (decide ((n : Int) ≤ ((2 * i + 1 : Nat) : Int)) || decide (((2 * i + 1 : Nat) : Int) < 0)) = true := by simp; omega
    rw [e, if_pos h]; rfl
  · have e : (decide ((n : Int) ≤ ((2 * i + 1 : Nat) : Int)) || decide (((2 * i + 1 : Nat) : Int) < 0)) = false := by simp; omega
    rw [e, if_neg h]
    simp only [cond_false]
    have key : ∀ (j : Nat), j < x.length → (obind (weirgate_graph_ints_Less_88 x (j : Int) (i : Int)) fun r31 =>
        cond (!r31)
          (some (Lp.stop (S := Int × List Int) (Lp.go (R := Bool × List Int) ((i : Int), x))))
          (obind (weirgate_graph_ints_Swap_91_v1 x (i : Int) (j : Int)) fun r34 =>
          some (.go ((j : Int), r34)))) = (if ¬ g x j < g x i then some (.stop (.go ((i : Int), x))) else some (.go ((j : Int), swp x i j))) := by
      intro j hj
      rw [Less_eq hj (by omega)]
      simp only [obind, Option.bind_some]
      by_cases hc : g x j < g x i
      · simp only [hc, decide_true, Bool.not_true, cond_false, not_true_eq_false, if_false]
        rw [Swap_eq (by omega) hj]; rfl
      · simp only [hc, decide_false, Bool.not_false, cond_true, not_false_eq_true, if_true]
    by_cases h2 : 2 * i + 2 < n
    · have e2 : decide ((((2 * i + 2 : Nat)) : Int) < (n : Int)) = true := by simp; omega
      simp only [e2, cond_true]
      rw [Less_eq (by omega) (by omega)]
      simp only [obind, Option.bind_some, bindJ_go]
      by_cases h3 : g x (2 * i + 2) < g x (2 * i + 1)
      · simp only [h3, decide_true, cond_true, bindJ_go, h2, and_self, if_true]
        exact key _ (by omega)
      · simp only [h3, decide_false, cond_false, bindJ_go, and_false, if_false]
        exact key _ (by omega)
    · have e2 : decide ((((2 * i + 2 : Nat)) : Int) < (n : Int)) = false := by simp; omega
      simp only [e2, cond_false, bindJ_go, h2, false_and, if_false]
      exact key _ (by omega)
theorem down_eq {l : List Int} (hl : l.length ≤ 1000000) {n : Nat} (hn : n ≤ l.length) (h1 : ∀ k, 0 < k → k < n → (k - 1) / 2 ≠ 0 → g l ((k - 1) / 2) ≤ g l k) (m : Nat) (hm : l.length + 1 < m) :
    ∃ b l', container_heap_down_60 m l 0 (n : Int) = some (b, l') ∧ l'.Perm l ∧ l'.length = l.length ∧ Heap n l' ∧ ∀ k, n ≤ k → g l' k = g l k := by
  unfold container_heap_down_60
  have key := iter_inv (step := container_heap_down_60_L1 (n : Int)) (fun s => ∃ i, Dn n l s i) (fun s => n + 1 - s.1.toNat) (fun r => ∃ (i : Int) (x : List Int), r = .go (i, x) ∧ x.Perm l ∧ x.length = l.length ∧ Heap n x ∧ ∀ k, n ≤ k → g x k = g l k) (by
    rintro ⟨i', x⟩ ⟨i, hd⟩
    obtain ⟨he, hlen, hp, hk, g1, g2, hin⟩ := hd
    simp only at he hlen hp hk g1 g2
    subst he
    rw [down_step (by omega) hin (by omega)]
    by_cases hc : n ≤ 2 * i + 1
    · right
      rw [if_pos hc]
      exact ⟨_, rfl, _, _, rfl, hp, hlen, fun k hk0 hkn => g1 k hk0 hkn (by omega), hk⟩
    · rw [if_neg hc]
      obtain ⟨j, hj⟩ : ∃ j, j = (if 2 * i + 2 < n ∧ g x (2 * i + 2) < g x (2 * i + 1) then 2 * i + 2 else 2 * i + 1) := ⟨_, rfl⟩
      rw [← hj]
      have hjn : j < n := by rw [hj]; split <;> omega
      have hjp : (j - 1) / 2 = i := by rw [hj]; split <;> omega
      have hj0 : 0 < j := by rw [hj]; split <;> omega
      have hmin : ∀ k, 0 < k → k < n → (k - 1) / 2 = i → g x j ≤ g x k := by
        intro k hk0 hkn hkp
        have hk' : k = 2 * i + 1 ∨ k = 2 * i + 2 := by omega
        rw [hj]
        split
        · rename_i h; rcases hk' with rfl | rfl <;> omega
        · rename_i h
          rcases hk' with rfl | rfl
          · omega
          · have : ¬ g x (2 * i + 2) < g x (2 * i + 1) := fun h' => h ⟨hkn, h'⟩
            omega
      by_cases hlt : g x j < g x i
      · left
        rw [if_neg (by simpa using hlt)]
        have hil : i < x.length := by omega
        have hjl : j < x.length := by omega
        have gs : ∀ k, g (swp x i j) k = if k = j then g x i else if k = i then g x j else g x k := fun k => g_swp hil hjl
        refine ⟨_, rfl, ⟨j, rfl, by simp only [swp_len]; exact hlen, (swp_perm hil hjl).trans hp, fun k hkn => ?_, fun k hk0 hkn hkp => ?_, fun k hk0 hkn hkp _ => ?_, by omega⟩, by simp; omega⟩
        · simp only [gs]; rw [if_neg (by omega), if_neg (by omega)]; exact hk k hkn
        · simp only [gs]
          rw [if_neg hkp]
          by_cases e1 : k = j
          · subst e1; rw [if_pos rfl, if_pos hjp]; omega
          · rw [if_neg e1]
            by_cases e2 : (k - 1) / 2 = i
            · rw [if_pos e2, if_neg (by omega)]
              exact hmin k hk0 hkn e2
            · rw [if_neg e2]
              by_cases e3 : k = i
              · subst e3; rw [if_pos rfl]
                exact g2 j hj0 hjn hjp hk0
              · rw [if_neg e3]; exact g1 k hk0 hkn e2
        · simp only [gs]
          rw [hjp, if_neg (by omega), if_pos rfl, if_neg (by omega), if_neg (by omega)]
          have := g1 k hk0 hkn (by omega)
          rwa [hkp] at this
      · right
        rw [if_pos hlt]
        refine ⟨_, rfl, _, _, rfl, hp, hlen, fun k hk0 hkn => ?_, hk⟩
        by_cases e : (k - 1) / 2 = i
        · have := hmin k hk0 hkn e; rw [e]; omega
        · exact g1 k hk0 hkn e)
    m ((0 : Nat), l) ⟨0, rfl, rfl, List.Perm.refl _, fun _ _ => rfl, h1, fun k hk0 hkn hkp h0 => by omega, Nat.zero_le _⟩ (by simp; omega)
  obtain ⟨r, hr, i, x, rfl, h3, h4, h5, h6⟩ := key
  rw [show ((0 : Nat) : Int) = 0 from rfl] at hr
  rw [hr, bindJ_go]
  exact ⟨_, x, rfl, h3, h4, h5, h6⟩
theorem heap_min {n : Nat} {l : List Int} (h : Heap n l) : ∀ k, k < n → g l 0 ≤ g l k := by
  intro k
  induction k using Nat.strongRecOn with
  | ind k ih =>
    intro hk
    by_cases h0 : k = 0
    · subst h0; exact Int.le_refl _
    · have h1 := h k (by omega) hk
      have h2 := ih ((k - 1) / 2) (by omega) (by omega)
      omega
theorem Pop_eq {l : List Int} (hl : l.length ≤ 100000) (hh : Heap l.length l) (hne : l ≠ []) (m : Nat) (hm : l.length + 1 < m) :
    ∃ x l', container_heap_Pop_38 m l = some (x, l') ∧ (x :: l').Perm l ∧ Heap l'.length l' ∧ ∀ y ∈ l, x ≤ y := by
  have hpos : 0 < l.length := List.length_pos_iff.2 hne
  obtain ⟨q, hq⟩ : ∃ q, l.length = q + 1 := ⟨l.length - 1, by omega⟩
  have gs : ∀ k, g (swp l 0 q) k = if k = q then g l 0 else if k = 0 then g l q else g l k := fun k => g_swp hpos (by omega)
  obtain ⟨b, z, h1, h2, h3, h4, h5⟩ := down_eq (l := swp l 0 q) (by rw [swp_len]; omega) (n := q) (by rw [swp_len]; omega) (fun k hk0 hkn hkp => by
    rw [gs, gs, if_neg (by omega), if_neg hkp, if_neg (by omega), if_neg (by omega)]
    exact hh k hk0 (by omega)) m (by rw [swp_len]; omega)
  have hzl : z.length = q + 1 := by rw [h3, swp_len, hq]
  have hzq : g z q = g l 0 := by rw [h5 q (Nat.le_refl _), gs, if_pos rfl]
  refine ⟨g l 0, z.take q, ?_, ?_, ?_, ?_⟩
  · unfold container_heap_Pop_38 weirgate_graph_ints_Len_37
    simp only [obind, Option.bind_some]
    rw [hq, w64 (by omega) (by omega), show (((q + 1 : Nat) : Int) - 1) = ((q : Nat) : Int) by omega, show (0 : Int) = ((0 : Nat) : Int) from rfl, Swap_eq hpos (by omega)]
    simp only [Option.bind_some]
    rw [show ((0 : Nat) : Int) = 0 from rfl, h1]
    simp only [Option.bind_some]
    unfold weirgate_graph_ints_Pop_89
    rw [hzl, w64 (by omega) (by omega), show (((q + 1 : Nat) : Int) - 1) = ((q : Nat) : Int) by omega, idx_get (g_get (by omega)), need_pos (by omega), hzq]
    rfl
  · have e : z = z.take q ++ [g l 0] := by
      have h6 := List.take_append_drop q z
      have h7 : z.drop q = [z[q]'(by omega)] := by
        rw [List.drop_eq_getElem_cons (by omega), List.drop_eq_nil_of_le (by omega)]
      rw [h7, g_el (by omega), hzq] at h6
      exact h6.symm
    have hp := h2.trans (swp_perm hpos (show q < l.length by omega))
    rw [e] at hp
    exact (List.perm_append_comm (l₁ := [g l 0]) (l₂ := z.take q)).trans hp
  · have hl' : (z.take q).length = q := by rw [List.length_take]; omega
    rw [hl']
    intro i hi0 hin
    have gt : ∀ k, k < q → g (z.take q) k = g z k := fun k hk => by simp [g, List.getD, List.getElem?_take, hk]
    rw [gt _ (by omega), gt _ hin]
    exact h4 i hi0 hin
  · intro y hy
    obtain ⟨k, hk, rfl⟩ := List.getElem_of_mem hy
    rw [g_el hk]
    exact heap_min hh k hk
theorem heap_nil : Heap ([] : List Int).length [] := fun i _ h => by simp at h
end Go.Proofs.Ytgelifcckhemiaa
