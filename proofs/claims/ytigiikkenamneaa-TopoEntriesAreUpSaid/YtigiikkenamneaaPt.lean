/-
  Chains told by parents, in plain words: what the program's Depths computes.
-/
import Derived.Test.YtigiikkenamneaaFa
import Derived.Test.YtigiikkenamneaaAbsPlain
namespace Go.Proofs.Ytigiikkenamneaa
open Go.Abs
set_option linter.unusedSimpArgs false
set_option linter.unusedVariables false
def par (p : List Int) (w : Int) : Int := p.getD w.toNat (-1)
def ch (p : List Int) : Nat → Int → List Int
  | 0, _ => []
  | f + 1, w => if w < 0 then [] else w :: ch p f (par p w)
def en (p : List Int) : Nat → Int → Bool
  | 0, w => decide (w < 0)
  | f + 1, w => decide (w < 0) || en p f (par p w)
def okp (p : List Int) : Prop := ∀ x ∈ p, -1 ≤ x ∧ x < (p.length : Int)
def wfp (p : List Int) : Prop := okp p ∧ ∀ v : Nat, v < p.length → en p p.length v = true
instance (p : List Int) : Decidable (okp p) := by unfold okp; exact inferInstance
instance (p : List Int) : Decidable (wfp p) := by unfold wfp; exact inferInstance
theorem idx_par {p : List Int} {w : Int} {β : Type} (h0 : 0 ≤ w) (h1 : w < (p.length : Int)) (k : Int → Option β) : idx p w k = k (par p w) := by
  have hlt : w.toNat < p.length := by omega
  have : p[w.toNat]? = some (par p w) := by simp [par, List.getD, List.getElem?_eq_getElem hlt]
  simp [idx, h0, this]
theorem par_mem {p : List Int} {w : Int} (h0 : 0 ≤ w) (h1 : w < (p.length : Int)) : par p w ∈ p := by
  have hlt : w.toNat < p.length := by omega
  have : par p w = p[w.toNat] := by simp [par, List.getD, List.getElem?_eq_getElem hlt]
  rw [this]; exact List.getElem_mem _
theorem ch_neg {p : List Int} {w : Int} (h : w < 0) : ∀ f, ch p f w = []
  | 0 => rfl
  | f + 1 => by simp [ch, h]
theorem en_neg {p : List Int} {w : Int} (h : w < 0) : ∀ f, en p f w = true
  | 0 => by simp [en, h]
  | f + 1 => by simp [en, h]
theorem en_succ {p : List Int} {f : Nat} {w : Int} (h : 0 ≤ w) : en p (f + 1) w = en p f (par p w) := by
  have : ¬ w < 0 := by omega
  simp [en, this]
theorem ch_succ {p : List Int} {f : Nat} {w : Int} (h : 0 ≤ w) : ch p (f + 1) w = w :: ch p f (par p w) := by
  have : ¬ w < 0 := by omega
  simp [ch, this]
theorem en_more {p : List Int} : ∀ (f g : Nat) (w : Int), en p f w = true → f ≤ g → en p g w = true ∧ ch p g w = ch p f w
  | 0, g, w, h, _ => by
    have hw : w < 0 := by simpa [en] using h
    exact ⟨en_neg hw g, by rw [ch_neg hw, ch_neg hw]⟩
  | f + 1, 0, w, h, hg => by omega
  | f + 1, g + 1, w, h, hg => by
    by_cases hw : w < 0
    · exact ⟨en_neg hw _, by rw [ch_neg hw, ch_neg hw]⟩
    · have h0 : 0 ≤ w := by omega
      rw [en_succ h0] at h ⊢
      obtain ⟨h1, h2⟩ := en_more f g (par p w) h (by omega)
      exact ⟨h1, by rw [ch_succ h0, ch_succ h0, h2]⟩
theorem ch_len_le {p : List Int} : ∀ (f : Nat) (w : Int), (ch p f w).length ≤ f
  | 0, w => by simp [ch]
  | f + 1, w => by
    simp only [ch]; split
    · simp
    · have := ch_len_le (p := p) f (par p w); simp; omega
theorem en_len {p : List Int} : ∀ (f : Nat) (w : Int), en p f w = true → en p (ch p f w).length w = true
  | 0, w, h => by simpa [ch] using h
  | f + 1, w, h => by
    by_cases hw : w < 0
    · exact en_neg hw _
    · have h0 : 0 ≤ w := by omega
      rw [ch_succ h0, List.length_cons, en_succ h0]
      rw [en_succ h0] at h
      exact en_len f _ h
/-- what stands on a chain has a chain that is no longer -/
theorem ch_mem {p : List Int} : ∀ (f : Nat) (w y : Int), en p f w = true → y ∈ ch p f w → 0 ≤ y ∧ ∃ g, g ≤ f ∧ en p g y = true ∧ (ch p g y).length ≤ (ch p f w).length
  | 0, w, y, _, hy => by simp [ch] at hy
  | f + 1, w, y, h, hy => by
    by_cases hw : w < 0
    · rw [ch_neg hw] at hy; simp at hy
    · have h0 : 0 ≤ w := by omega
      rw [ch_succ h0] at hy
      rcases List.mem_cons.1 hy with rfl | hy
      · exact ⟨h0, f + 1, Nat.le_refl _, h, Nat.le_refl _⟩
      · rw [en_succ h0] at h
        obtain ⟨h1, g, h2, h3, h4⟩ := ch_mem f (par p w) y h hy
        exact ⟨h1, g, by omega, h3, by rw [ch_succ h0, List.length_cons]; omega⟩
theorem ch_nodup {p : List Int} : ∀ (f : Nat) (w : Int), en p f w = true → (ch p f w).Nodup
  | 0, w, _ => by simp [ch]
  | f + 1, w, h => by
    by_cases hw : w < 0
    · rw [ch_neg hw]; exact List.nodup_nil
    · have h0 : 0 ≤ w := by omega
      have h' := h
      rw [en_succ h0] at h
      rw [ch_succ h0]
      refine List.nodup_cons.2 ⟨fun hm => ?_, ch_nodup f _ h⟩
      obtain ⟨_, g, h2, h3, h4⟩ := ch_mem f (par p w) w h hm
      have e1 := (en_more g (f + 1) w h3 (by omega)).2
      rw [← e1, ch_succ h0, List.length_cons] at h4
      omega
theorem ch_in {p : List Int} (hp : okp p) : ∀ (f : Nat) (w : Int), w < p.length → ∀ y ∈ ch p f w, 0 ≤ y ∧ y < p.length
  | 0, w, _, y, hy => by simp [ch] at hy
  | f + 1, w, hw, y, hy => by
    by_cases h : w < 0
    · rw [ch_neg h] at hy; simp at hy
    · have h0 : 0 ≤ w := by omega
      rw [ch_succ h0] at hy
      rcases List.mem_cons.1 hy with rfl | hy
      · exact ⟨h0, hw⟩
      · exact ch_in hp f _ (hp _ (par_mem h0 hw)).2 y hy
theorem en_pigeon {p : List Int} (hp : okp p) {f : Nat} {w : Int} (hw : w < p.length) (h : en p f w = true) : en p p.length w = true :=
  (en_more _ _ w (en_len f w h) (nodup_range (ch_nodup f w h) (ch_in hp f w hw))).1

/-! the program -/
def dn (p : List Int) : Nat → Int → Option Nat
  | 0, w => if w < 0 then some 0 else none
  | f + 1, w => if w < 0 then some 0 else if par p w < -1 ∨ (p.length : Int) ≤ par p w then none else (dn p f (par p w)).map (· + 1)
theorem depth_step {p : List Int} (hl : p.length ≤ 256) {k w : Int} (h0 : 0 ≤ w) (h1 : w < p.length) (hk0 : -1 ≤ k) (hk1 : k < p.length) :
    graph_Depths_L2 p (k, w) = if (p.length : Int) ≤ k + 1 ∨ par p w < -1 ∨ (p.length : Int) ≤ par p w then some (.stop (.stop (.stop (.stop ([], 3))))) else some (.go (k + 1, par p w)) := by
  unfold graph_Depths_L2
  have hne : decide (w ≠ -1) = true := by simp; omega
  simp only [hne, cond_true, w64 (x := k + 1) (by omega) (by omega), idx_par h0 h1]
  by_cases a : (p.length : Int) ≤ k + 1
  · simp [a]
  · by_cases b : par p w < -1
    · simp [a, b]
    · by_cases c : (p.length : Int) ≤ par p w
      · simp [a, b, c]
      · simp [a, b, c]
theorem depth_in {p : List Int} (hl : p.length ≤ 256) : ∀ (f n : Nat) (k w : Int), -1 ≤ w → w < p.length → -1 ≤ k → k + 1 + f = p.length → f < n →
    iter (graph_Depths_L2 p) n (k, w) = some (match dn p f w with | some c => .go (k + c) | none => .stop (.stop (.stop ([], 3))))
  | f, 0, _, _, _, _, _, _, h => by omega
  | f, n + 1, k, w, hw0, hw1, hk, hf, hn => by
    by_cases hw : w < 0
    · have : w = -1 := by omega
      subst this
      have hs : graph_Depths_L2 p (k, -1) = some (.stop (.go k)) := by unfold graph_Depths_L2; simp
      rw [iter_stop hs]
      cases f <;> simp [dn]
    · have hs := depth_step hl (k := k) (w := w) (by omega) hw1 hk (by omega)
      cases f with
      | zero =>
        rw [if_pos (.inl (by omega))] at hs
        rw [iter_stop hs]; simp [dn, hw]
      | succ f =>
        have hk2 : ¬ (p.length : Int) ≤ k + 1 := by omega
        by_cases hb : par p w < -1 ∨ (p.length : Int) ≤ par p w
        · rw [if_pos (.inr hb)] at hs
          rw [iter_stop hs]; simp only [dn, if_neg hw, if_pos hb]
        · rw [if_neg (by rintro (h | h); exact hk2 h; exact hb h)] at hs
          rw [iter_go hs, depth_in hl f n (k + 1) (par p w) (by omega) (by omega) (by omega) (by omega) (by omega)]
          simp only [dn, if_neg hw, if_neg hb]
          cases dn p f (par p w) with
          | none => rfl
          | some c => simp; omega
theorem dn_some {p : List Int} (hp : okp p) : ∀ (f : Nat) (w : Int), w < p.length → dn p f w = if en p f w = true then some (ch p f w).length else none
  | 0, w, _ => by simp [dn, en, ch]
  | f + 1, w, h1 => by
    by_cases hw : w < 0
    · simp [dn, hw, en, ch]
    · have h0 : 0 ≤ w := by omega
      have := hp _ (par_mem h0 h1)
      simp only [dn, if_neg hw]
      rw [if_neg (by omega), dn_some hp f _ this.2, en_succ h0, ch_succ h0]
      split <;> simp
theorem dn_bad {p : List Int} {f : Nat} {w : Int} (h0 : 0 ≤ w) (hb : par p w < -1 ∨ (p.length : Int) ≤ par p w) : dn p f w = none := by
  have : ¬ w < 0 := by omega
  cases f <;> simp [dn, this, hb]
def depF (p : List Int) (out : List Int) (v : Nat) : Lp (List Int) (Lp (List Int) (List Int × Int)) := match dn p p.length v with | some c => .go (out ++ [(c : Int) - 1]) | none => .stop (.stop ([], 3))
theorem Depths_fold {p : List Int} (hl : p.length ≤ 256) (n : Nat) (hn : p.length < n) : iter (graph_Depths_L1 n p) n ([], 0) = some (foldL (depF p) .go [] (List.range p.length)) := by
  refine iter_range p.length (fun i (out : List Int) => (out, (i : Int))) (depF p) .go (fun i out => out.length = i) ?_ ?_ n [] rfl hn
  · intro i out ho hi
    have e : decide ((i : Int) < (p.length : Int)) = true := by simpa using hi
    refine ⟨?_, ?_⟩
    · unfold graph_Depths_L1 depF
      simp only [e, cond_true, depth_in hl p.length n (-1) i (by omega) (by omega) (by omega) (by omega) hn]
      cases hd : dn p p.length i with
      | none => rfl
      | some c =>
        simp only [bindJ_go, mapS_go]
        rw [need_pos (by simp; omega), w64 (by omega) (by omega)]
        simp; omega
    · intro s' hs
      unfold depF at hs
      cases hd : dn p p.length i with
      | none => rw [hd] at hs; simp at hs
      | some c => rw [hd] at hs; simp at hs; subst hs; simp [ho]
  · intro out _
    unfold graph_Depths_L1
    simp
def deps (p : List Int) : List Int := (List.range p.length).map fun v : Nat => ((ch p p.length v).length : Int) - 1
theorem Depths_eq {p : List Int} (n : Nat) (hn : p.length < n) : graph_Depths n p = some (if p.length ≤ 256 ∧ wfp p then (deps p, 0) else ([], 3)) := by
  unfold graph_Depths
  by_cases hl : p.length ≤ 256
  · have e : decide (256 < (p.length : Int)) = false := by simp; omega
    simp only [e, cond_false, Depths_fold hl n hn]
    by_cases hw : wfp p
    · rw [if_pos ⟨hl, hw⟩]
      rw [foldL_gom (fun out v => out ++ [((ch p p.length (v : Nat)).length : Int) - 1]) _ _ (fun out v hv => by
        have hv' : v < p.length := by simpa using hv
        unfold depF
        rw [dn_some hw.1 _ _ (by omega), if_pos (hw.2 v hv')])]
      rw [foldl_app]
      rfl
    · rw [if_neg (fun h => hw h.2)]
      rw [foldL_stop (.stop ([], 3))]
      · rfl
      · intro out v hv
        unfold depF
        cases dn p p.length v with
        | none => exact .inl rfl
        | some c => exact .inr ⟨_, rfl⟩
      · by_cases ho : okp p
        · obtain ⟨v, hv, he⟩ : ∃ v : Nat, v < p.length ∧ ¬ en p p.length v = true := by
            refine Classical.byContradiction fun h => hw ⟨ho, fun v hv => Classical.byContradiction fun he => h ⟨v, hv, he⟩⟩
          exact ⟨v, by simpa using hv, fun out => by unfold depF; rw [dn_some ho _ _ (by omega), if_neg he]⟩
        · obtain ⟨x, hx, hb⟩ : ∃ x ∈ p, ¬ (-1 ≤ x ∧ x < (p.length : Int)) := by
            refine Classical.byContradiction fun h => ho fun x hx => Classical.byContradiction fun he => h ⟨x, hx, he⟩
          obtain ⟨v, hv, rfl⟩ := List.getElem_of_mem hx
          refine ⟨v, by simpa using hv, fun out => ?_⟩
          have hpv : par p (v : Nat) = p[v] := by simp [par, List.getD, List.getElem?_eq_getElem hv]
          unfold depF
          rw [dn_bad (by omega) (by rw [hpv]; omega)]
  · have e : decide (256 < (p.length : Int)) = true := by simp; omega
    simp only [e, cond_true]
    rw [if_neg (fun h => hl h.1)]
end Go.Proofs.Ytigiikkenamneaa
