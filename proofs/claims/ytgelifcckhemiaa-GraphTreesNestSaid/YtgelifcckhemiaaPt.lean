/-
  Trees told by parents, in plain words: what the program's functions and the specification's functions compute.
-/
import Derived.Test.YtgelifcckhemiaaG5a
import Derived.Test.YtgelifcckhemiaaAbsPlain
namespace Go.Proofs.Ytgelifcckhemiaa
open Go.Abs
set_option linter.unusedSimpArgs false
set_option linter.unusedVariables false
def par (p : List Int) (w : Int) : Int := p.getD w.toNat (-1)
def ch (p : List Int) : Nat → Int → List Int
  | 0, _ => []
  | f + 1, w => if w < 0 then [] else w :: ch p f (par p w)
def en (p : List Int) : Nat → Int → Bool
  | 0, w => decide (w < 0)
  | f + 1, w => decide (w < 0) || en p f (par p w)
def okp (p : List Int) : Prop := ∀ x ∈ p, -1 ≤ x ∧ x < (p.length : Int)
def wfp (p : List Int) : Prop := okp p ∧ ∀ v : Nat, v < p.length → en p p.length v = true
instance (p : List Int) : Decidable (okp p) := by unfold okp; exact inferInstance
instance (p : List Int) : Decidable (wfp p) := by unfold wfp; exact inferInstance
theorem idx_par {p : List Int} {w : Int} {β : Type} (h0 : 0 ≤ w) (h1 : w < (p.length : Int)) (k : Int → Option β) : idx p w k = k (par p w) := by
  have hlt : w.toNat < p.length := by omega
  have : p[w.toNat]? = some (par p w) := by simp [par, List.getD, List.getElem?_eq_getElem hlt]
  simp [idx, h0, this]
theorem par_mem {p : List Int} {w : Int} (h0 : 0 ≤ w) (h1 : w < (p.length : Int)) : par p w ∈ p := by
  have hlt : w.toNat < p.length := by omega
  have : par p w = p[w.toNat] := by simp [par, List.getD, List.getElem?_eq_getElem hlt]
  rw [this]; exact List.getElem_mem _
theorem ch_neg {p : List Int} {w : Int} (h : w < 0) : ∀ f, ch p f w = []
  | 0 => rfl
  | f + 1 => by simp [ch, h]
theorem en_neg {p : List Int} {w : Int} (h : w < 0) : ∀ f, en p f w = true
  | 0 => by simp [en, h]
  | f + 1 => by simp [en, h]
theorem en_succ {p : List Int} {f : Nat} {w : Int} (h : 0 ≤ w) : en p (f + 1) w = en p f (par p w) := by
  have : ¬ w < 0 := by omega
  simp [en, this]
theorem ch_succ {p : List Int} {f : Nat} {w : Int} (h : 0 ≤ w) : ch p (f + 1) w = w :: ch p f (par p w) := by
  have : ¬ w < 0 := by omega
  simp [ch, this]
theorem en_more {p : List Int} : ∀ (f g : Nat) (w : Int), en p f w = true → f ≤ g → en p g w = true ∧ ch p g w = ch p f w
  | 0, g, w, h, _ => by
    have hw : w < 0 := by simpa [en] using h
    exact ⟨en_neg hw g, by rw [ch_neg hw, ch_neg hw]⟩
  | f + 1, 0, w, h, hg => by omega
  | f + 1, g + 1, w, h, hg => by
    by_cases hw : w < 0
    · exact ⟨en_neg hw _, by rw [ch_neg hw, ch_neg hw]⟩
    · have h0 : 0 ≤ w := by omega
      rw [en_succ h0] at h ⊢
      obtain ⟨h1, h2⟩ := en_more f g (par p w) h (by omega)
      exact ⟨h1, by rw [ch_succ h0, ch_succ h0, h2]⟩
theorem ch_len_le {p : List Int} : ∀ (f : Nat) (w : Int), (ch p f w).length ≤ f
  | 0, w => by simp [ch]
  | f + 1, w => by
    simp only [ch]; split
    · simp
    · have := ch_len_le (p := p) f (par p w); simp; omega
theorem en_len {p : List Int} : ∀ (f : Nat) (w : Int), en p f w = true → en p (ch p f w).length w = true
  | 0, w, h => by simpa [ch] using h
  | f + 1, w, h => by
    by_cases hw : w < 0
    · exact en_neg hw _
    · have h0 : 0 ≤ w := by omega
      rw [ch_succ h0, List.length_cons, en_succ h0]
      rw [en_succ h0] at h
      exact en_len f _ h
/-- what stands on a chain has a chain that is no longer -/
theorem ch_mem {p : List Int} : ∀ (f : Nat) (w y : Int), en p f w = true → y ∈ ch p f w → 0 ≤ y ∧ ∃ g, g ≤ f ∧ en p g y = true ∧ (ch p g y).length ≤ (ch p f w).length
  | 0, w, y, _, hy => by simp [ch] at hy
  | f + 1, w, y, h, hy => by
    by_cases hw : w < 0
    · rw [ch_neg hw] at hy; simp at hy
    · have h0 : 0 ≤ w := by omega
      rw [ch_succ h0] at hy
      rcases List.mem_cons.1 hy with rfl | hy
      · exact ⟨h0, f + 1, Nat.le_refl _, h, Nat.le_refl _⟩
      · rw [en_succ h0] at h
        obtain ⟨h1, g, h2, h3, h4⟩ := ch_mem f (par p w) y h hy
        exact ⟨h1, g, by omega, h3, by rw [ch_succ h0, List.length_cons]; omega⟩
theorem ch_nodup {p : List Int} : ∀ (f : Nat) (w : Int), en p f w = true → (ch p f w).Nodup
  | 0, w, _ => by simp [ch]
  | f + 1, w, h => by
    by_cases hw : w < 0
    · rw [ch_neg hw]; exact List.nodup_nil
    · have h0 : 0 ≤ w := by omega
      have h' := h
      rw [en_succ h0] at h
      rw [ch_succ h0]
      refine List.nodup_cons.2 ⟨fun hm => ?_, ch_nodup f _ h⟩
      obtain ⟨_, g, h2, h3, h4⟩ := ch_mem f (par p w) w h hm
      have e1 := (en_more g (f + 1) w h3 (by omega)).2
      rw [← e1, ch_succ h0, List.length_cons] at h4
      omega
theorem ch_in {p : List Int} (hp : okp p) : ∀ (f : Nat) (w : Int), w < p.length → ∀ y ∈ ch p f w, 0 ≤ y ∧ y < p.length
  | 0, w, _, y, hy => by simp [ch] at hy
  | f + 1, w, hw, y, hy => by
    by_cases h : w < 0
    · rw [ch_neg h] at hy; simp at hy
    · have h0 : 0 ≤ w := by omega
      rw [ch_succ h0] at hy
      rcases List.mem_cons.1 hy with rfl | hy
      · exact ⟨h0, hw⟩
      · exact ch_in hp f _ (hp _ (par_mem h0 hw)).2 y hy
theorem en_pigeon {p : List Int} (hp : okp p) {f : Nat} {w : Int} (hw : w < p.length) (h : en p f w = true) : en p p.length w = true :=
  (en_more _ _ w (en_len f w h) (nodup_range (ch_nodup f w h) (ch_in hp f w hw))).1

/-! the program -/
def dn (p : List Int) : Nat → Int → Option Nat
  | 0, w => if w < 0 then some 0 else none
  | f + 1, w => if w < 0 then some 0 else if par p w < -1 ∨ (p.length : Int) ≤ par p w then none else (dn p f (par p w)).map (· + 1)
theorem depth_step {p : List Int} (hl : p.length ≤ 256) {k w : Int} (h0 : 0 ≤ w) (h1 : w < p.length) (hk0 : -1 ≤ k) (hk1 : k < p.length) :
    graph_Depths_L2 p (k, w) = if (p.length : Int) ≤ k + 1 ∨ par p w < -1 ∨ (p.length : Int) ≤ par p w then some (.stop (.stop (.stop (.stop ([], 3))))) else some (.go (k + 1, par p w)) := by
  unfold graph_Depths_L2
  have hne : decide (w ≠ -1) = true := by simp; omega
  simp only [hne, cond_true, w64 (x := k + 1) (by omega) (by omega), idx_par h0 h1]
  by_cases a : (p.length : Int) ≤ k + 1
  · simp [a]
  · by_cases b : par p w < -1
    · simp [a, b]
    · by_cases c : (p.length : Int) ≤ par p w
      · simp [a, b, c]
      · simp [a, b, c]
theorem depth_in {p : List Int} (hl : p.length ≤ 256) : ∀ (f n : Nat) (k w : Int), -1 ≤ w → w < p.length → -1 ≤ k → k + 1 + f = p.length → f < n →
    iter (graph_Depths_L2 p) n (k, w) = some (match dn p f w with | some c => .go (k + c) | none => .stop (.stop (.stop ([], 3))))
  | f, 0, _, _, _, _, _, _, h => by omega
  | f, n + 1, k, w, hw0, hw1, hk, hf, hn => by
    by_cases hw : w < 0
    · have : w = -1 := by omega
      subst this
      have hs : graph_Depths_L2 p (k, -1) = some (.stop (.go k)) := by unfold graph_Depths_L2; simp
      rw [iter_stop hs]
      cases f <;> simp [dn]
    · have hs := depth_step hl (k := k) (w := w) (by omega) hw1 hk (by omega)
      cases f with
      | zero =>
        rw [if_pos (.inl (by omega))] at hs
        rw [iter_stop hs]; simp [dn, hw]
      | succ f =>
        have hk2 : ¬ (p.length : Int) ≤ k + 1 := by omega
        by_cases hb : par p w < -1 ∨ (p.length : Int) ≤ par p w
        · rw [if_pos (.inr hb)] at hs
          rw [iter_stop hs]; simp only [dn, if_neg hw, if_pos hb]
        · rw [if_neg (by rintro (h | h); exact hk2 h; exact hb h)] at hs
          rw [iter_go hs, depth_in hl f n (k + 1) (par p w) (by omega) (by omega) (by omega) (by omega) (by omega)]
          simp only [dn, if_neg hw, if_neg hb]
          cases dn p f (par p w) with
          | none => rfl
          | some c => simp; omega
theorem dn_some {p : List Int} (hp : okp p) : ∀ (f : Nat) (w : Int), w < p.length → dn p f w = if en p f w = true then some (ch p f w).length else none
  | 0, w, _ => by simp [dn, en, ch]
  | f + 1, w, h1 => by
    by_cases hw : w < 0
    · simp [dn, hw, en, ch]
    · have h0 : 0 ≤ w := by omega
      have := hp _ (par_mem h0 h1)
      simp only [dn, if_neg hw]
      rw [if_neg (by omega), dn_some hp f _ this.2, en_succ h0, ch_succ h0]
      split <;> simp
theorem dn_bad {p : List Int} {f : Nat} {w : Int} (h0 : 0 ≤ w) (hb : par p w < -1 ∨ (p.length : Int) ≤ par p w) : dn p f w = none := by
  have : ¬ w < 0 := by omega
  cases f <;> simp [dn, this, hb]
def depF (p : List Int) (out : List Int) (v : Nat) : Lp (List Int) (Lp (List Int) (List Int × Int)) := match dn p p.length v with | some c => .go (out ++ [(c : Int) - 1]) | none => .stop (.stop ([], 3))
theorem Depths_fold {p : List Int} (hl : p.length ≤ 256) (n : Nat) (hn : p.length < n) : iter (graph_Depths_L1 n p) n ([], 0) = some (foldL (depF p) .go [] (List.range p.length)) := by
  refine iter_range p.length (fun i (out : List Int) => (out, (i : Int))) (depF p) .go (fun i out => out.length = i) ?_ ?_ n [] rfl hn
  · intro i out ho hi
    have e : decide ((i : Int) < (p.length : Int)) = true := by simpa using hi
    refine ⟨?_, ?_⟩
    · unfold graph_Depths_L1 depF
      simp only [e, cond_true, depth_in hl p.length n (-1) i (by omega) (by omega) (by omega) (by omega) hn]
      cases hd : dn p p.length i with
      | none => rfl
      | some c =>
        simp only [bindJ_go, mapS_go]
        rw [need_pos (by simp; omega), w64 (by omega) (by omega)]
        simp; omega
    · intro s' hs
      unfold depF at hs
      cases hd : dn p p.length i with
      | none => rw [hd] at hs; simp at hs
      | some c => rw [hd] at hs; simp at hs; subst hs; simp [ho]
  · intro out _
    unfold graph_Depths_L1
    simp
def deps (p : List Int) : List Int := (List.range p.length).map fun v : Nat => ((ch p p.length v).length : Int) - 1
theorem Depths_eq {p : List Int} (n : Nat) (hn : p.length < n) : graph_Depths n p = some (if p.length ≤ 256 ∧ wfp p then (deps p, 0) else ([], 3)) := by
  unfold graph_Depths
  by_cases hl : p.length ≤ 256
  · have e : decide (256 < (p.length : Int)) = false := by simp; omega
    simp only [e, cond_false, Depths_fold hl n hn]
    by_cases hw : wfp p
    · rw [if_pos ⟨hl, hw⟩]
      rw [foldL_gom (fun out v => out ++ [((ch p p.length (v : Nat)).length : Int) - 1]) _ _ (fun out v hv => by
        have hv' : v < p.length := by simpa using hv
        unfold depF
        rw [dn_some hw.1 _ _ (by omega), if_pos (hw.2 v hv')])]
      rw [foldl_app]
      rfl
    · rw [if_neg (fun h => hw h.2)]
      rw [foldL_stop (.stop ([], 3))]
      · rfl
      · intro out v hv
        unfold depF
        cases dn p p.length v with
        | none => exact .inl rfl
        | some c => exact .inr ⟨_, rfl⟩
      · by_cases ho : okp p
        · obtain ⟨v, hv, he⟩ : ∃ v : Nat, v < p.length ∧ ¬ en p p.length v = true := by
            refine Classical.byContradiction fun h => hw ⟨ho, fun v hv => Classical.byContradiction fun he => h ⟨v, hv, he⟩⟩
          exact ⟨v, by simpa using hv, fun out => by unfold depF; rw [dn_some ho _ _ (by omega), if_neg he]⟩
        · obtain ⟨x, hx, hb⟩ : ∃ x ∈ p, ¬ (-1 ≤ x ∧ x < (p.length : Int)) := by
            refine Classical.byContradiction fun h => ho fun x hx => Classical.byContradiction fun he => h ⟨x, hx, he⟩
          obtain ⟨v, hv, rfl⟩ := List.getElem_of_mem hx
          refine ⟨v, by simpa using hv, fun out => ?_⟩
          have hpv : par p (v : Nat) = p[v] := by simp [par, List.getD, List.getElem?_eq_getElem hv]
          unfold depF
          rw [dn_bad (by omega) (by rw [hpv]; omega)]
  · have e : decide (256 < (p.length : Int)) = true := by simp; omega
    simp only [e, cond_true]
    rw [if_neg (fun h => hl h.1)]
theorem climb_in {p : List Int} (hp : okp p) (hl : p.length ≤ 256) : ∀ (f n : Nat) (out : List Int) (w : Int), -1 ≤ w → w < p.length → en p f w = true → out.length + f ≤ 1000 → f < n →
    iter (graph_climb_L1 p) n (w, out) = some (.go (out ++ ch p f w))
  | f, 0, _, _, _, _, _, _, h => by omega
  | f, n + 1, out, w, hw0, hw1, he, ho, hn => by
    by_cases hw : w < 0
    · have : w = -1 := by omega
      subst this
      have hs : graph_climb_L1 p (-1, out) = some (.stop (.go out)) := by unfold graph_climb_L1; simp
      rw [iter_stop hs, ch_neg hw]; simp
    · have h0 : 0 ≤ w := by omega
      cases f with
      | zero => simp [en] at he; omega
      | succ f =>
        have hs : graph_climb_L1 p (w, out) = some (.go (par p w, out ++ [w])) := by
          unfold graph_climb_L1
          have : decide (w ≠ -1) = true := by simp; omega
          simp only [this, cond_true]
          rw [need_pos (by simp; omega), idx_par h0 hw1]
        have hm := hp _ (par_mem h0 hw1)
        rw [en_succ h0] at he
        rw [iter_go hs, climb_in hp hl f n (out ++ [w]) (par p w) hm.1 hm.2 he (by simp; omega) (by omega), ch_succ h0]
        simp
theorem climb_eq {p : List Int} (hw : wfp p) (hl : p.length ≤ 256) {v : Int} (h0 : 0 ≤ v) (h1 : v < p.length) (n : Nat) (hn : p.length < n) : graph_climb n p v = some (ch p p.length v) := by
  have he : en p p.length v = true := by have := hw.2 v.toNat (by omega); rwa [show ((v.toNat : Nat) : Int) = v by omega] at this
  unfold graph_climb
  rw [climb_in hw.1 hl p.length n [] v (by omega) h1 he (by simp; omega) hn]; rfl
theorem Climb_eq {p : List Int} (v : Int) (n : Nat) (hn : p.length < n) : graph_Climb n p v = some (if p.length ≤ 256 ∧ wfp p then (if 0 ≤ v ∧ v < p.length then (ch p p.length v, 0) else ([], 1)) else ([], 3)) := by
  unfold graph_Climb
  rw [Depths_eq n hn]
  by_cases h : p.length ≤ 256 ∧ wfp p
  · rw [if_pos h, if_pos h]
    simp only [obind, Option.bind_some]
    by_cases hv : 0 ≤ v ∧ v < p.length
    · have : (decide (v < 0) || decide ((p.length : Int) ≤ v)) = false := by simp; omega
      rw [if_pos hv, this, climb_eq h.2 h.1 hv.1 hv.2 n hn]; simp
    · have : (decide (v < 0) || decide ((p.length : Int) ≤ v)) = true := by simp; omega
      rw [if_neg hv, this]; simp
  · rw [if_neg h, if_neg h]; simp [obind]
theorem below_in {p : List Int} (hp : okp p) (hl : p.length ≤ 256) (node : Int) (v : Int) : ∀ (f n : Nat) (out : List Int) (w : Int), -1 ≤ w → w < p.length → en p f w = true → out.length + f ≤ 100000 → f < n →
    iter (graph_Below_L2 p node v) n (out, w) = some (.go (out ++ (ch p f w).flatMap fun x => if x = node then [v] else []))
  | f, 0, _, _, _, _, _, _, h => by omega
  | f, n + 1, out, w, hw0, hw1, he, ho, hn => by
    by_cases hw : w < 0
    · have : w = -1 := by omega
      subst this
      have hs : graph_Below_L2 p node v (out, -1) = some (.stop (.go out)) := by unfold graph_Below_L2; simp
      rw [iter_stop hs, ch_neg hw]; simp
    · have h0 : 0 ≤ w := by omega
      cases f with
      | zero => simp [en] at he; omega
      | succ f =>
        have hs : graph_Below_L2 p node v (out, w) = some (.go (out ++ (if w = node then [v] else []), par p w)) := by
          unfold graph_Below_L2
          have : decide (w ≠ -1) = true := by simp; omega
          simp only [this, cond_true]
          by_cases hn : w = node
          · simp only [hn, decide_true, cond_true, if_true]
            rw [need_pos (by simp; omega), bindJ_go, ← hn, idx_par h0 hw1]
          · simp only [hn, decide_false, cond_false, if_false, bindJ_go]
            rw [idx_par h0 hw1]; simp
        have hm := hp _ (par_mem h0 hw1)
        rw [en_succ h0] at he
        rw [iter_go hs, below_in hp hl node v f n _ (par p w) hm.1 hm.2 he (by split <;> simp <;> omega) (by omega), ch_succ h0]
        simp
theorem once {l : List Int} (h : l.Nodup) (node v : Int) : (l.flatMap fun x => if x = node then [v] else []) = if node ∈ l then [v] else [] := by
  induction l with
  | nil => simp
  | cons x r ih =>
    have h' := List.nodup_cons.1 h
    rw [List.flatMap_cons, ih h'.2]
    by_cases e : x = node
    · subst e; simp [h'.1]
    · have : ¬ node = x := fun h => e h.symm
      simp [e, this]
def belF (p : List Int) (node : Int) (v : Nat) : List Int := if node ∈ ch p p.length v then [(v : Int)] else []
def bels (p : List Int) (node : Int) : List Int := (List.range p.length).flatMap (belF p node)
theorem foldl_flat {α β : Type} (g : α → List β) : ∀ (l : List α) (out : List β), l.foldl (fun o x => o ++ g x) out = out ++ l.flatMap g
  | [], out => by simp
  | x :: r, out => by simp only [List.foldl_cons, foldl_flat g r, List.flatMap_cons]; simp
theorem Below_eq {p : List Int} (v : Int) (n : Nat) (hn : p.length < n) : graph_Below n p v = some (if p.length ≤ 256 ∧ wfp p then (if 0 ≤ v ∧ v < p.length then (bels p v, 0) else ([], 1)) else ([], 3)) := by
  unfold graph_Below
  rw [Climb_eq v n hn]
  by_cases h : p.length ≤ 256 ∧ wfp p
  · rw [if_pos h, if_pos h]
    by_cases hv : 0 ≤ v ∧ v < p.length
    · rw [if_pos hv, if_pos hv]
      obtain ⟨hl, hw⟩ := h
      have key : iter (graph_Below_L1 n p v) n ([], 0) = some (foldL (S := List Int) (R := Lp (List Int) (List Int × Int)) (fun out i => .go (out ++ belF p v i)) .go [] (List.range p.length)) := by
        refine iter_range (R := Lp (List Int) (List Int × Int)) p.length (fun i (out : List Int) => (out, (i : Int))) (fun out i => Lp.go (out ++ belF p v i)) Lp.go (fun i out => out.length ≤ i) ?_ ?_ n [] (Nat.le_refl _) hn
        · intro i out ho hi
          have e : decide ((i : Int) < (p.length : Int)) = true := by simpa using hi
          refine ⟨?_, fun s' hs => ?_⟩
          · unfold graph_Below_L1
            have he := hw.2 i hi
            simp only [e, cond_true, below_in hw.1 hl v i p.length n out i (by omega) (by omega) he (by omega) hn, once (ch_nodup _ _ he), bindJ_go, mapS_go]
            rw [w64 (by omega) (by omega)]
            simp [belF]
          · simp at hs; subst hs; simp only [belF]; split <;> simp <;> omega
        · intro out _
          unfold graph_Below_L1
          simp
      simp only [obind, Option.bind_some]
      simp only [key]
      rw [foldL_gom (fun out i => out ++ belF p v i) _ _ (fun _ _ _ => rfl), foldl_flat]
      simp [bels]
    · rw [if_neg hv, if_neg hv]; simp [obind]
  · rw [if_neg h, if_neg h]; simp [obind]
/-! the specification -/
def up (p : List Int) : Nat → Int → Int
  | 0, v => v
  | f + 1, v => if v < 0 then v else up p f (par p v)
theorem up_en {p : List Int} : ∀ (f : Nat) (v : Int), up p f v < 0 ↔ en p f v = true
  | 0, v => by simp [up, en]
  | f + 1, v => by
    by_cases h : v < 0
    · simp [up, en, h]
    · simp only [up, if_neg h]; rw [en_succ (by omega)]; exact up_en f _
theorem formed_in {p : List Int} (hp : okp p) (hl : p.length ≤ 256) : ∀ (f n : Nat) (v k : Int), -1 ≤ v → v < p.length → 0 ≤ k → k + f = p.length + 1 → f < n → iter (ref09_Formed_L3 p) n (v, k) = some (.go (up p f v))
  | f, 0, _, _, _, _, _, _, h => by omega
  | f, n + 1, v, k, h0, h1, hk, hf, hn => by
    by_cases hv : v < 0
    · have hs : ref09_Formed_L3 p (v, k) = some (.stop (.go v)) := by
        unfold ref09_Formed_L3
        have : (decide (k ≤ (p.length : Int)) && decide (0 ≤ v)) = false := by simp; omega
        simp only [this, cond_false]
      rw [iter_stop hs]; cases f <;> simp [up, hv]
    · cases f with
      | zero =>
        have hs : ref09_Formed_L3 p (v, k) = some (.stop (.go v)) := by
          unfold ref09_Formed_L3
          have : (decide (k ≤ (p.length : Int)) && decide (0 ≤ v)) = false := by simp; omega
          simp only [this, cond_false]
        rw [iter_stop hs]; simp [up]
      | succ f =>
        have hs : ref09_Formed_L3 p (v, k) = some (.go (par p v, k + 1)) := by
          unfold ref09_Formed_L3
          have : (decide (k ≤ (p.length : Int)) && decide (0 ≤ v)) = true := by simp; omega
          simp only [this, cond_true]
          rw [idx_par (by omega) h1, w64 (by omega) (by omega)]
        have hm := hp _ (par_mem (w := v) (by omega) h1)
        rw [iter_go hs, formed_in hp hl f n _ (k + 1) hm.1 hm.2 (by omega) (by omega) (by omega)]
        simp [up, hv]
theorem Formed_eq {p : List Int} (n : Nat) (hn : p.length + 1 < n) : ref09_Formed n p = some (decide (p.length ≤ 256 ∧ wfp p)) := by
  unfold ref09_Formed
  by_cases hl : p.length ≤ 256
  · have e : decide (256 < (p.length : Int)) = false := by simp; omega
    simp only [e, cond_false]
    have k1 : iter (ref09_Formed_L1 p) n 0 = some (foldL (S := Unit) (R := Lp Unit Bool) (fun _ x => cond (!(decide (x < -1) || decide ((p.length : Int) ≤ x))) (.go ()) (.stop (.stop false))) .go () p) := by
      have := iter_fold (step := ref09_Formed_L1 p) (l := p) (fun (i : Nat) (_ : Unit) => (i : Int)) (fun (_ : Unit) (x : Int) => cond (!(decide (x < -1) || decide ((p.length : Int) ≤ x))) (.go ()) (.stop (.stop false))) (.go : Unit → Lp Unit Bool) (fun _ _ => True) (fun i s x _ hx => by
        have hlt := (List.getElem?_eq_some_iff.1 hx).1
        refine ⟨?_, fun _ _ => trivial⟩
        unfold ref09_Formed_L1
        have e : decide ((i : Int) < (p.length : Int)) = true := by simpa using hlt
        simp only [e, cond_true]
        rw [idx_get hx, w64 (by omega) (by omega)]
        cases (decide (x < -1) || decide ((p.length : Int) ≤ x)) <;> simp) (fun s _ => by unfold ref09_Formed_L1; simp) n 0 () trivial (by omega) (by omega)
      simpa using this
    rw [k1, foldL_all (fun x => !(decide (x < -1) || decide ((p.length : Int) ≤ x))) (.stop false) p (fun x _ => rfl)]
    by_cases ho : okp p
    · have ha : (p.all fun x => !(decide (x < -1) || decide ((p.length : Int) ≤ x))) = true := by
        rw [List.all_eq_true]; intro x hx; have := ho x hx; simp; omega
      simp only [ha, cond_true, bindJ_go]
      have k2 : iter (ref09_Formed_L2 n p) n 0 = some (foldL (S := Unit) (R := Lp Unit Bool) (fun _ v => cond (en p (p.length + 1) (v : Nat)) (.go ()) (.stop (.stop false))) .go () (List.range p.length)) := by
        refine iter_range p.length (fun (i : Nat) (_ : Unit) => (i : Int)) (fun (_ : Unit) (v : Nat) => cond (en p (p.length + 1) (v : Nat)) (.go ()) (.stop (.stop false))) (.go : Unit → Lp Unit Bool) (fun _ _ => True) (fun i s _ hi => ?_) (fun s _ => ?_) n () trivial (by omega)
        · refine ⟨?_, fun _ _ => trivial⟩
          unfold ref09_Formed_L2
          have e : decide ((i : Int) < (p.length : Int)) = true := by simpa using hi
          simp only [e, cond_true]
          rw [formed_in ho hl (p.length + 1) n i 0 (by omega) (by omega) (by omega) (by omega) hn, bindJ_go, w64 (by omega) (by omega)]
          have hu := up_en (p := p) (p.length + 1) (i : Nat)
          cases he : en p (p.length + 1) (i : Nat) with
          | true => rw [he] at hu; have : decide (0 ≤ up p (p.length + 1) (i : Nat)) = false := by simp; exact hu.2 rfl
                    simp [this]
          | false => rw [he] at hu; have : decide (0 ≤ up p (p.length + 1) (i : Nat)) = true := by
                      simp; have : ¬ up p (p.length + 1) (i : Nat) < 0 := fun h => by simpa using hu.1 h
                      omega
                     simp [this]
        · unfold ref09_Formed_L2; simp
      rw [k2, foldL_all (fun v => en p (p.length + 1) (v : Nat)) (.stop false) _ (fun x _ => rfl)]
      by_cases hw : wfp p
      · have : ((List.range p.length).all fun v => en p (p.length + 1) (v : Nat)) = true := by
          rw [List.all_eq_true]; intro v hv; exact (en_more _ _ _ (hw.2 v (by simpa using hv)) (by omega)).1
        simp [this, hl, hw]
      · have : ((List.range p.length).all fun v => en p (p.length + 1) (v : Nat)) = false := by
          rw [Bool.eq_false_iff]; intro h
          refine hw ⟨ho, fun v hv => en_pigeon ho (by omega) (List.all_eq_true.1 h v (by simpa using hv))⟩
        simp [this, hw]
    · have ha : (p.all fun x => !(decide (x < -1) || decide ((p.length : Int) ≤ x))) = false := by
        rw [Bool.eq_false_iff]; intro h
        refine ho fun x hx => ?_
        have := List.all_eq_true.1 h x hx; simp at this; omega
      have hw : ¬ wfp p := fun h => ho h.1
      rw [ha, cond_false, bindJ_stop]; simp [hw]
  · have e : decide (256 < (p.length : Int)) = true := by simp; omega
    simp [e, hl]
theorem rclimb_in {p : List Int} (hp : okp p) (hl : p.length ≤ 256) : ∀ (f n : Nat) (out : List Int) (w : Int), -1 ≤ w → w < p.length → en p f w = true → out.length + f ≤ 1000 → f < n →
    iter (ref09_climb_L1 p) n (w, out) = some (.go (out ++ ch p f w))
  | f, 0, _, _, _, _, _, _, h => by omega
  | f, n + 1, out, w, hw0, hw1, he, ho, hn => by
    by_cases hw : w < 0
    · have hs : ref09_climb_L1 p (w, out) = some (.stop (.go out)) := by
        unfold ref09_climb_L1
        have : decide (0 ≤ w) = false := by simp; omega
        simp only [this, cond_false]
      rw [iter_stop hs, ch_neg hw]; simp
    · have h0 : 0 ≤ w := by omega
      cases f with
      | zero => simp [en] at he; omega
      | succ f =>
        have hs : ref09_climb_L1 p (w, out) = some (.go (par p w, out ++ [w])) := by
          unfold ref09_climb_L1
          have : decide (0 ≤ w) = true := by simp; omega
          simp only [this, cond_true]
          rw [need_pos (by simp; omega), idx_par h0 hw1]
        have hm := hp _ (par_mem h0 hw1)
        rw [en_succ h0] at he
        rw [iter_go hs, rclimb_in hp hl f n (out ++ [w]) (par p w) hm.1 hm.2 he (by simp; omega) (by omega), ch_succ h0]
        simp
theorem rclimb_eq {p : List Int} (hw : wfp p) (hl : p.length ≤ 256) {v : Int} (h0 : 0 ≤ v) (h1 : v < p.length) (n : Nat) (hn : p.length < n) : ref09_climb n p v = some (ch p p.length v) := by
  have he : en p p.length v = true := by have := hw.2 v.toNat (by omega); rwa [show ((v.toNat : Nat) : Int) = v by omega] at this
  unfold ref09_climb
  rw [rclimb_in hw.1 hl p.length n [] v (by omega) h1 he (by simp; omega) hn]; rfl
theorem rDepths_eq {p : List Int} (n : Nat) (hn : p.length + 1 < n) : ref09_Depths n p = some (if p.length ≤ 256 ∧ wfp p then ⟨deps p, 0⟩ else ⟨[], 3⟩) := by
  unfold ref09_Depths
  rw [Formed_eq n hn]
  by_cases h : p.length ≤ 256 ∧ wfp p
  · obtain ⟨hl, hw⟩ := id h
    rw [if_pos h]
    have key : iter (ref09_Depths_L1 n p) n ([], 0) = some (foldL (S := List Int) (R := Lp (List Int) S_ref09_List) (fun out (i : Nat) => .go (out ++ [((ch p p.length (i : Nat)).length : Int) - 1])) .go [] (List.range p.length)) := by
      refine iter_range (R := Lp (List Int) S_ref09_List) p.length (fun i (out : List Int) => (out, (i : Int))) (fun out (i : Nat) => Lp.go (out ++ [((ch p p.length (i : Nat)).length : Int) - 1])) Lp.go (fun i out => out.length = i) ?_ ?_ n [] rfl (by omega)
      · intro i out ho hi
        have e : decide ((i : Int) < (p.length : Int)) = true := by simpa using hi
        refine ⟨?_, fun s' hs => by simp at hs; subst hs; simp [ho]⟩
        unfold ref09_Depths_L1
        have hc := ch_len_le (p := p) p.length (i : Nat)
        simp only [e, cond_true, rclimb_eq hw hl (v := (i : Nat)) (by omega) (by omega) n (by omega), obind, Option.bind_some, mapS_go]
        rw [need_pos (by simp; omega), w64 (x := ((ch p p.length (i : Nat)).length : Int) - 1) (by omega) (by omega), w64 (by omega) (by omega)]
        simp
      · intro out _
        unfold ref09_Depths_L1
        simp
    simp only [obind, Option.bind_some, h, decide_true, Bool.not_true, cond_false, and_self]
    simp only [key]
    rw [foldL_gom (fun out (i : Nat) => out ++ [((ch p p.length (i : Nat)).length : Int) - 1]) _ _ (fun _ _ _ => rfl), foldl_app]
    rfl
  · rw [if_neg h]; simp [obind, h]
theorem rClimb_eq {p : List Int} (v : Int) (n : Nat) (hn : p.length + 1 < n) : ref09_Climb n p v = some (if p.length ≤ 256 ∧ wfp p then (if 0 ≤ v ∧ v < p.length then ⟨ch p p.length v, 0⟩ else ⟨[], 1⟩) else ⟨[], 3⟩) := by
  unfold ref09_Climb
  rw [Formed_eq n hn]
  by_cases h : p.length ≤ 256 ∧ wfp p
  · rw [if_pos h]
    simp only [obind, Option.bind_some, h, decide_true, Bool.not_true, cond_false, and_self]
    by_cases hv : 0 ≤ v ∧ v < p.length
    · have : (decide (v < 0) || decide ((p.length : Int) ≤ v)) = false := by simp; omega
      rw [if_pos hv, this, rclimb_eq h.2 h.1 hv.1 hv.2 n (by omega)]; simp
    · have : (decide (v < 0) || decide ((p.length : Int) ≤ v)) = true := by simp; omega
      rw [if_neg hv, this]; simp
  · rw [if_neg h]; simp [obind, h]
theorem hasF {l : List Int} {x : Int} : ∀ (l : List Int), foldL (S := Unit) (R := Lp Unit Bool) (fun _ y => cond (!decide (y = x)) (.go ()) (.stop (.stop true))) .go () l = if x ∈ l then .stop true else .go ()
  | [] => by simp [foldL]
  | y :: r => by
    simp only [foldL]
    by_cases h : y = x
    · subst h; simp
    · have : ¬ x = y := fun e => h e.symm
      have e := hasF (l := l) (x := x) r
      simp only [h, decide_false, Bool.not_false, cond_true]
      rw [e]; simp [this]
theorem Has_eq {l : List Int} {x : Int} (n : Nat) (hl : l.length ≤ 4294967296) (hn : l.length < n) : ref09_Has n l x = some (decide (x ∈ l)) := by
  unfold ref09_Has
  have k1 : iter (ref09_Has_L1 l x) n 0 = some (foldL (S := Unit) (R := Lp Unit Bool) (fun _ y => cond (!decide (y = x)) (.go ()) (.stop (.stop true))) .go () l) := by
    have := iter_fold (step := ref09_Has_L1 l x) (l := l) (fun (i : Nat) (_ : Unit) => (i : Int)) (fun (_ : Unit) (y : Int) => cond (!decide (y = x)) (.go ()) (.stop (.stop true))) (.go : Unit → Lp Unit Bool) (fun _ _ => True) (fun i s y _ hx => by
      have hlt := (List.getElem?_eq_some_iff.1 hx).1
      refine ⟨?_, fun _ _ => trivial⟩
      unfold ref09_Has_L1
      have e : decide ((i : Int) < (l.length : Int)) = true := by simpa using hlt
      simp only [e, cond_true]
      rw [idx_get hx, w64 (by omega) (by omega)]
      by_cases h : y = x <;> simp [h]) (fun s _ => by unfold ref09_Has_L1; simp) n 0 () trivial (by omega) (by omega)
    simpa using this
  rw [k1, hasF (l := l)]
  by_cases h : x ∈ l <;> simp [h]
theorem rBelow_eq {p : List Int} (v : Int) (n : Nat) (hn : p.length + 1 < n) : ref09_Below n p v = some (if p.length ≤ 256 ∧ wfp p then (if 0 ≤ v ∧ v < p.length then ⟨bels p v, 0⟩ else ⟨[], 1⟩) else ⟨[], 3⟩) := by
  unfold ref09_Below
  rw [Formed_eq n hn]
  by_cases h : p.length ≤ 256 ∧ wfp p
  · obtain ⟨hl, hw⟩ := id h
    rw [if_pos h]
    simp only [obind, Option.bind_some, h, decide_true, Bool.not_true, cond_false, and_self]
    by_cases hv : 0 ≤ v ∧ v < p.length
    · have : (decide (v < 0) || decide ((p.length : Int) ≤ v)) = false := by simp; omega
      rw [if_pos hv, this]
      have key : iter (ref09_Below_L1 n p v) n ([], 0) = some (foldL (S := List Int) (R := Lp (List Int) S_ref09_List) (fun out i => .go (out ++ belF p v i)) .go [] (List.range p.length)) := by
        refine iter_range (R := Lp (List Int) S_ref09_List) p.length (fun i (out : List Int) => (out, (i : Int))) (fun out i => Lp.go (out ++ belF p v i)) Lp.go (fun i out => out.length ≤ i) ?_ ?_ n [] (Nat.le_refl _) (by omega)
        · intro i out ho hi
          have e : decide ((i : Int) < (p.length : Int)) = true := by simpa using hi
          refine ⟨?_, fun s' hs => ?_⟩
          · unfold ref09_Below_L1
            have hc := ch_len_le (p := p) p.length (i : Nat)
            simp only [e, cond_true, rclimb_eq hw hl (v := (i : Nat)) (by omega) (by omega) n (by omega), obind, Option.bind_some, mapS_go]
            rw [Has_eq n (by omega) (by omega)]
            simp only [Option.bind_some]
            by_cases hm : v ∈ ch p p.length (i : Nat)
            · simp only [hm, decide_true, cond_true]
              rw [need_pos (by simp; omega), bindJ_go, w64 (by omega) (by omega)]
              simp [belF, hm]
            · simp only [hm, decide_false, cond_false, bindJ_go]
              rw [w64 (by omega) (by omega)]
              simp [belF, hm]
          · simp at hs; subst hs; simp only [belF]; split <;> simp <;> omega
        · intro out _
          unfold ref09_Below_L1
          simp
      simp only [cond_false, key]
      rw [foldL_gom (fun out i => out ++ belF p v i) _ _ (fun _ _ _ => rfl), foldl_flat]
      simp [bels]
    · have : (decide (v < 0) || decide ((p.length : Int) ≤ v)) = true := by simp; omega
      rw [if_neg hv, this]; simp
  · rw [if_neg h]; simp [obind, h]
theorem Same_eq {a b : List Int} (n : Nat) (hl : a.length ≤ 4294967296) (hn : a.length < n) : ref09_Same n a b = some (decide (a = b)) := by
  unfold ref09_Same
  by_cases he : a.length = b.length
  · have e : decide ((a.length : Int) ≠ (b.length : Int)) = false := by simp; omega
    simp only [e, cond_false]
    have k1 : iter (ref09_Same_L1 a b) n 0 = some (foldL (S := Unit) (R := Lp Unit Bool) (fun _ (i : Nat) => cond (decide (a[i]? = b[i]?)) (.go ()) (.stop (.stop false))) .go () (List.range a.length)) := by
      refine iter_range a.length (fun (i : Nat) (_ : Unit) => (i : Int)) (fun (_ : Unit) (i : Nat) => cond (decide (a[i]? = b[i]?)) (.go ()) (.stop (.stop false))) (.go : Unit → Lp Unit Bool) (fun _ _ => True) (fun i s _ hi => ?_) (fun s _ => ?_) n () trivial hn
      · refine ⟨?_, fun _ _ => trivial⟩
        unfold ref09_Same_L1
        have e : decide ((i : Int) < (a.length : Int)) = true := by simpa using hi
        simp only [e, cond_true]
        rw [idx_get (List.getElem?_eq_getElem hi), idx_get (List.getElem?_eq_getElem (show i < b.length by omega)), w64 (by omega) (by omega), List.getElem?_eq_getElem hi, List.getElem?_eq_getElem (show i < b.length by omega)]
        by_cases h : a[i] = b[i]'(by omega) <;> simp [h]
      · unfold ref09_Same_L1; simp
    rw [k1, foldL_all (fun i => decide (a[i]? = b[i]?)) (.stop false) _ (fun x _ => rfl)]
    by_cases h : a = b
    · subst h
      have : ((List.range a.length).all fun i => decide (a[i]? = a[i]?)) = true := by rw [List.all_eq_true]; intro i _; simp
      rw [this]; simp
    · have : ((List.range a.length).all fun i => decide (a[i]? = b[i]?)) = false := by
        rw [Bool.eq_false_iff]; intro hh
        refine h (List.ext_getElem? fun i => ?_)
        by_cases hi : i < a.length
        · have := List.all_eq_true.1 hh i (by simpa using hi); simpa using this
        · rw [List.getElem?_eq_none (by omega), List.getElem?_eq_none (by omega)]
      simp only [this, cond_false, bindJ_stop, h, decide_false]
  · have e : decide ((a.length : Int) ≠ (b.length : Int)) = true := by simp; omega
    have : a ≠ b := fun h => he (by rw [h])
    simp [e, this]
end Go.Proofs.Ytgelifcckhemiaa
