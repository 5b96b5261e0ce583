/-
  Texts that stand side by side: AbsPlain, Ph, Ps, Po, Pc, Pw, G5a, G6a.
-/
import Derived.Test.YtgelifcckhemiaaM0
import Derived.Test.YtgelifcckhemiaaFe
namespace Go.Abs
@[simp] theorem bindJ_go {S R : Type} (s : S) (k : S → Option R) : bindJ (some (.go s)) k = k s := rfl
@[simp] theorem bindJ_stop {S R : Type} (r : R) (k : S → Option R) : bindJ (some (.stop r)) k = some r := rfl
@[simp] theorem bindJ_none {S R : Type} (k : S → Option R) : bindJ (none : Option (Lp S R)) k = none := rfl
theorem need_pos {α : Type} {p : Prop} [Decidable p] (h : p) (x : Option α) : need p x = x := by simp [need, h]
theorem idx_get {α β : Type} {l : List α} {i : Nat} {x : α} (h : l[i]? = some x) (k : α → Option β) : idx l (i : Int) k = k x := by simp [idx, h]
theorem idx_get' {α β : Type} {l : List α} {i : Nat} (h : i < l.length) (k : α → Option β) : idx l (i : Int) k = k l[i] := idx_get (List.getElem?_eq_getElem h) k
theorem iter_go {S R : Type} {step : S → Option (Lp S R)} {n : Nat} {s s' : S} (h : step s = some (.go s')) : iter step (n + 1) s = iter step n s' := by simp [iter, h]
theorem iter_stop {S R : Type} {step : S → Option (Lp S R)} {n : Nat} {s : S} {r : R} (h : step s = some (.stop r)) : iter step (n + 1) s = some r := by simp [iter, h]
/-- a loop by an invariant and a measure -/
theorem iter_inv {S R : Type} {step : S → Option (Lp S R)} (inv : S → Prop) (μ : S → Nat) (post : R → Prop)
    (h : ∀ s, inv s → (∃ s', step s = some (.go s') ∧ inv s' ∧ μ s' < μ s) ∨ (∃ r, step s = some (.stop r) ∧ post r)) :
    ∀ (n : Nat) (s : S), inv s → μ s < n → ∃ r, iter step n s = some r ∧ post r
  | 0, s, _, hm => by omega
  | n + 1, s, hi, hm => by
    rcases h s hi with ⟨s', h1, h2, h3⟩ | ⟨r, h1, h2⟩
    · obtain ⟨r, h4, h5⟩ := iter_inv inv μ post h n s' h2 (by omega)
      exact ⟨r, by rw [iter_go h1, h4], h5⟩
    · exact ⟨r, iter_stop h1, h2⟩
theorem w64 {x : Int} (h1 : -9223372036854775808 ≤ x) (h2 : x ≤ 9223372036854775807) : IntKind.i64.wrap x = x := wrap_i64 h1 h2
end Go.Abs
namespace Go.Abs
/-- a walk along a list that may stop -/
def foldL {α S R : Type} (f : S → α → Lp S R) (fin : S → R) : S → List α → R
  | s, [] => fin s
  | s, x :: r => match f s x with
    | .go s' => foldL f fin s' r
    | .stop q => q
def Lp.mapS {S T R : Type} (g : S → T) : Lp S R → Lp T R
  | .go s => .go (g s)
  | .stop r => .stop r
@[simp] theorem mapS_go {S T R : Type} (g : S → T) (s : S) : (Lp.go s : Lp S R).mapS g = .go (g s) := rfl
@[simp] theorem mapS_stop {S T R : Type} (g : S → T) (r : R) : (Lp.stop r : Lp S R).mapS g = .stop r := rfl
/-- a loop that counts along a list -/
theorem iter_fold {α S T R : Type} {step : T → Option (Lp T R)} {l : List α} (mk : Nat → S → T) (f : S → α → Lp S R) (fin : S → R) (inv : Nat → S → Prop)
    (hgo : ∀ i s x, inv i s → l[i]? = some x → step (mk i s) = some ((f s x).mapS (mk (i + 1))) ∧ ∀ s', f s x = .go s' → inv (i + 1) s')
    (hend : ∀ s, inv l.length s → step (mk l.length s) = some (.stop (fin s))) :
    ∀ (n i : Nat) (s : S), inv i s → i ≤ l.length → l.length - i < n → iter step n (mk i s) = some (foldL f fin s (l.drop i))
  | 0, i, s, _, _, h => by omega
  | n + 1, i, s, hi, hle, h => by
    by_cases e : i = l.length
    · subst e
      rw [iter_stop (hend s hi), List.drop_length]; rfl
    · have hlt : i < l.length := by omega
      obtain ⟨h1, h2⟩ := hgo i s _ hi (List.getElem?_eq_getElem hlt)
      rw [List.drop_eq_getElem_cons hlt]
      cases hf : f s l[i] with
      | go s' =>
        rw [hf] at h1
        rw [iter_go h1, iter_fold mk f fin inv hgo hend n (i + 1) s' (h2 s' hf) (by omega) (by omega)]
        simp [foldL, hf]
      | stop q =>
        rw [hf] at h1
        rw [iter_stop h1]
        simp [foldL, hf]
end Go.Abs
namespace Go.Abs
theorem foldL_gom {α S R : Type} {f : S → α → Lp S R} {fin : S → R} (g : S → α → S) : ∀ (l : List α) (s : S), (∀ s x, x ∈ l → f s x = .go (g s x)) → foldL f fin s l = fin (l.foldl g s)
  | [], s, _ => rfl
  | x :: r, s, h => by
    simp only [foldL, h s x (List.mem_cons_self ..), List.foldl_cons]
    exact foldL_gom g r _ (fun s y hy => h s y (List.mem_cons_of_mem _ hy))
/-- a loop that counts up to N -/
theorem iter_range {S T R : Type} {step : T → Option (Lp T R)} (N : Nat) (mk : Nat → S → T) (f : S → Nat → Lp S R) (fin : S → R) (inv : Nat → S → Prop)
    (hgo : ∀ i s, inv i s → i < N → step (mk i s) = some ((f s i).mapS (mk (i + 1))) ∧ ∀ s', f s i = .go s' → inv (i + 1) s')
    (hend : ∀ s, inv N s → step (mk N s) = some (.stop (fin s))) (n : Nat) (s : S) (h0 : inv 0 s) (hn : N < n) : iter step n (mk 0 s) = some (foldL f fin s (List.range N)) := by
  have := iter_fold (l := List.range N) mk f fin inv (fun i s x hi hx => by
    have hlt := (List.getElem?_eq_some_iff.1 hx).1
    simp at hlt
    have : x = i := by simp [hlt] at hx; exact hx.symm
    subst this
    exact hgo x s hi hlt) (fun s hs => by simpa using hend s (by simpa using hs)) n 0 s h0 (Nat.zero_le _) (by simpa using hn)
  simpa using this
/-- a check of all -/
theorem foldL_all {α R : Type} {f : Unit → α → Lp Unit R} {fin : Unit → R} (b : α → Bool) (q : R) : ∀ (l : List α), (∀ x ∈ l, f () x = cond (b x) (.go ()) (.stop q)) → foldL f fin () l = cond (l.all b) (fin ()) q
  | [], _ => rfl
  | x :: r, h => by
    have h0 := h x (List.mem_cons_self ..)
    simp only [foldL, h0, List.all_cons]
    cases b x with
    | true => simpa using foldL_all b q r (fun y hy => h y (List.mem_cons_of_mem _ hy))
    | false => rfl
/-- pigeons -/
theorem nodup_le : ∀ (l m : List Int), l.Nodup → (∀ x ∈ l, x ∈ m) → l.length ≤ m.length
  | [], _, _, _ => Nat.zero_le _
  | x :: r, m, h, hm => by
    have h' := List.nodup_cons.1 h
    have hx := hm x (List.mem_cons_self ..)
    have := nodup_le r (m.erase x) h'.2 (fun y hy => by
      have hne : y ≠ x := fun e => h'.1 (e ▸ hy)
      exact (List.mem_erase_of_ne hne).2 (hm y (List.mem_cons_of_mem _ hy)))
    rw [List.length_erase_of_mem hx] at this
    have hp := List.length_pos_of_mem hx
    simp only [List.length_cons]; omega
theorem nodup_range {l : List Int} {n : Nat} (h : l.Nodup) (hr : ∀ x ∈ l, 0 ≤ x ∧ x < n) : l.length ≤ n := by
  have := nodup_le l ((List.range n).map fun i : Nat => (i : Int)) h (fun x hx => by
    obtain ⟨h1, h2⟩ := hr x hx
    exact List.mem_map.2 ⟨x.toNat, by simp; omega, by omega⟩)
  simpa using this
theorem idx_int {α β : Type} {l : List α} {w : Int} (h0 : 0 ≤ w) (h1 : w.toNat < l.length) (k : α → Option β) : idx l w k = k l[w.toNat] := by simp [idx, h0, List.getElem?_eq_getElem h1]
end Go.Abs
namespace Go.Proofs.Ytgelifcckhemiaa
open Go.Abs
set_option linter.unusedSimpArgs false
set_option linter.unusedVariables false
def g (h : List Int) (i : Nat) : Int := h.getD i 0
theorem g_get {h : List Int} {i : Nat} (hi : i < h.length) : h[i]? = some (g h i) := by simp [g, List.getD, List.getElem?_eq_getElem hi]
theorem g_el {h : List Int} {i : Nat} (hi : i < h.length) : h[i] = g h i := by simp [g, List.getD, List.getElem?_eq_getElem hi]
theorem g_set {h : List Int} {i j : Nat} {v : Int} (hi : i < h.length) : g (h.set i v) j = if j = i then v else g h j := by
  unfold g
  rw [List.getD_eq_getElem?_getD, List.getElem?_set, List.getD_eq_getElem?_getD]
  by_cases e : j = i
  · subst e; simp [hi]
  · have : ¬ i = j := fun h => e h.symm
    simp [e, this]
end Go.Proofs.Ytgelifcckhemiaa
namespace Go.Proofs.Ytgelifcckhemiaa
open Go.Abs
set_option linter.unusedSimpArgs false
set_option linter.unusedVariables false
def okArc (n : S_api_Net) (a : S_api_Arc) : Prop := 0 ≤ a.From ∧ a.From < n.Nodes ∧ 0 ≤ a.To ∧ a.To < n.Nodes ∧ -1048576 ≤ a.Cost ∧ a.Cost ≤ 1048576
instance (n : S_api_Net) (a : S_api_Arc) : Decidable (okArc n a) := by unfold okArc; exact inferInstance
def okNet (n : S_api_Net) : Prop := 0 ≤ n.Nodes ∧ n.Nodes ≤ 256 ∧ n.Arcs.length ≤ 2048 ∧ ∀ a ∈ n.Arcs, okArc n a
instance (n : S_api_Net) : Decidable (okNet n) := by unfold okNet; exact inferInstance
theorem valid_arc (n : S_api_Net) (a : S_api_Arc) : graph_Valid_1_46 a n = some (!decide (okArc n a)) := by
  unfold graph_Valid_1_46
  congr 1
  rw [Bool.eq_iff_iff]
  simp only [Bool.or_eq_true, decide_eq_true_eq, Bool.not_eq_true', decide_eq_false_iff_not]
  by_cases h : a.Cost < -1048576
  · constructor
    · intro _ hk; unfold okArc at hk; omega
    · intro _; exact .inr h
  · by_cases hc : a.Cost ≤ 9223372036854775807
    · rw [w64 (x := 0 - a.Cost) (by omega) (by omega)]
      unfold okArc; omega
    · constructor
      · intro _ hk; unfold okArc at hk; omega
      · intro _; left; right; have := Int.le_max_left a.Cost (IntKind.i64.wrap (0 - a.Cost)); omega
/-- the first element that is met, or -1 -/
theorem index_arc {n : S_api_Net} (l : List S_api_Arc) (hl : l.length ≤ 4294967296) (m : Nat) (hm : l.length < m) :
    ∃ r, slices_IndexFunc_weirgate_api_Arc_weirgate_api_Arc_63 m l n = some r ∧ (0 ≤ r ↔ ∃ a ∈ l, ¬ okArc n a) := by
  unfold slices_IndexFunc_weirgate_api_Arc_weirgate_api_Arc_63
  have key := iter_inv (step := slices_IndexFunc_weirgate_api_Arc_weirgate_api_Arc_63_L1 l n) (fun s : Int => ∃ i : Nat, s = i ∧ i ≤ l.length ∧ ∀ j (h : j < l.length), j < i → okArc n l[j]) (fun s => l.length - s.toNat)
    (fun r => (r = .go () ∧ ∀ a ∈ l, okArc n a) ∨ ∃ i : Nat, r = .stop (i : Int) ∧ ∃ a ∈ l, ¬ okArc n a) (by
      rintro s ⟨i, rfl, hi, hok⟩
      unfold slices_IndexFunc_weirgate_api_Arc_weirgate_api_Arc_63_L1
      by_cases hlt : i < l.length
      · have e : decide ((i : Int) < (l.length : Int)) = true := by simpa using hlt
        simp only [e, cond_true]
        rw [idx_get' hlt, valid_arc]
        simp only [obind, Option.bind_some]
        by_cases hk : okArc n l[i]
        · left
          refine ⟨_, by simp only [hk, decide_true, Bool.not_true, cond_false]; rfl, ⟨i + 1, by rw [w64 (by omega) (by omega)]; rfl, by omega, fun j h hj => ?_⟩, by rw [w64 (by omega) (by omega)]; omega⟩
          by_cases e : j = i
          · subst e; exact hk
          · exact hok j h (by omega)
        · right
          exact ⟨_, by simp only [hk, decide_false, Bool.not_false, cond_true], .inr ⟨i, rfl, _, List.getElem_mem hlt, hk⟩⟩
      · have e : decide ((i : Int) < (l.length : Int)) = false := by simp; omega
        right
        refine ⟨_, by simp only [e, cond_false], .inl ⟨rfl, fun a ha => ?_⟩⟩
        obtain ⟨j, hj, rfl⟩ := List.getElem_of_mem ha
        exact hok j hj (by omega)) m 0 ⟨0, rfl, Nat.zero_le _, fun j h hj => by omega⟩ (by simpa using hm)
  obtain ⟨r, hr, h⟩ := key
  rw [hr]
  rcases h with ⟨rfl, h⟩ | ⟨i, rfl, h⟩
  · exact ⟨-1, rfl, by
      constructor
      · intro h'; omega
      · rintro ⟨a, ha, hk⟩; exact absurd (h a ha) hk⟩
  · exact ⟨i, rfl, ⟨fun _ => h, fun _ => by omega⟩⟩
theorem Valid_eq (n : S_api_Net) (m : Nat) (hm : n.Arcs.length < m) : graph_Valid m n = some (decide (okNet n)) := by
  unfold graph_Valid
  by_cases h : (decide (n.Nodes < 0) || decide (256 < n.Nodes)) || decide (2048 < (n.Arcs.length : Int))
  · have : ¬ okNet n := by intro hk; unfold okNet at hk; simp at h; omega
    simp [h, this]
  · have h' : ((decide (n.Nodes < 0) || decide (256 < n.Nodes)) || decide (2048 < (n.Arcs.length : Int))) = false := by simpa using h
    simp only [h', cond_false]
    simp at h'
    obtain ⟨r, hr, hi⟩ := index_arc (n := n) n.Arcs (by omega) m hm
    unfold slices_ContainsFunc_weirgate_api_Arc_weirgate_api_Arc_45
    simp only [hr, obind, Option.bind_some]
    congr 1
    rw [Bool.eq_iff_iff]
    simp only [Bool.not_eq_true', decide_eq_false_iff_not, decide_eq_true_eq, hi]
    unfold okNet
    constructor
    · intro hk; exact ⟨by omega, by omega, by omega, fun a ha => Classical.byContradiction fun h => hk ⟨a, ha, h⟩⟩
    · rintro ⟨_, _, _, hk⟩ ⟨a, ha, h⟩; exact h (hk a ha)

/-! a search -/
def src (back : Bool) (a : S_api_Arc) : Int := if back then a.To else a.From
def dst (back : Bool) (a : S_api_Arc) : Int := if back then a.From else a.To
def Edge (n : S_api_Net) (back : Bool) (v w : Int) : Prop := ∃ a ∈ n.Arcs, src back a = v ∧ dst back a = w
inductive Pth (n : S_api_Net) (back : Bool) (u : Int) : Int → Prop where
  | refl : Pth n back u u
  | step {v w : Int} : Pth n back u v → Edge n back v w → Pth n back u w
theorem Pth.trans {n : S_api_Net} {back : Bool} {u v w : Int} (h : Pth n back u v) (k : Pth n back v w) : Pth n back u w := by
  induction k with
  | refl => exact h
  | step _ e ih => exact .step ih e
theorem edge_in {n : S_api_Net} (hn : okNet n) {back : Bool} {v w : Int} (h : Edge n back v w) : 0 ≤ v ∧ v < n.Nodes ∧ 0 ≤ w ∧ w < n.Nodes := by
  obtain ⟨a, ha, rfl, rfl⟩ := h
  obtain ⟨h1, h2, h3, h4, _⟩ := hn.2.2.2 a ha
  cases back <;> simp [src, dst] <;> omega
/-- is it met? -/
def M (met : List Bool) (w : Int) : Prop := met[w.toNat]? = some true
instance (met : List Bool) (w : Int) : Decidable (M met w) := by unfold M; exact inferInstance
def visit (s : List Bool × List Int) (w : Int) : List Bool × List Int := if M s.1 w then s else (s.1.set w.toNat true, s.2 ++ [w])
structure Vis (s s' : List Bool × List Int) (ws : List Int) : Prop where
  len : s'.1.length = s.1.length
  mono : ∀ w, M s.1 w → M s'.1 w
  all : ∀ w ∈ ws, M s'.1 w
  new : ∀ w, 0 ≤ w → M s'.1 w → M s.1 w ∨ w ∈ ws
  old : ∀ w ∈ s.2, w ∈ s'.2
  inq : ∀ w, 0 ≤ w → M s'.1 w → M s.1 w ∨ w ∈ s'.2
  q : ∀ w ∈ s'.2, w ∈ s.2 ∨ w ∈ ws
  num : s'.1.count false + s'.2.length = s.1.count false + s.2.length
theorem M_set {met : List Bool} {w u : Int} (hw : 0 ≤ w) (hu : 0 ≤ u) (hl : w.toNat < met.length) : M (met.set w.toNat true) u ↔ (u = w ∨ M met u) := by
  unfold M
  rw [List.getElem?_set]
  by_cases e : w.toNat = u.toNat
  · have : u = w := by omega
    subst this; simp [hl]
  · rw [if_neg e]
    have : ¬ u = w := by omega
    simp [this]
theorem M_set' {met : List Bool} {w u : Int} (hl : w.toNat < met.length) (h : M met u) : M (met.set w.toNat true) u := by
  unfold M at *
  rw [List.getElem?_set]
  split
  · simp [hl]
  · exact h
theorem not_M {met : List Bool} {w : Int} (hl : w.toNat < met.length) (h : ¬ M met w) : met[w.toNat]? = some false := by
  rw [List.getElem?_eq_getElem hl] at *
  unfold M at h
  rw [List.getElem?_eq_getElem hl] at h
  cases e : met[w.toNat] with
  | true => rw [e] at h; simp at h
  | false => rfl
theorem vis_fold (N : Nat) : ∀ (ws : List Int) (s : List Bool × List Int), s.1.length = N → (∀ w ∈ ws, 0 ≤ w ∧ w < N) → Vis s (ws.foldl visit s) ws
  | [], s, _, _ => ⟨rfl, fun _ h => h, by simp, fun _ _ h => .inl h, fun _ h => h, fun _ _ h => .inl h, fun _ h => .inl h, rfl⟩
  | w :: ws, s, hl, hw => by
    have hw0 := hw w (List.mem_cons_self ..)
    have hwl : w.toNat < s.1.length := by omega
    have ih := vis_fold N ws (visit s w) (by unfold visit; split <;> simp [hl]) (fun x hx => hw x (List.mem_cons_of_mem _ hx))
    rw [List.foldl_cons]
    by_cases hm : M s.1 w
    · have e : visit s w = s := by simp [visit, hm]
      rw [e] at ih ⊢
      refine ⟨ih.len, ih.mono, ?_, fun u h0 hu => ?_, ih.old, ih.inq, fun u hu => ?_, ih.num⟩
      · intro u hu
        rcases List.mem_cons.1 hu with rfl | hu
        · exact ih.mono u hm
        · exact ih.all u hu
      · rcases ih.new u h0 hu with h | h
        · exact .inl h
        · exact .inr (List.mem_cons_of_mem _ h)
      · rcases ih.q u hu with h | h
        · exact .inl h
        · exact .inr (List.mem_cons_of_mem _ h)
    · have e : visit s w = (s.1.set w.toNat true, s.2 ++ [w]) := by simp [visit, hm]
      rw [e] at ih ⊢
      have hmw : M (s.1.set w.toNat true) w := (M_set hw0.1 hw0.1 hwl).2 (.inl rfl)
      refine ⟨by rw [ih.len]; simp, fun u hu => ih.mono u (M_set' hwl hu), ?_, fun u h0 hu => ?_, fun u hu => ih.old u (List.mem_append_left _ hu), fun u h0 hu => ?_, fun u hu => ?_, ?_⟩
      · intro u hu
        rcases List.mem_cons.1 hu with rfl | hu
        · exact ih.mono u hmw
        · exact ih.all u hu
      · rcases ih.new u h0 hu with h | h
        · rcases (M_set hw0.1 h0 hwl).1 h with rfl | h
          · exact .inr (List.mem_cons_self ..)
          · exact .inl h
        · exact .inr (List.mem_cons_of_mem _ h)
      · rcases ih.inq u h0 hu with h | h
        · rcases (M_set hw0.1 h0 hwl).1 h with rfl | h
          · exact .inr (ih.old u (List.mem_append_right _ (List.mem_singleton.2 rfl)))
          · exact .inl h
        · exact .inr h
      · rcases ih.q u hu with h | h
        · rcases List.mem_append.1 h with h | h
          · exact .inl h
          · rw [List.mem_singleton.1 h]; exact .inr (List.mem_cons_self ..)
        · exact .inr (List.mem_cons_of_mem _ h)
      · have hf := not_M hwl hm
        have hmem : false ∈ s.1 := List.mem_of_getElem? hf
        have hc : 0 < s.1.count false := List.count_pos_iff.2 hmem
        rw [ih.num]
        rw [List.getElem?_eq_getElem hwl] at hf
        simp only [Option.some.injEq] at hf
        rw [List.count_set hwl, hf]
        simp; omega
theorem R2_eq {N : Nat} {met : List Bool} {q : List Int} {i w : Int} (hl : met.length = N) (hw : 0 ≤ w ∧ w < N) (hq : q.length ≤ 1000000) :
    graph_search_R2 (met, q) (i, w) = some (visit (met, q) w, none) := by
  unfold graph_search_R2
  have hwl : w.toNat < met.length := by omega
  simp only [idx_int hw.1 hwl]
  unfold visit
  by_cases h : M met w
  · have : met[w.toNat] = true := by unfold M at h; rw [List.getElem?_eq_getElem hwl] at h; simpa using h
    rw [if_pos h, this]; simp
  · have := not_M hwl h
    rw [List.getElem?_eq_getElem hwl] at this
    have : met[w.toNat] = false := by simpa using this
    rw [if_neg h, this]
    simp only [Bool.not_false, cond_true]
    unfold weirgate_graph_queue_int_put_57
    rw [need_pos (by simp; omega)]
    simp [obind]
def succs (n : S_api_Net) (back : Bool) (v : Int) : List Int := (n.Arcs.filter fun a => decide (src back a = v)).map (dst back)
theorem mem_succs {n : S_api_Net} {back : Bool} {v w : Int} : w ∈ succs n back v ↔ Edge n back v w := by
  unfold succs Edge
  simp only [List.mem_map, List.mem_filter, decide_eq_true_eq]
  constructor
  · rintro ⟨a, ⟨h1, h2⟩, h3⟩; exact ⟨a, h1, h2, h3⟩
  · rintro ⟨a, h1, h2, h3⟩; exact ⟨a, ⟨h1, h2⟩, h3⟩
/-- arcs from a node, yielded to a round that never leaves -/
theorem arcs_fold {St : Type} {n : S_api_Net} (hn : okNet n) (back : Bool) (v : Int) (y : St → Int × Int → Option (St × Bool)) (g : St → Int → S_api_Arc → St) (inv : Nat → St → Prop)
    (hy : ∀ (i : Nat) s a, inv i s → n.Arcs[i]? = some a → src back a = v → y s ((i : Int), dst back a) = some (g s i a, true))
    (hi : ∀ (i : Nat) s a, inv i s → n.Arcs[i]? = some a → inv (i + 1) (if src back a = v then g s i a else s)) (m : Nat) (hm : n.Arcs.length < m) (s : St) (h0 : inv 0 s) :
    graph_arcs_1_61 m y s n back v = some (n.Arcs.zipIdx.foldl (fun s p => if src back p.1 = v then g s (p.2 : Int) p.1 else s) s) := by
  unfold graph_arcs_1_61
  have hl := hn.2.2.1
  have := iter_fold (step := graph_arcs_1_61_L1 y n back v) (l := n.Arcs.zipIdx) (fun (i : Nat) (s : St) => ((i : Int), s)) (fun s p => (.go (if src back p.1 = v then g s (p.2 : Int) p.1 else s) : Lp St St)) (fun s => s) inv (fun i s x his hx => by
      rw [List.getElem?_zipIdx] at hx
      cases ha : n.Arcs[i]? with
      | none => rw [ha] at hx; simp at hx
      | some a =>
        rw [ha] at hx
        simp at hx
        subst hx
        have hlt := (List.getElem?_eq_some_iff.1 ha).1
        refine ⟨?_, fun s' hs => by simp at hs; subst hs; exact hi i s a his ha⟩
        unfold graph_arcs_1_61_L1
        have e : decide ((i : Int) < (n.Arcs.length : Int)) = true := by simpa using hlt
        simp only [e, cond_true]
        rw [idx_get ha]
        have e2 : (bif back then some (Lp.go (R := Lp (Int × St) St) (a.To, a.From)) else some (.go (a.From, a.To))) = some (.go (src back a, dst back a)) := by cases back <;> rfl
        rw [e2, bindJ_go]
        by_cases hs : src back a = v
        · simp only [hs, decide_true, cond_true]
          rw [hy i s a his ha hs]
          simp only [obind, Option.bind_some, bindJ_go, Bool.not_true, cond_false, if_true, mapS_go]
          rw [w64 (by omega) (by omega)]
          simp
        · simp only [hs, decide_false, cond_false, bindJ_go, if_false, mapS_go]
          rw [w64 (by omega) (by omega)]
          simp) (fun s _ => by unfold graph_arcs_1_61_L1; simp) m 0 s h0 (by omega) (by simpa using hm)
  simp only [List.drop_zero] at this
  rw [show ((0 : Nat) : Int) = 0 from rfl] at this
  rw [this]
  exact congrArg some (foldL_gom (fun (s : St) (p : S_api_Arc × Nat) => if src back p.1 = v then g s (p.2 : Int) p.1 else s) _ _ (fun _ _ _ => rfl))
theorem zip_fold {α γ : Type} (g : γ → α → γ) : ∀ (l : List α) (k : Nat) (s : γ), (l.zipIdx k).foldl (fun s p => g s p.1) s = l.foldl g s
  | [], k, s => rfl
  | a :: l, k, s => by simp only [List.zipIdx_cons, List.foldl_cons]; exact zip_fold g l (k + 1) _
theorem visit_len {s : List Bool × List Int} {w : Int} : (visit s w).1.length = s.1.length ∧ (visit s w).2.length ≤ s.2.length + 1 := by
  unfold visit; split <;> simp
theorem arcs_search {n : S_api_Net} (hn : okNet n) (back : Bool) (v : Int) (met : List Bool) (q : List Int) (hl : (met.length : Int) = n.Nodes) (hq : q.length ≤ 100000) (m : Nat) (hm : n.Arcs.length < m) :
    graph_arcs_1_61 m (yieldOf graph_search_R2) ((met, q), none) n back v = some ((succs n back v).foldl visit (met, q), none) := by
  have h := arcs_fold hn back v (yieldOf graph_search_R2) (fun (s : (List Bool × List Int) × Option Nat) _ a => (visit s.1 (dst back a), none)) (fun i s => s.2 = none ∧ s.1.1.length = met.length ∧ s.1.2.length ≤ q.length + i)
    (fun i s a hs ha hv => by
      obtain ⟨⟨mt, qq⟩, o⟩ := s
      obtain ⟨rfl, h2, h3⟩ := hs
      have hlt := (List.getElem?_eq_some_iff.1 ha).1
      have ha' := hn.2.2.2 a (List.mem_of_getElem? ha)
      have hl2 := hn.2.2.1
      simp only at h2 h3
      simp only [yieldOf]
      rw [R2_eq (N := met.length) h2 (by unfold okArc at ha'; cases back <;> simp [dst] <;> omega) (by omega)]
      rfl)
    (fun i s a hs ha => by
      obtain ⟨h1, h2, h3⟩ := hs
      split
      · have := visit_len (s := s.1) (w := dst back a)
        exact ⟨rfl, by simp only; omega, by simp only; omega⟩
      · exact ⟨h1, h2, by omega⟩) m hm ((met, q), none) ⟨rfl, rfl, by simp⟩
  rw [h]
  rw [zip_fold (fun (s : (List Bool × List Int) × Option Nat) (a : S_api_Arc) => if src back a = v then (visit s.1 (dst back a), none) else s)]
  have key : ∀ (l : List S_api_Arc) (s : List Bool × List Int), l.foldl (fun (s : (List Bool × List Int) × Option Nat) (a : S_api_Arc) => if src back a = v then (visit s.1 (dst back a), none) else s) (s, none) = (((l.filter fun a => decide (src back a = v)).map (dst back)).foldl visit s, none) := by
    intro l
    induction l with
    | nil => intro s; rfl
    | cons a l ih =>
      intro s
      simp only [List.foldl_cons, List.filter_cons]
      by_cases h : src back a = v
      · simp only [h, if_true, decide_true, List.map_cons, List.foldl_cons]; exact ih _
      · simp only [h, if_false, decide_false, Bool.false_eq_true]; exact ih _
  rw [key]; rfl
structure SInv (n : S_api_Net) (back : Bool) (u : Int) (s : Int × Bool × List Bool × List Int) : Prop where
  len : (s.2.2.1.length : Int) = n.Nodes
  from_ : M s.2.2.1 u
  sound : ∀ w, 0 ≤ w → M s.2.2.1 w → Pth n back u w
  cur : s.2.1 = true → 0 ≤ s.1 ∧ s.1 < n.Nodes
  inr : ∀ w ∈ s.2.2.2, 0 ≤ w ∧ w < n.Nodes
  cl : ∀ v w, 0 ≤ v → M s.2.2.1 v → (s.2.1 = true ∧ s.1 = v) ∨ v ∈ s.2.2.2 ∨ (Edge n back v w → M s.2.2.1 w)
  emp : s.2.1 = false → s.2.2.2 = []
  mcur : s.2.1 = true → M s.2.2.1 s.1
  qm : ∀ w ∈ s.2.2.2, M s.2.2.1 w
  sm : s.2.2.1.count false + s.2.2.2.length ≤ s.2.2.1.length
def sMu (s : Int × Bool × List Bool × List Int) : Nat := s.2.2.1.count false + s.2.2.2.length + (if s.2.1 then 1 else 0)
theorem get_eq (q : List Int) : weirgate_graph_queue_int_get_58 (S_graph_queue_int.mk q) = some (match q with | [] => (0, false, S_graph_queue_int.mk []) | x :: r => (x, true, S_graph_queue_int.mk r)) := by
  unfold weirgate_graph_queue_int_get_58
  cases q with
  | nil => simp
  | cons x r =>
    have e : decide ((((⟨x :: r⟩ : S_graph_queue_int).l_.length : Nat) : Int) = 0) = false := by simp; omega
    simp only [e, cond_false]
    rw [show idx (x :: r) (0 : Int) _ = _ from idx_get (l := x :: r) (i := 0) (x := x) rfl _]
    rw [need_pos (by simp; omega)]
    simp
theorem search_eq {n : S_api_Net} (hn : okNet n) (back : Bool) {u : Int} (h0 : 0 ≤ u) (h1 : u < n.Nodes) (m : Nat) (hm : 3000 ≤ m) :
    ∃ met : List Bool, graph_search m n u back = some met ∧ (met.length : Int) = n.Nodes ∧ ∀ w, 0 ≤ w → (M met w ↔ Pth n back u w) := by
  have hN := hn.2.1
  have hA := hn.2.2.1
  unfold graph_search
  rw [need_pos (by omega)]
  have hlen : (List.replicate n.Nodes.toNat false).length = n.Nodes.toNat := by simp
  have hul : u.toNat < (List.replicate n.Nodes.toNat false).length := by rw [hlen]; omega
  rw [show ∀ (k : Bool → Option (List Bool)), idx (List.replicate n.Nodes.toNat false) u k = k false from fun k => by
    rw [show u = ((u.toNat : Nat) : Int) by omega, idx_get (x := false) (by rw [List.getElem?_eq_getElem hul]; simp)]]
  simp only [weirgate_graph_queue_int_put_57]
  rw [need_pos (by simp)]
  simp only [obind, Option.bind_some, List.nil_append]
  rw [get_eq]
  simp only [Option.bind_some]
  have key := iter_inv (step := graph_search_L1 m n back) (SInv n back u) sMu (fun r => ∃ met : List Bool, r = .go met ∧ (met.length : Int) = n.Nodes ∧ ∀ w, 0 ≤ w → (M met w ↔ Pth n back u w)) (by
    rintro ⟨v, ok, met, q⟩ hi
    cases ok with
    | false =>
      right
      refine ⟨_, by unfold graph_search_L1; simp only [cond_false], met, rfl, hi.len, fun w hw => ⟨hi.sound w hw, fun hp => ?_⟩⟩
      have hq := hi.emp rfl
      simp only at hq
      induction hp with
      | refl => exact hi.from_
      | @step a b hp e ih =>
        have ha := edge_in hn e
        rcases hi.cl a b ha.1 (ih ha.1) with ⟨h, _⟩ | h | h
        · cases h
        · simp only [hq] at h; simp at h
        · exact h e
    | true =>
      left
      obtain ⟨hv0, hv1⟩ := hi.cur rfl
      have hl := hi.len
      simp only at hl hv0 hv1
      have hsm := hi.sm
      simp only at hsm
      have hvis := vis_fold n.Nodes.toNat (succs n back v) (met, q) (by simp only; omega) (fun w hw => by have := edge_in hn (mem_succs.1 hw); omega)
      unfold graph_search_L1
      simp only [cond_true]
      rw [arcs_search hn back v met q hl (by omega) m (by omega)]
      obtain ⟨⟨met', q'⟩, hs'⟩ : ∃ s', (succs n back v).foldl visit (met, q) = s' := ⟨_, rfl⟩
      rw [hs'] at hvis ⊢
      unfold graph_arcs
      simp only [obind, Option.bind_some, onJump, get_eq]
      have hlen' := hvis.len
      have hnum := hvis.num
      simp only at hlen' hnum
      have mon : ∀ w, M met w → M met' w := hvis.mono
      have hcl : ∀ a b, 0 ≤ a → M met' a → a ∈ q' ∨ (Edge n back a b → M met' b) := by
        intro a b ha hm'
        rcases hvis.inq a ha hm' with h | h
        · rcases hi.cl a b ha h with ⟨_, rfl⟩ | h | h
          · right; intro e; exact hvis.all b (mem_succs.2 e)
          · left; exact hvis.old a h
          · right; intro e; exact mon b (h e)
        · exact .inl h
      have hsnd : ∀ w, 0 ≤ w → M met' w → Pth n back u w := by
        intro w hw hm'
        rcases hvis.new w hw hm' with h | h
        · exact hi.sound w hw h
        · exact .step (hi.sound v hv0 (hi.mcur rfl)) (mem_succs.1 h)
      have hqr : ∀ w ∈ q', (0 ≤ w ∧ w < n.Nodes) ∧ M met' w := by
        intro w hw
        rcases hvis.q w hw with h | h
        · exact ⟨hi.inr w h, mon w (hi.qm w h)⟩
        · have := edge_in hn (mem_succs.1 h); exact ⟨⟨this.2.2.1, this.2.2.2⟩, hvis.all w h⟩
      cases q' with
      | nil =>
        refine ⟨_, rfl, ⟨by simp only; omega, mon u hi.from_, hsnd, by simp, by simp, ?_, by simp, by simp, by simp, by simp at hnum ⊢; omega⟩, ?_⟩
        · intro a b ha hm'
          rcases hcl a b ha hm' with h | h
          · simp at h
          · exact .inr (.inr h)
        · simp [sMu] at hnum ⊢; omega
      | cons x r =>
        refine ⟨_, rfl, ⟨by simp only; omega, mon u hi.from_, hsnd, fun _ => (hqr x (List.mem_cons_self ..)).1, fun w hw => (hqr w (List.mem_cons_of_mem _ hw)).1, ?_, by simp, fun _ => (hqr x (List.mem_cons_self ..)).2, fun w hw => (hqr w (List.mem_cons_of_mem _ hw)).2, by simp at hnum ⊢; omega⟩, ?_⟩
        · intro a b ha hm'
          rcases hcl a b ha hm' with h | h
          · rcases List.mem_cons.1 h with rfl | h
            · exact .inl ⟨rfl, rfl⟩
            · exact .inr (.inl h)
          · exact .inr (.inr h)
        · simp [sMu] at hnum ⊢; omega)
    m (u, true, (List.replicate n.Nodes.toNat false).set u.toNat true, []) (by
      refine ⟨by simp; omega, (M_set h0 h0 hul).2 (.inl rfl), ?_, fun _ => ⟨h0, h1⟩, by simp, ?_, by simp, fun _ => (M_set h0 h0 hul).2 (.inl rfl), by simp, ?_⟩
      · intro w hw hm'
        rcases (M_set h0 hw hul).1 hm' with rfl | h
        · exact .refl
        · unfold M at h; rw [List.getElem?_replicate] at h; split at h <;> simp at h
      · intro a b ha hm'
        rcases (M_set h0 ha hul).1 hm' with rfl | h
        · exact .inl ⟨rfl, rfl⟩
        · unfold M at h; rw [List.getElem?_replicate] at h; split at h <;> simp at h
      · simp only [List.length_nil, Nat.add_zero]; exact List.count_le_length) (by
      unfold sMu
      simp only [List.length_nil, if_true]
      have := List.count_le_length (a := false) (l := (List.replicate n.Nodes.toNat false).set u.toNat true)
      simp at this
      omega)
  obtain ⟨r, hr, met, rfl, h2, h3⟩ := key
  refine ⟨met, ?_, h2, h3⟩
  simp only [hr, bindJ_go]
end Go.Proofs.Ytgelifcckhemiaa
namespace Go.Proofs.Ytgelifcckhemiaa
open Go.Abs
set_option linter.unusedSimpArgs false
set_option linter.unusedVariables false
/-- a node that can come next behind D -/
def Free_ (n : S_api_Net) (D : List Int) (v : Int) : Prop := 0 ≤ v ∧ v < n.Nodes ∧ v ∉ D ∧ ∀ a ∈ n.Arcs, a.To = v → a.From ∈ D
def Least (n : S_api_Net) (D : List Int) (v : Int) : Prop := Free_ n D v ∧ ∀ w, Free_ n D w → v ≤ w
inductive Ord (n : S_api_Net) : List Int → Prop where
  | nil : Ord n []
  | snoc {D : List Int} {v : Int} : Ord n D → Least n D v → Ord n (D ++ [v])
theorem Ord.nodup {n : S_api_Net} {D : List Int} (h : Ord n D) : D.Nodup := by
  induction h with
  | nil => exact List.nodup_nil
  | snoc _ hl ih =>
    refine List.nodup_append.2 ⟨ih, by simp, fun a ha b hb e => ?_⟩
    rw [List.mem_singleton.1 hb] at e
    exact hl.1.2.2.1 (e ▸ ha)
theorem Ord.inr {n : S_api_Net} {D : List Int} (h : Ord n D) : ∀ w ∈ D, 0 ≤ w ∧ w < n.Nodes := by
  induction h with
  | nil => intro w h; simp at h
  | snoc _ hl ih =>
    intro w hw
    rcases List.mem_append.1 hw with h | h
    · exact ih w h
    · rw [List.mem_singleton.1 h]; exact ⟨hl.1.1, hl.1.2.1⟩
theorem Ord.len {n : S_api_Net} (hn : okNet n) {D : List Int} (h : Ord n D) : D.length ≤ n.Nodes.toNat := by
  have h0 := hn.1
  exact nodup_range h.nodup (fun x hx => by have := h.inr x hx; omega)
end Go.Proofs.Ytgelifcckhemiaa
namespace Go.Proofs.Ytgelifcckhemiaa
open Go.Abs
set_option linter.unusedSimpArgs false
set_option linter.unusedVariables false
def itp (f : Int → Int) : Nat → Int → Int
  | 0, w => w
  | k + 1, w => itp f k (f w)
theorem itp_succ (f : Int → Int) : ∀ (k : Nat) (w : Int), itp f (k + 1) w = f (itp f k w)
  | 0, w => rfl
  | k + 1, w => by rw [itp, itp_succ f k, itp]
theorem itp_add (f : Int → Int) : ∀ (a b : Nat) (w : Int), itp f (a + b) w = itp f a (itp f b w)
  | a, 0, w => rfl
  | a, b + 1, w => by rw [show a + (b + 1) = (a + b) + 1 by omega, itp, itp_add f a b, itp]
theorem least_nat {P : Nat → Prop} : ∀ (k : Nat), P k → ∃ m, m ≤ k ∧ P m ∧ ∀ j, j < m → ¬ P j := by
  intro k
  induction k using Nat.strongRecOn with
  | ind k ih =>
    intro h
    by_cases hj : ∃ j, j < k ∧ P j
    · obtain ⟨j, h1, h2⟩ := hj
      obtain ⟨m, h3, h4, h5⟩ := ih j h1 h2
      exact ⟨m, by omega, h4, h5⟩
    · exact ⟨k, Nat.le_refl _, h, fun j h1 h2 => hj ⟨j, h1, h2⟩⟩
theorem not_nodup {α : Type} {l : List α} (h : ¬ l.Nodup) : ∃ (i j : Nat) (hi : i < l.length) (hj : j < l.length), i < j ∧ l[i] = l[j] := by
  refine Classical.byContradiction fun hc => h (List.pairwise_iff_getElem.2 fun i j hi hj hij e => hc ⟨i, j, hi, hj, hij, e⟩)
/-- going back N steps, one is on a cycle of at most N nodes -/
theorem period {N : Nat} {f : Int → Int} {v : Int} (h : ∀ i, 0 ≤ itp f i v ∧ itp f i v < N) : ∃ k, 1 ≤ k ∧ k ≤ N ∧ itp f k (itp f N v) = itp f N v ∧ ∀ j, 1 ≤ j → j < k → itp f j (itp f N v) ≠ itp f N v := by
  obtain ⟨k, h1, h2, h3⟩ : ∃ k, 1 ≤ k ∧ k ≤ N ∧ itp f k (itp f N v) = itp f N v := by
    have hn : ¬ ((List.range (N + 1)).map fun i => itp f i v).Nodup := fun hd => by
      have := nodup_range (n := N) hd (fun x hx => by obtain ⟨i, _, rfl⟩ := List.mem_map.1 hx; exact h i)
      simp at this; omega
    obtain ⟨i, j, hi, hj, hij, e⟩ := not_nodup hn
    simp at hi hj e
    refine ⟨j - i, by omega, by omega, ?_⟩
    have e1 : itp f N v = itp f (N - i) (itp f i v) := by rw [← itp_add]; congr 1; omega
    rw [← itp_add, show j - i + N = (N - i) + j by omega, itp_add, ← e, ← e1]
  obtain ⟨m, g1, ⟨g2, g3⟩, g4⟩ := least_nat (P := fun k => 1 ≤ k ∧ itp f k (itp f N v) = itp f N v) k ⟨h1, h3⟩
  exact ⟨m, g2, by omega, g3, fun j hj hjm he => g4 j hjm ⟨hj, he⟩⟩
/-- an arc from a node that is left to w -/
def Into (n : S_api_Net) (D : List Int) (w : Int) (j : Nat) : Prop := ∃ a, n.Arcs[j]? = some a ∧ a.To = w ∧ a.From ∉ D
theorem Reverse_eq {l : List Int} (hl : l.length ≤ 100000) (m : Nat) (hm : l.length + 1 < m) : slices_Reverse_int_int_62_v1 m l = some l.reverse := by
  unfold slices_Reverse_int_int_62_v1
  by_cases h0 : l = []
  · subst h0
    rw [w64 (by simp) (by simp)]
    obtain ⟨m', rfl⟩ : ∃ m', m = m' + 1 := ⟨m - 1, by omega⟩
    refine iter_stop ?_
    unfold slices_Reverse_int_int_62_v1_L1
    simp
  have hpos : 0 < l.length := List.length_pos_iff.2 h0
  rw [w64 (by omega) (by omega)]
  have key := iter_inv (step := slices_Reverse_int_int_62_v1_L1) (fun s => ∃ i : Nat, s.1 = (i : Int) ∧ s.2.1 = (l.length : Int) - 1 - i ∧ 2 * i ≤ l.length + 1 ∧ s.2.2.length = l.length ∧ ∀ t, t < l.length → g s.2.2 t = if t < i ∨ l.length - 1 - i < t then g l (l.length - 1 - t) else g l t) (fun s => l.length - s.1.toNat)
    (fun r => r = l.reverse) (by
      rintro ⟨i', j', x⟩ ⟨i, he, hj, hi, hxl, hx⟩
      simp only at he hj hxl hx
      subst he hj
      unfold slices_Reverse_int_int_62_v1_L1
      by_cases hlt : (i : Int) < (l.length : Int) - 1 - i
      · left
        have e : decide ((i : Int) < (l.length : Int) - 1 - i) = true := decide_eq_true hlt
        simp only [e, cond_true]
        obtain ⟨j, hj⟩ : ∃ j : Nat, j = l.length - 1 - i := ⟨_, rfl⟩
        rw [show (l.length : Int) - 1 - i = (j : Int) by omega, idx_get (g_get (by omega)), idx_get (g_get (by omega)), Int.toNat_natCast, Int.toNat_natCast, idx_get' (by simp; omega)]
        rw [w64 (by omega) (by omega), w64 (by omega) (by omega)]
        refine ⟨_, rfl, ⟨i + 1, by simp, by simp only; omega, by omega, by simp [hxl], fun t ht => ?_⟩, by simp; omega⟩
        simp only
        rw [g_set (by simp; omega), g_set (by omega)]
        by_cases e1 : t = j
        · subst e1
          rw [if_pos rfl, hx i (by omega), if_neg (by omega), if_pos (by omega)]
          congr 1; omega
        · rw [if_neg e1]
          by_cases e2 : t = i
          · subst e2
            rw [if_pos rfl, hx j (by omega), if_neg (by omega), if_pos (by omega), hj]
          · rw [if_neg e2, hx t ht]
            by_cases c : t < i ∨ l.length - 1 - i < t
            · rw [if_pos c, if_pos (by omega)]
            · rw [if_neg c, if_neg (by omega)]
      · right
        have e : decide ((i : Int) < (l.length : Int) - 1 - i) = false := decide_eq_false hlt
        simp only [e, cond_false]
        refine ⟨_, rfl, ?_⟩
        apply List.ext_getElem (by simp [hxl])
        intro t h1 h2
        rw [g_el h1, hx t (by omega), List.getElem_reverse, g_el (by omega)]
        split
        · rfl
        · rename_i c
          congr 1; omega)
    m (0, (l.length : Int) - 1, l) ⟨0, rfl, by simp, by omega, rfl, fun t ht => by rw [if_neg (by omega)]⟩ (by simp; omega)
  obtain ⟨r, hr, rfl⟩ := key
  exact hr
structure Cyc (n : S_api_Net) (D cyc : List Int) (vf : Int → Nat) (pf : Int → Int) (v : Int) (k : Nat) : Prop where
  k1 : 1 ≤ k
  kN : k ≤ n.Nodes.toNat
  per : itp pf k v = v
  min : ∀ j, 1 ≤ j → j < k → itp pf j v ≠ v
  arc : ∀ w, 0 ≤ w → w < n.Nodes → w ∉ D → ∃ a, n.Arcs[vf w]? = some a ∧ a.To = w ∧ a.From = pf w ∧ pf w ∉ D
  at_ : 0 ≤ v ∧ v < n.Nodes ∧ v ∉ D
  eq : cyc = ((List.range k).map fun s => ((vf (itp pf s v) : Nat) : Int)).reverse
theorem around_full {n : S_api_Net} (hn : okNet n) {D via : List Int} (hl : (via.length : Int) = n.Nodes) (hv : ∀ w, 0 ≤ w → w < n.Nodes → w ∉ D → ∃ j : Nat, g via w.toNat = (j : Int) ∧ Into n D w j)
    {v : Int} (h0 : 0 ≤ v) (h1 : v < n.Nodes) (h2 : v ∉ D) (m : Nat) (hm : 3000 ≤ m) : ∃ cyc vf pf v' k, graph_around m n via v = some cyc ∧ Cyc n D cyc vf pf v' k ∧ ∀ w, 0 ≤ w → w < n.Nodes → w ∉ D → g via w.toNat = ((vf w : Nat) : Int) := by
  have hN := hn.2.1
  have hA := hn.2.2.1
  obtain ⟨vf, hvf⟩ : ∃ vf : Int → Nat, vf = fun w => (g via w.toNat).toNat := ⟨_, rfl⟩
  obtain ⟨pf, hpf⟩ : ∃ pf : Int → Int, pf = fun w => match n.Arcs[vf w]? with | some a => a.From | none => 0 := ⟨_, rfl⟩
  have arc : ∀ w, 0 ≤ w → w < n.Nodes → w ∉ D → ∃ a, n.Arcs[vf w]? = some a ∧ a.To = w ∧ a.From = pf w ∧ pf w ∉ D ∧ g via w.toNat = ((vf w : Nat) : Int) := by
    intro w hw0 hw1 hwD
    obtain ⟨j, e1, a, e2, e3, e4⟩ := hv w hw0 hw1 hwD
    have e5 : vf w = j := by rw [hvf]; simp only; omega
    have e6 : pf w = a.From := by rw [hpf]; simp only [e5, e2]
    exact ⟨a, by rw [e5]; exact e2, e3, e6.symm, by rw [e6]; exact e4, by rw [e5]; exact e1⟩
  have hin : ∀ w, 0 ≤ w → w < n.Nodes → w ∉ D → 0 ≤ pf w ∧ pf w < n.Nodes ∧ pf w ∉ D := by
    intro w hw0 hw1 hwD
    obtain ⟨a, e1, e2, e3, e4, _⟩ := arc w hw0 hw1 hwD
    have := hn.2.2.2 a (List.mem_of_getElem? e1)
    obtain ⟨q1, q2, _⟩ := this
    rw [e3] at q1 q2
    exact ⟨q1, q2, e4⟩
  have hit : ∀ i w, 0 ≤ w → w < n.Nodes → w ∉ D → 0 ≤ itp pf i w ∧ itp pf i w < n.Nodes ∧ itp pf i w ∉ D := by
    intro i
    induction i with
    | zero => intro w a b c; exact ⟨a, b, c⟩
    | succ i ih => intro w a b c; have := hin w a b c; exact ih (pf w) this.1 this.2.1 this.2.2
  obtain ⟨k, k1, k2, k3, k4⟩ := period (N := n.Nodes.toNat) (f := pf) (v := v) (fun i => by have := hit i v h0 h1 h2; omega)
  obtain ⟨v', hv'⟩ : ∃ v', v' = itp pf n.Nodes.toNat v := ⟨_, rfl⟩
  rw [← hv'] at k3 k4
  have hv'in := hit n.Nodes.toNat v h0 h1 h2
  rw [← hv'] at hv'in
  have step1 : iter (graph_around_L1 n via) m (v, 0) = some (.go v') := by
    have key := iter_inv (step := graph_around_L1 n via) (fun s => ∃ i : Nat, s.2 = (i : Int) ∧ i ≤ n.Nodes.toNat ∧ s.1 = itp pf i v) (fun s => n.Nodes.toNat - s.2.toNat) (fun r => r = .go v') (by
      rintro ⟨w, i'⟩ ⟨i, he, hi, hw⟩
      simp only at he hw
      subst he hw
      unfold graph_around_L1
      by_cases hlt : i < n.Nodes.toNat
      · left
        have e : decide ((i : Int) < n.Nodes) = true := by simp; omega
        simp only [e, cond_true]
        have hw := hit i v h0 h1 h2
        obtain ⟨a, e1, e2, e3, e4, e5⟩ := arc _ hw.1 hw.2.1 hw.2.2
        rw [idx_int hw.1 (by omega), g_el (by omega), e5, idx_get e1, w64 (by omega) (by omega), e3]
        exact ⟨_, rfl, ⟨i + 1, by simp, by omega, by simp only; rw [itp_succ]⟩, by simp; omega⟩
      · right
        have e : decide ((i : Int) < n.Nodes) = false := by simp; omega
        simp only [e, cond_false]
        have : i = n.Nodes.toNat := by omega
        exact ⟨_, rfl, by rw [this, hv']⟩)
      m (v, 0) ⟨0, rfl, Nat.zero_le _, rfl⟩ (by simp; omega)
    obtain ⟨r, hr, rfl⟩ := key
    exact hr
  have step2 : iter (graph_around_L2 n via v' v') m ([((vf v' : Nat) : Int)], pf v') = some (.go ((List.range k).map fun s => ((vf (itp pf s v') : Nat) : Int))) := by
    have key := iter_inv (step := graph_around_L2 n via v' v') (fun s => ∃ t : Nat, 1 ≤ t ∧ t ≤ k ∧ s.1 = ((List.range t).map fun s => ((vf (itp pf s v') : Nat) : Int)) ∧ s.2 = itp pf t v') (fun s => k - s.1.length) (fun r => r = .go ((List.range k).map fun s => ((vf (itp pf s v') : Nat) : Int))) (by
      rintro ⟨c, w⟩ ⟨t, t1, t2, hc, hw⟩
      simp only at hc hw
      subst hc hw
      unfold graph_around_L2
      by_cases hlt : t < k
      · left
        have e : decide (itp pf t v' ≠ v') = true := decide_eq_true (k4 t t1 hlt)
        simp only [e, cond_true]
        have hw := hit t v' hv'in.1 hv'in.2.1 hv'in.2.2
        obtain ⟨a, e1, e2, e3, e4, e5⟩ := arc _ hw.1 hw.2.1 hw.2.2
        rw [idx_int hw.1 (by omega), g_el (by omega), e5, need_pos (by simp; omega), idx_get e1, e3]
        refine ⟨_, rfl, ⟨t + 1, by omega, by omega, ?_, by simp only; rw [itp_succ]⟩, by simp; omega⟩
        rw [List.range_succ, List.map_append]; rfl
      · right
        have : t = k := by omega
        subst this
        have e : decide (itp pf t v' ≠ v') = false := decide_eq_false (fun h => h k3)
        simp only [e, cond_false]
        exact ⟨_, rfl, rfl⟩)
      m ([((vf v' : Nat) : Int)], pf v') ⟨1, Nat.le_refl _, k1, by simp [itp], by simp [itp]⟩ (by simp; omega)
    obtain ⟨r, hr, rfl⟩ := key
    exact hr
  refine ⟨_, vf, pf, v', k, ?_, ⟨k1, k2, k3, k4, fun w a b c => by obtain ⟨q, q1, q2, q3, q4, _⟩ := arc w a b c; exact ⟨q, q1, q2, q3, q4⟩, hv'in, rfl⟩, fun w a b c => by obtain ⟨q, _, _, _, _, q5⟩ := arc w a b c; exact q5⟩
  unfold graph_around
  simp only [step1, bindJ_go]
  obtain ⟨a, e1, e2, e3, e4, e5⟩ := arc _ hv'in.1 hv'in.2.1 hv'in.2.2
  rw [idx_int hv'in.1 (by omega), g_el (by omega), e5, idx_get e1, e3, step2, bindJ_go, Reverse_eq (by simp; omega) m (by simp; omega)]
  rfl
end Go.Proofs.Ytgelifcckhemiaa
namespace Go.Proofs.Ytgelifcckhemiaa
open Go.Abs
set_option linter.unusedSimpArgs false
set_option linter.unusedVariables false
/-- less by the sum, then by the number of arcs -/
def lt2 (a b : Int × Int) : Prop := a.1 < b.1 ∨ (a.1 = b.1 ∧ a.2 < b.2)
instance (a b : Int × Int) : Decidable (lt2 a b) := by unfold lt2; exact inferInstance
/-- by an arc on -/
def ext (x : Int × Int) (a : S_api_Arc) : Int × Int := (x.1 + a.Cost, x.2 + 1)
theorem lt2_irr (a : Int × Int) : ¬ lt2 a a := by unfold lt2; omega
theorem nlt_trans {a b c : Int × Int} (h : ¬ lt2 a b) (k : ¬ lt2 b c) : ¬ lt2 a c := by unfold lt2 at *; omega
theorem nlt_of_lt {a b : Int × Int} (h : lt2 a b) : ¬ lt2 b a := by unfold lt2 at *; omega
theorem nlt_anti {a b : Int × Int} (h : ¬ lt2 a b) (k : ¬ lt2 b a) : a = b := by
  unfold lt2 at *
  exact Prod.ext (by omega) (by omega)
theorem ext_nlt {a b : Int × Int} (c : S_api_Arc) (h : ¬ lt2 a b) : ¬ lt2 (ext a c) (ext b c) := by unfold lt2 ext at *; simp only; omega
theorem ext_lt {a b : Int × Int} (c : S_api_Arc) (h : lt2 a b) : lt2 (ext a c) (ext b c) := by unfold lt2 ext at *; simp only; omega
inductive Wk (n : S_api_Net) (u : Int) : Nat → Int → Int → Prop
  | nil : Wk n u 0 u 0
  | snoc {k : Nat} {s : Int} {a : S_api_Arc} (h : Wk n u k a.From s) (ha : a ∈ n.Arcs) : Wk n u (k + 1) a.To (s + a.Cost)
abbrev Tab := Int → Option (Int × Int)
/-- what the table says is so -/
def Snd (n : S_api_Net) (u : Int) (f : Tab) : Prop := ∀ v x, f v = some x → ∃ k : Nat, x.2 = (k : Int) ∧ Wk n u k v x.1
/-- the table says no less than the walks of at most j arcs -/
def Cov (n : S_api_Net) (u : Int) (j : Nat) (f : Tab) : Prop := ∀ k v s, k ≤ j → Wk n u k v s → ∃ x, f v = some x ∧ ¬ lt2 (s, (k : Int)) x
structure Opt (n : S_api_Net) (u : Int) (f : Tab) : Prop where
  snd : Snd n u f
  cov : ∀ k v s, Wk n u k v s → ∃ x, f v = some x ∧ ¬ lt2 (s, (k : Int)) x
/-- the arc leads to nothing better -/
def Rel (f : Tab) (a : S_api_Arc) : Prop := ∀ x, f a.From = some x → ∃ y, f a.To = some y ∧ ¬ lt2 (ext x a) y
theorem snd_ext {n : S_api_Net} {u : Int} {f : Tab} (h : Snd n u f) {a : S_api_Arc} (ha : a ∈ n.Arcs) {x : Int × Int} (hx : f a.From = some x) : ∃ k : Nat, (ext x a).2 = (k : Int) ∧ Wk n u k a.To (ext x a).1 := by
  obtain ⟨k, h1, h2⟩ := h _ _ hx
  exact ⟨k + 1, by simp only [ext, h1]; omega, .snoc h2 ha⟩
theorem opt_rel {n : S_api_Net} {u : Int} {f : Tab} (h : Opt n u f) {a : S_api_Arc} (ha : a ∈ n.Arcs) : Rel f a := fun x hx => by
  obtain ⟨k, h1, h2⟩ := snd_ext h.snd ha hx
  obtain ⟨y, h3, h4⟩ := h.cov k _ _ h2
  refine ⟨y, h3, ?_⟩
  rw [← h1] at h4; exact h4
theorem opt_fix {n : S_api_Net} {u : Int} {f : Tab} (hs : Snd n u f) (h0 : ∃ x, f u = some x ∧ ¬ lt2 (0, 0) x) (hr : ∀ a ∈ n.Arcs, Rel f a) : Opt n u f := by
  refine ⟨hs, fun k v s h => ?_⟩
  induction h with
  | nil => exact h0
  | @snoc k s a h ha ih =>
    obtain ⟨x, h1, h2⟩ := ih
    obtain ⟨y, h3, h4⟩ := hr _ ha x h1
    refine ⟨y, h3, nlt_trans ?_ h4⟩
    have := ext_nlt a h2
    simpa [ext] using this
theorem opt_uniq {n : S_api_Net} {u : Int} {f g : Tab} (hf : Opt n u f) (hg : Snd n u g) (hc : ∀ v x, f v = some x → ∃ y, g v = some y ∧ ¬ lt2 x y) (v : Int) : g v = f v := by
  cases h : g v with
  | none =>
    cases h' : f v with
    | none => rfl
    | some x =>
      obtain ⟨y, h1, _⟩ := hc v x h'
      rw [h] at h1; exact absurd h1 (by simp)
  | some y =>
    obtain ⟨k, h1, h2⟩ := hg v y h
    obtain ⟨x, h3, h4⟩ := hf.cov k v _ h2
    obtain ⟨y', h5, h6⟩ := hc v x h3
    rw [h] at h5
    cases h5
    rw [h3, nlt_anti h6 (by rw [← h1] at h4; exact h4)]
theorem opt_pred {n : S_api_Net} {u : Int} {f : Tab} (h : Opt n u f) {v : Int} {s : Int} {k : Nat} (hv : f v = some (s, ((k + 1 : Nat) : Int))) : ∃ a ∈ n.Arcs, a.To = v ∧ f a.From = some (s - a.Cost, (k : Int)) := by
  obtain ⟨k', h1, h2⟩ := h.snd v _ hv
  simp only at h1 h2
  cases h2 with
  | nil => exfalso; simp at h1; omega
  | @snoc k2 s2 a h3 ha =>
    have hk : k2 = k := by omega
    subst hk
    refine ⟨a, ha, rfl, ?_⟩
    obtain ⟨x, h4, h5⟩ := h.cov _ _ _ h3
    obtain ⟨y, h6, h7⟩ := opt_rel h ha x h4
    rw [hv] at h6
    cases h6
    rw [h4]
    unfold lt2 at h5 h7
    unfold ext at h7
    simp only at h5 h7
    congr 1
    exact Prod.ext (by simp only; omega) (by simp only; omega)
theorem opt_root {n : S_api_Net} {u : Int} {f : Tab} (h : Opt n u f) : f u = some (0, 0) := by
  have key : ∀ (k : Nat) (v s : Int), f v = some (s, (k : Int)) → f u = some (0, 0) := by
    intro k
    induction k with
    | zero =>
      intro v s hv
      obtain ⟨k', h1, h2⟩ := h.snd v _ hv
      simp only at h1 h2
      have : k' = 0 := by omega
      subst this
      cases h2 with
      | nil => simpa using hv
    | succ k ih =>
      intro v s hv
      obtain ⟨a, _, _, h1⟩ := opt_pred h hv
      exact ih _ _ h1
  obtain ⟨x, h1, _⟩ := h.cov 0 u 0 .nil
  obtain ⟨k, h2, _⟩ := h.snd u x h1
  exact key k u x.1 (by rw [h1, ← h2])
theorem wk_in {n : S_api_Net} (hn : okNet n) {u : Int} (h0 : 0 ≤ u) (h1 : u < n.Nodes) {k : Nat} {v s : Int} (h : Wk n u k v s) : 0 ≤ v ∧ v < n.Nodes := by
  cases h with
  | nil => exact ⟨h0, h1⟩
  | snoc h ha => have := hn.2.2.2 _ ha; exact ⟨this.2.2.1, this.2.2.2.1⟩
theorem wk_sum {n : S_api_Net} (hn : okNet n) {u : Int} {k : Nat} {v s : Int} (h : Wk n u k v s) : -(1048576 * (k : Int)) ≤ s ∧ s ≤ 1048576 * (k : Int) := by
  induction h with
  | nil => simp
  | snoc h ha ih => have := hn.2.2.2 _ ha; obtain ⟨_, _, _, _, h5, h6⟩ := this; omega
theorem wk_pth {n : S_api_Net} {u : Int} {k : Nat} {v s : Int} (h : Wk n u k v s) : Pth n false u v := by
  induction h with
  | nil => exact .refl
  | @snoc k s a h ha ih => exact .step ih ⟨a, ha, rfl, rfl⟩
theorem pth_wk {n : S_api_Net} {u v : Int} (h : Pth n false u v) : ∃ k s, Wk n u k v s := by
  induction h with
  | refl => exact ⟨0, 0, .nil⟩
  | step h e ih =>
    obtain ⟨k, s, h1⟩ := ih
    obtain ⟨a, ha, rfl, rfl⟩ := e
    exact ⟨_, _, .snoc h1 ha⟩
/-- a least walk has less arcs than there are nodes -/
theorem opt_short {n : S_api_Net} (hn : okNet n) {u : Int} (h0 : 0 ≤ u) (h1 : u < n.Nodes) {f : Tab} (h : Opt n u f) {v s : Int} {k : Nat} (hv : f v = some (s, (k : Int))) : (k : Int) + 1 ≤ n.Nodes := by
  have key : ∀ (k : Nat) (v s : Int), f v = some (s, (k : Int)) → ∃ L : List Int, L.length = k + 1 ∧ L.Nodup ∧ ∀ x ∈ L, (0 ≤ x ∧ x < n.Nodes) ∧ ∃ (s' : Int) (j : Nat), j ≤ k ∧ f x = some (s', (j : Int)) := by
    intro k
    induction k with
    | zero =>
      intro v s hv
      obtain ⟨k', _, h2⟩ := h.snd v _ hv
      exact ⟨[v], rfl, by simp, fun x hx => by simp at hx; subst hx; exact ⟨wk_in hn h0 h1 h2, s, 0, Nat.le_refl _, hv⟩⟩
    | succ k ih =>
      intro v s hv
      obtain ⟨k', _, h2⟩ := h.snd v _ hv
      obtain ⟨a, _, _, h3⟩ := opt_pred h hv
      obtain ⟨L, e1, e2, e3⟩ := ih _ _ h3
      refine ⟨v :: L, by simp [e1], List.nodup_cons.2 ⟨fun hm => ?_, e2⟩, fun x hx => ?_⟩
      · obtain ⟨_, s', j, hj, e⟩ := e3 v hm
        rw [hv] at e
        simp only [Option.some.injEq, Prod.mk.injEq] at e
        omega
      · rcases List.mem_cons.1 hx with rfl | hx
        · exact ⟨wk_in hn h0 h1 h2, s, k + 1, Nat.le_refl _, hv⟩
        · obtain ⟨g1, s', j, hj, e⟩ := e3 x hx
          exact ⟨g1, s', j, by omega, e⟩
  obtain ⟨L, e1, e2, e3⟩ := key k v s hv
  have := nodup_range (n := n.Nodes.toNat) e2 (fun x hx => by have := (e3 x hx).1; omega)
  omega
theorem cov_opt {n : S_api_Net} (hn : okNet n) {u : Int} (h0 : 0 ≤ u) (h1 : u < n.Nodes) {f g : Tab} (hf : Opt n u f) (hg : Snd n u g) {j : Nat} (hj : n.Nodes ≤ (j : Int) + 1) (hc : Cov n u j g) (v : Int) : g v = f v :=
  opt_uniq hf hg (fun w x hx => by
    obtain ⟨k, h2, h3⟩ := hf.snd w x hx
    have := opt_short hn h0 h1 hf (v := w) (s := x.1) (k := k) (by rw [hx, ← h2])
    obtain ⟨y, h4, h5⟩ := hc k w x.1 (by omega) h3
    exact ⟨y, h4, by rw [← h2] at h5; exact h5⟩) v
theorem opt_of_eq {n : S_api_Net} {u : Int} {f g : Tab} (hf : Opt n u f) (h : ∀ v, g v = f v) : Opt n u g := by
  have : g = f := funext h
  rw [this]; exact hf
end Go.Proofs.Ytgelifcckhemiaa
namespace Go.Proofs.Ytgelifcckhemiaa
open Go.Abs
set_option linter.unusedVariables false
set_option linter.unusedSimpArgs false
set_option maxRecDepth 20000
set_option maxHeartbeats 4000000

end Go.Proofs.Ytgelifcckhemiaa
namespace Go.Proofs.Ytgelifcckhemiaa
open Go.Abs
set_option linter.unusedVariables false
set_option linter.unusedSimpArgs false
set_option maxRecDepth 20000
set_option maxHeartbeats 4000000

def law09_few (n_0 : S_api_Net) : Option (Bool) :=
 some ((decide (n_0.Nodes ≤ 12) || decide (256 < n_0.Nodes)) && decide ((n_0.Arcs.length : Int) ≤ 60))
theorem law09_few_ok (n_0 : S_api_Net) (n_0_Arcsv : Value) {r : Bool} (h : law09_few n_0 = some r) :
  Meets Try.prog 9 [.agg #[.int .i64 n_0.Nodes, n_0_Arcsv]] [ro n_0_Arcsv 4 (n_0.Arcs.map S_api_Arc.enc)] (fun v G => v = .bool r ∧ G = []) := by
 refine fn_of_run Try.func9 rfl Try.ntmps9 rfl (fun w0 o0 => ?_)
 refine run_seq ?_
 refine run_region' ?_
 refine ot rfl rfl (t_box rfl) ?_
 rintro _ _ ⟨b1, rfl, rfl⟩
 refine oy rfl rfl (y_assign rfl) ?_
 refine ops_nil ?_
 refine goes_code ?_
 refine run_seq ?_
 refine run_region' ?_
 refine oy rfl rfl (y_fieldAddr_box (sz := 0) Try.runUnderlying24 rfl Try.sizeOf3 rfl) ?_
 refine oy rfl rfl (y_load_box 1 Try.isAgg3 rfl rfl rfl) ?_
 refine oy rfl rfl (y_leq rfl rfl) ?_
 refine oy rfl rfl (y_move rfl) ?_
 refine ops_cut 4 (Bool) (fun σ => [(1, boxP b1 0), (10, .bool σ)]) (fun σ => [ro n_0_Arcsv 4 (n_0.Arcs.map S_api_Arc.enc), box b1 [.int .i64 n_0.Nodes, n_0_Arcsv]]) (fun σ => σ = (decide (n_0.Nodes ≤ 12) || decide (256 < n_0.Nodes))) (fun L2 hL3 => ?_) ?_
 ·refine ops_split 6 (decide (n_0.Nodes ≤ 12)) rfl (fun hg4 => ?_) (fun hg4 => ?_)
  ·skip
   refine ops_no 3 false 6 rfl rfl rfl rfl rfl ?_
   refine ops_no 3 false 6 rfl rfl rfl rfl rfl ?_
   refine ops_no 3 false 6 rfl rfl rfl rfl rfl ?_
   refine oy rfl rfl (y_pick (b := true) rfl rfl) ?_
   refine ops_nil ?_
   exact goes_cut hL3 true [0, 1] (qv2 rfl rfl) (by decide) rfl (by rw [hg4]; simp)
  ·skip
   refine ops_y (wg 3 false 6 rfl rfl rfl rfl) rfl (y_fieldAddr_box (sz := 0) Try.runUnderlying24 rfl Try.sizeOf3 rfl) ?_
   refine ops_y (wg 3 false 6 rfl rfl rfl rfl) rfl (y_load_box 1 Try.isAgg3 rfl rfl rfl) ?_
   refine ops_y (wg 3 false 6 rfl rfl rfl rfl) rfl (y_gtr rfl rfl) ?_
   refine oy rfl rfl (y_pick (b := false) rfl rfl) ?_
   refine ops_nil ?_
   exact goes_cut hL3 (decide (256 < n_0.Nodes)) [0, 1] (qv2 rfl rfl) (by decide) rfl (by rw [hg4]; simp)
 rintro _ rfl
 refine oy rfl rfl (y_move rfl) ?_
 refine ops_cut 5 (Bool) (fun σ => [(16, .bool σ)]) (fun σ => []) (fun σ => σ = ((decide (n_0.Nodes ≤ 12) || decide (256 < n_0.Nodes)) && decide ((n_0.Arcs.length : Int) ≤ 60))) (fun L5 hL6 => ?_) ?_
 ·refine ops_split 11 (decide (n_0.Nodes ≤ 12) || decide (256 < n_0.Nodes)) rfl (fun hg7 => ?_) (fun hg7 => ?_)
  ·skip
   refine ops_y (wg 8 true 11 rfl rfl rfl rfl) rfl (y_fieldAddr_box (sz := 0) Try.runUnderlying24 rfl Try.sizeOf22 rfl) ?_
   refine ops_y (wg 8 true 11 rfl rfl rfl rfl) rfl (y_load_box 1 Try.isAgg22 rfl rfl rfl) ?_
   refine ops_y (wg 8 true 11 rfl rfl rfl rfl) rfl ((y_len 0 rfl Try.runUnderlying22 rfl rfl reads_ro).to (v_len S_api_Arc.enc _)) ?_
   refine ops_y (wg 8 true 11 rfl rfl rfl rfl) rfl (y_leq rfl rfl) ?_
   refine oy rfl rfl (y_pick (b := true) rfl rfl) ?_
   refine ops_nil ?_
   exact goes_cut hL6 (decide ((n_0.Arcs.length : Int) ≤ 60)) [] (qv1 rfl) (by decide) rfl (by rw [hg7]; simp)
  ·skip
   refine ops_no 8 true 11 rfl rfl rfl rfl rfl ?_
   refine ops_no 8 true 11 rfl rfl rfl rfl rfl ?_
   refine ops_no 8 true 11 rfl rfl rfl rfl rfl ?_
   refine ops_no 8 true 11 rfl rfl rfl rfl rfl ?_
   refine oy rfl rfl (y_pick (b := false) rfl rfl) ?_
   refine ops_nil ?_
   exact goes_cut hL6 false [] (qv1 rfl) (by decide) rfl (by rw [hg7]; simp)
 rintro _ rfl
 refine oy rfl rfl (y_assign rfl) ?_
 refine ops_nil ?_
 refine goes_code ?_
 refine run_ret ?_
 obtain rfl := some_eq h
 refine fin_slots [2] [.bool ((decide (n_0.Nodes ≤ 12) || decide (256 < n_0.Nodes)) && decide ((n_0.Arcs.length : Int) ≤ 60))] [] [] Try.results9 rfl (by decide) rfl ?_
 exact ⟨rfl, rfl⟩

end Go.Proofs.Ytgelifcckhemiaa
