/-
  Networks in plain words: what is valid, and what a search meets.
-/
import Derived.Test.YtgelifcckhemiaaFe
import Derived.Test.YtgelifcckhemiaaAbsPlain
namespace Go.Proofs.Ytgelifcckhemiaa
open Go.Abs
set_option linter.unusedSimpArgs false
set_option linter.unusedVariables false
def okArc (n : S_api_Net) (a : S_api_Arc) : Prop := 0 ≤ a.From ∧ a.From < n.Nodes ∧ 0 ≤ a.To ∧ a.To < n.Nodes ∧ -1048576 ≤ a.Cost ∧ a.Cost ≤ 1048576
instance (n : S_api_Net) (a : S_api_Arc) : Decidable (okArc n a) := by unfold okArc; exact inferInstance
def okNet (n : S_api_Net) : Prop := 0 ≤ n.Nodes ∧ n.Nodes ≤ 256 ∧ n.Arcs.length ≤ 2048 ∧ ∀ a ∈ n.Arcs, okArc n a
instance (n : S_api_Net) : Decidable (okNet n) := by unfold okNet; exact inferInstance
theorem valid_arc (n : S_api_Net) (a : S_api_Arc) : graph_Valid_1_46 a n = some (!decide (okArc n a)) := by
  unfold graph_Valid_1_46
  congr 1
  rw [Bool.eq_iff_iff]
  simp only [Bool.or_eq_true, decide_eq_true_eq, Bool.not_eq_true', decide_eq_false_iff_not]
  by_cases h : a.Cost < -1048576
  · constructor
    · intro _ hk; unfold okArc at hk; omega
    · intro _; exact .inr h
  · by_cases hc : a.Cost ≤ 9223372036854775807
    · rw [w64 (x := 0 - a.Cost) (by omega) (by omega)]
      unfold okArc; omega
    · constructor
      · intro _ hk; unfold okArc at hk; omega
      · intro _; left; right; have := Int.le_max_left a.Cost (IntKind.i64.wrap (0 - a.Cost)); omega
/-- the first element that is met, or -1 -/
theorem index_arc {n : S_api_Net} (l : List S_api_Arc) (hl : l.length ≤ 4294967296) (m : Nat) (hm : l.length < m) :
    ∃ r, slices_IndexFunc_weirgate_api_Arc_weirgate_api_Arc_63 m l n = some r ∧ (0 ≤ r ↔ ∃ a ∈ l, ¬ okArc n a) := by
  unfold slices_IndexFunc_weirgate_api_Arc_weirgate_api_Arc_63
  have key := iter_inv (step := slices_IndexFunc_weirgate_api_Arc_weirgate_api_Arc_63_L1 l n) (fun s : Int => ∃ i : Nat, s = i ∧ i ≤ l.length ∧ ∀ j (h : j < l.length), j < i → okArc n l[j]) (fun s => l.length - s.toNat)
    (fun r => (r = .go () ∧ ∀ a ∈ l, okArc n a) ∨ ∃ i : Nat, r = .stop (i : Int) ∧ ∃ a ∈ l, ¬ okArc n a) (by
      rintro s ⟨i, rfl, hi, hok⟩
      unfold slices_IndexFunc_weirgate_api_Arc_weirgate_api_Arc_63_L1
      by_cases hlt : i < l.length
      · have e : decide ((i : Int) < (l.length : Int)) = true := by simpa using hlt
        simp only [e, cond_true]
        rw [idx_get' hlt, valid_arc]
        simp only [obind, Option.bind_some]
        by_cases hk : okArc n l[i]
        · left
          refine ⟨_, by simp only [hk, decide_true, Bool.not_true, cond_false]; rfl, ⟨i + 1, by rw [w64 (by omega) (by omega)]; rfl, by omega, fun j h hj => ?_⟩, by rw [w64 (by omega) (by omega)]; omega⟩
          by_cases e : j = i
          · subst e; exact hk
          · exact hok j h (by omega)
        · right
          exact ⟨_, by simp only [hk, decide_false, Bool.not_false, cond_true], .inr ⟨i, rfl, _, List.getElem_mem hlt, hk⟩⟩
      · have e : decide ((i : Int) < (l.length : Int)) = false := by simp; omega
        right
        refine ⟨_, by simp only [e, cond_false], .inl ⟨rfl, fun a ha => ?_⟩⟩
        obtain ⟨j, hj, rfl⟩ := List.getElem_of_mem ha
        exact hok j hj (by omega)) m 0 ⟨0, rfl, Nat.zero_le _, fun j h hj => by omega⟩ (by simpa using hm)
  obtain ⟨r, hr, h⟩ := key
  rw [hr]
  rcases h with ⟨rfl, h⟩ | ⟨i, rfl, h⟩
  · exact ⟨-1, rfl, by
      constructor
      · intro h'; omega
      · rintro ⟨a, ha, hk⟩; exact absurd (h a ha) hk⟩
  · exact ⟨i, rfl, ⟨fun _ => h, fun _ => by omega⟩⟩
theorem Valid_eq (n : S_api_Net) (m : Nat) (hm : n.Arcs.length < m) : graph_Valid m n = some (decide (okNet n)) := by
  unfold graph_Valid
  by_cases h : (decide (n.Nodes < 0) || decide (256 < n.Nodes)) || decide (2048 < (n.Arcs.length : Int))
  · have : ¬ okNet n := by intro hk; unfold okNet at hk; simp at h; omega
    simp [h, this]
  · have h' : ((decide (n.Nodes < 0) || decide (256 < n.Nodes)) || decide (2048 < (n.Arcs.length : Int))) = false := by simpa using h
    simp only [h', cond_false]
    simp at h'
    obtain ⟨r, hr, hi⟩ := index_arc (n := n) n.Arcs (by omega) m hm
    unfold slices_ContainsFunc_weirgate_api_Arc_weirgate_api_Arc_45
    simp only [hr, obind, Option.bind_some]
    congr 1
    rw [Bool.eq_iff_iff]
    simp only [Bool.not_eq_true', decide_eq_false_iff_not, decide_eq_true_eq, hi]
    unfold okNet
    constructor
    · intro hk; exact ⟨by omega, by omega, by omega, fun a ha => Classical.byContradiction fun h => hk ⟨a, ha, h⟩⟩
    · rintro ⟨_, _, _, hk⟩ ⟨a, ha, h⟩; exact h (hk a ha)

/-! a search -/
def src (back : Bool) (a : S_api_Arc) : Int := if back then a.To else a.From
def dst (back : Bool) (a : S_api_Arc) : Int := if back then a.From else a.To
def Edge (n : S_api_Net) (back : Bool) (v w : Int) : Prop := ∃ a ∈ n.Arcs, src back a = v ∧ dst back a = w
inductive Pth (n : S_api_Net) (back : Bool) (u : Int) : Int → Prop where
  | refl : Pth n back u u
  | step {v w : Int} : Pth n back u v → Edge n back v w → Pth n back u w
theorem Pth.trans {n : S_api_Net} {back : Bool} {u v w : Int} (h : Pth n back u v) (k : Pth n back v w) : Pth n back u w := by
  induction k with
  | refl => exact h
  | step _ e ih => exact .step ih e
theorem Edge.flip {n : S_api_Net} {back : Bool} {v w : Int} (h : Edge n back v w) : Edge n (!back) w v := by
  obtain ⟨a, ha, h1, h2⟩ := h
  refine ⟨a, ha, ?_, ?_⟩ <;> cases back <;> simp_all [src, dst]
theorem Pth.flip {n : S_api_Net} {back : Bool} {u v : Int} (h : Pth n back u v) : Pth n (!back) v u := by
  induction h with
  | refl => exact .refl
  | step _ e ih => exact (Pth.step .refl e.flip).trans ih
theorem edge_in {n : S_api_Net} (hn : okNet n) {back : Bool} {v w : Int} (h : Edge n back v w) : 0 ≤ v ∧ v < n.Nodes ∧ 0 ≤ w ∧ w < n.Nodes := by
  obtain ⟨a, ha, rfl, rfl⟩ := h
  obtain ⟨h1, h2, h3, h4, _⟩ := hn.2.2.2 a ha
  cases back <;> simp [src, dst] <;> omega
theorem pth_in {n : S_api_Net} (hn : okNet n) {back : Bool} {v w : Int} (h0 : 0 ≤ v) (h1 : v < n.Nodes) (h : Pth n back v w) : 0 ≤ w ∧ w < n.Nodes := by
  induction h with
  | refl => exact ⟨h0, h1⟩
  | step _ e _ => have := edge_in hn e; omega
/-- is it met? -/
def M (met : List Bool) (w : Int) : Prop := met[w.toNat]? = some true
instance (met : List Bool) (w : Int) : Decidable (M met w) := by unfold M; exact inferInstance
def visit (s : List Bool × List Int) (w : Int) : List Bool × List Int := if M s.1 w then s else (s.1.set w.toNat true, s.2 ++ [w])
structure Vis (s s' : List Bool × List Int) (ws : List Int) : Prop where
  len : s'.1.length = s.1.length
  mono : ∀ w, M s.1 w → M s'.1 w
  all : ∀ w ∈ ws, M s'.1 w
  new : ∀ w, 0 ≤ w → M s'.1 w → M s.1 w ∨ w ∈ ws
  old : ∀ w ∈ s.2, w ∈ s'.2
  inq : ∀ w, 0 ≤ w → M s'.1 w → M s.1 w ∨ w ∈ s'.2
  q : ∀ w ∈ s'.2, w ∈ s.2 ∨ w ∈ ws
  num : s'.1.count false + s'.2.length = s.1.count false + s.2.length
theorem M_set {met : List Bool} {w u : Int} (hw : 0 ≤ w) (hu : 0 ≤ u) (hl : w.toNat < met.length) : M (met.set w.toNat true) u ↔ (u = w ∨ M met u) := by
  unfold M
  rw [List.getElem?_set]
  by_cases e : w.toNat = u.toNat
  · have : u = w := by omega
    subst this; simp [hl]
  · rw [if_neg e]
    have : ¬ u = w := by omega
    simp [this]
theorem M_set' {met : List Bool} {w u : Int} (hl : w.toNat < met.length) (h : M met u) : M (met.set w.toNat true) u := by
  unfold M at *
  rw [List.getElem?_set]
  split
  · simp [hl]
  · exact h
theorem not_M {met : List Bool} {w : Int} (hl : w.toNat < met.length) (h : ¬ M met w) : met[w.toNat]? = some false := by
  rw [List.getElem?_eq_getElem hl] at *
  unfold M at h
  rw [List.getElem?_eq_getElem hl] at h
  cases e : met[w.toNat] with
  | true => rw [e] at h; simp at h
  | false => rfl
theorem vis_fold (N : Nat) : ∀ (ws : List Int) (s : List Bool × List Int), s.1.length = N → (∀ w ∈ ws, 0 ≤ w ∧ w < N) → Vis s (ws.foldl visit s) ws
  | [], s, _, _ => ⟨rfl, fun _ h => h, by simp, fun _ _ h => .inl h, fun _ h => h, fun _ _ h => .inl h, fun _ h => .inl h, rfl⟩
  | w :: ws, s, hl, hw => by
    have hw0 := hw w (List.mem_cons_self ..)
    have hwl : w.toNat < s.1.length := by omega
    have ih := vis_fold N ws (visit s w) (by unfold visit; split <;> simp [hl]) (fun x hx => hw x (List.mem_cons_of_mem _ hx))
    rw [List.foldl_cons]
    by_cases hm : M s.1 w
    · have e : visit s w = s := by simp [visit, hm]
      rw [e] at ih ⊢
      refine ⟨ih.len, ih.mono, ?_, fun u h0 hu => ?_, ih.old, ih.inq, fun u hu => ?_, ih.num⟩
      · intro u hu
        rcases List.mem_cons.1 hu with rfl | hu
        · exact ih.mono u hm
        · exact ih.all u hu
      · rcases ih.new u h0 hu with h | h
        · exact .inl h
        · exact .inr (List.mem_cons_of_mem _ h)
      · rcases ih.q u hu with h | h
        · exact .inl h
        · exact .inr (List.mem_cons_of_mem _ h)
    · have e : visit s w = (s.1.set w.toNat true, s.2 ++ [w]) := by simp [visit, hm]
      rw [e] at ih ⊢
      have hmw : M (s.1.set w.toNat true) w := (M_set hw0.1 hw0.1 hwl).2 (.inl rfl)
      refine ⟨by rw [ih.len]; simp, fun u hu => ih.mono u (M_set' hwl hu), ?_, fun u h0 hu => ?_, fun u hu => ih.old u (List.mem_append_left _ hu), fun u h0 hu => ?_, fun u hu => ?_, ?_⟩
      · intro u hu
        rcases List.mem_cons.1 hu with rfl | hu
        · exact ih.mono u hmw
        · exact ih.all u hu
      · rcases ih.new u h0 hu with h | h
        · rcases (M_set hw0.1 h0 hwl).1 h with rfl | h
          · exact .inr (List.mem_cons_self ..)
          · exact .inl h
        · exact .inr (List.mem_cons_of_mem _ h)
      · rcases ih.inq u h0 hu with h | h
        · rcases (M_set hw0.1 h0 hwl).1 h with rfl | h
          · exact .inr (ih.old u (List.mem_append_right _ (List.mem_singleton.2 rfl)))
          · exact .inl h
        · exact .inr h
      · rcases ih.q u hu with h | h
        · rcases List.mem_append.1 h with h | h
          · exact .inl h
          · rw [List.mem_singleton.1 h]; exact .inr (List.mem_cons_self ..)
        · exact .inr (List.mem_cons_of_mem _ h)
      · have hf := not_M hwl hm
        have hmem : false ∈ s.1 := List.mem_of_getElem? hf
        have hc : 0 < s.1.count false := List.count_pos_iff.2 hmem
        rw [ih.num]
        rw [List.getElem?_eq_getElem hwl] at hf
        simp only [Option.some.injEq] at hf
        rw [List.count_set hwl, hf]
        simp; omega
theorem R2_eq {N : Nat} {met : List Bool} {q : List Int} {i w : Int} (hl : met.length = N) (hw : 0 ≤ w ∧ w < N) (hq : q.length ≤ 1000000) :
    graph_search_R2 (met, q) (i, w) = some (visit (met, q) w, none) := by
  unfold graph_search_R2
  have hwl : w.toNat < met.length := by omega
  simp only [idx_int hw.1 hwl]
  unfold visit
  by_cases h : M met w
  · have : met[w.toNat] = true := by unfold M at h; rw [List.getElem?_eq_getElem hwl] at h; simpa using h
    rw [if_pos h, this]; simp
  · have := not_M hwl h
    rw [List.getElem?_eq_getElem hwl] at this
    have : met[w.toNat] = false := by simpa using this
    rw [if_neg h, this]
    simp only [Bool.not_false, cond_true]
    unfold weirgate_graph_queue_int_put_57
    rw [need_pos (by simp; omega)]
    simp [obind]
def succs (n : S_api_Net) (back : Bool) (v : Int) : List Int := (n.Arcs.filter fun a => decide (src back a = v)).map (dst back)
theorem mem_succs {n : S_api_Net} {back : Bool} {v w : Int} : w ∈ succs n back v ↔ Edge n back v w := by
  unfold succs Edge
  simp only [List.mem_map, List.mem_filter, decide_eq_true_eq]
  constructor
  · rintro ⟨a, ⟨h1, h2⟩, h3⟩; exact ⟨a, h1, h2, h3⟩
  · rintro ⟨a, h1, h2, h3⟩; exact ⟨a, ⟨h1, h2⟩, h3⟩
/-- arcs from a node, yielded to a round that never leaves -/
theorem arcs_fold {St : Type} {n : S_api_Net} (hn : okNet n) (back : Bool) (v : Int) (y : St → Int × Int → Option (St × Bool)) (g : St → Int → S_api_Arc → St) (inv : Nat → St → Prop)
    (hy : ∀ (i : Nat) s a, inv i s → n.Arcs[i]? = some a → src back a = v → y s ((i : Int), dst back a) = some (g s i a, true))
    (hi : ∀ (i : Nat) s a, inv i s → n.Arcs[i]? = some a → inv (i + 1) (if src back a = v then g s i a else s)) (m : Nat) (hm : n.Arcs.length < m) (s : St) (h0 : inv 0 s) :
    graph_arcs_1_61 m y s n back v = some (n.Arcs.zipIdx.foldl (fun s p => if src back p.1 = v then g s (p.2 : Int) p.1 else s) s) := by
  unfold graph_arcs_1_61
  have hl := hn.2.2.1
  have := iter_fold (step := graph_arcs_1_61_L1 y n back v) (l := n.Arcs.zipIdx) (fun (i : Nat) (s : St) => ((i : Int), s)) (fun s p => (.go (if src back p.1 = v then g s (p.2 : Int) p.1 else s) : Lp St St)) (fun s => s) inv (fun i s x his hx => by
      rw [List.getElem?_zipIdx] at hx
      cases ha : n.Arcs[i]? with
      | none => rw [ha] at hx; simp at hx
      | some a =>
        rw [ha] at hx
        simp at hx
        subst hx
        have hlt := (List.getElem?_eq_some_iff.1 ha).1
        refine ⟨?_, fun s' hs => by simp at hs; subst hs; exact hi i s a his ha⟩
        unfold graph_arcs_1_61_L1
        have e : decide ((i : Int) < (n.Arcs.length : Int)) = true := by simpa using hlt
        simp only [e, cond_true]
        rw [idx_get ha]
        have e2 : (bif back then some (Lp.go (R := Lp (Int × St) St) (a.To, a.From)) else some (.go (a.From, a.To))) = some (.go (src back a, dst back a)) := by cases back <;> rfl
        rw [e2, bindJ_go]
        by_cases hs : src back a = v
        · simp only [hs, decide_true, cond_true]
          rw [hy i s a his ha hs]
          simp only [obind, Option.bind_some, bindJ_go, Bool.not_true, cond_false, if_true, mapS_go]
          rw [w64 (by omega) (by omega)]
          simp
        · simp only [hs, decide_false, cond_false, bindJ_go, if_false, mapS_go]
          rw [w64 (by omega) (by omega)]
          simp) (fun s _ => by unfold graph_arcs_1_61_L1; simp) m 0 s h0 (by omega) (by simpa using hm)
  simp only [List.drop_zero] at this
  rw [show ((0 : Nat) : Int) = 0 from rfl] at this
  rw [this]
  exact congrArg some (foldL_gom (fun (s : St) (p : S_api_Arc × Nat) => if src back p.1 = v then g s (p.2 : Int) p.1 else s) _ _ (fun _ _ _ => rfl))
theorem foldl_filter_map {α β γ : Type} (p : α → Bool) (f : α → β) (g : γ → β → γ) : ∀ (l : List α) (s : γ), l.foldl (fun s a => if p a = true then g s (f a) else s) s = ((l.filter p).map f).foldl g s
  | [], s => rfl
  | a :: l, s => by
    simp only [List.foldl_cons, List.filter_cons]
    by_cases h : p a = true
    · simp only [h, if_true, List.map_cons, List.foldl_cons]; exact foldl_filter_map p f g l _
    · simp only [h, if_false]; exact foldl_filter_map p f g l _
theorem zip_fold {α γ : Type} (g : γ → α → γ) : ∀ (l : List α) (k : Nat) (s : γ), (l.zipIdx k).foldl (fun s p => g s p.1) s = l.foldl g s
  | [], k, s => rfl
  | a :: l, k, s => by simp only [List.zipIdx_cons, List.foldl_cons]; exact zip_fold g l (k + 1) _
theorem visit_len {s : List Bool × List Int} {w : Int} : (visit s w).1.length = s.1.length ∧ (visit s w).2.length ≤ s.2.length + 1 := by
  unfold visit; split <;> simp
theorem arcs_search {n : S_api_Net} (hn : okNet n) (back : Bool) (v : Int) (met : List Bool) (q : List Int) (hl : (met.length : Int) = n.Nodes) (hq : q.length ≤ 100000) (m : Nat) (hm : n.Arcs.length < m) :
    graph_arcs_1_61 m (yieldOf graph_search_R2) ((met, q), none) n back v = some ((succs n back v).foldl visit (met, q), none) := by
  have h := arcs_fold hn back v (yieldOf graph_search_R2) (fun (s : (List Bool × List Int) × Option Nat) _ a => (visit s.1 (dst back a), none)) (fun i s => s.2 = none ∧ s.1.1.length = met.length ∧ s.1.2.length ≤ q.length + i)
    (fun i s a hs ha hv => by
      obtain ⟨⟨mt, qq⟩, o⟩ := s
      obtain ⟨rfl, h2, h3⟩ := hs
      have hlt := (List.getElem?_eq_some_iff.1 ha).1
      have ha' := hn.2.2.2 a (List.mem_of_getElem? ha)
      have hl2 := hn.2.2.1
      simp only at h2 h3
      simp only [yieldOf]
      rw [R2_eq (N := met.length) h2 (by unfold okArc at ha'; cases back <;> simp [dst] <;> omega) (by omega)]
      rfl)
    (fun i s a hs ha => by
      obtain ⟨h1, h2, h3⟩ := hs
      split
      · have := visit_len (s := s.1) (w := dst back a)
        exact ⟨rfl, by simp only; omega, by simp only; omega⟩
      · exact ⟨h1, h2, by omega⟩) m hm ((met, q), none) ⟨rfl, rfl, by simp⟩
  rw [h]
  rw [zip_fold (fun (s : (List Bool × List Int) × Option Nat) (a : S_api_Arc) => if src back a = v then (visit s.1 (dst back a), none) else s)]
  have key : ∀ (l : List S_api_Arc) (s : List Bool × List Int), l.foldl (fun (s : (List Bool × List Int) × Option Nat) (a : S_api_Arc) => if src back a = v then (visit s.1 (dst back a), none) else s) (s, none) = (((l.filter fun a => decide (src back a = v)).map (dst back)).foldl visit s, none) := by
    intro l
    induction l with
    | nil => intro s; rfl
    | cons a l ih =>
      intro s
      simp only [List.foldl_cons, List.filter_cons]
      by_cases h : src back a = v
      · simp only [h, if_true, decide_true, List.map_cons, List.foldl_cons]; exact ih _
      · simp only [h, if_false, decide_false, Bool.false_eq_true]; exact ih _
  rw [key]; rfl
structure SInv (n : S_api_Net) (back : Bool) (u : Int) (s : Int × Bool × List Bool × List Int) : Prop where
  len : (s.2.2.1.length : Int) = n.Nodes
  from_ : M s.2.2.1 u
  sound : ∀ w, 0 ≤ w → M s.2.2.1 w → Pth n back u w
  cur : s.2.1 = true → 0 ≤ s.1 ∧ s.1 < n.Nodes
  inr : ∀ w ∈ s.2.2.2, 0 ≤ w ∧ w < n.Nodes
  cl : ∀ v w, 0 ≤ v → M s.2.2.1 v → (s.2.1 = true ∧ s.1 = v) ∨ v ∈ s.2.2.2 ∨ (Edge n back v w → M s.2.2.1 w)
  emp : s.2.1 = false → s.2.2.2 = []
  mcur : s.2.1 = true → M s.2.2.1 s.1
  qm : ∀ w ∈ s.2.2.2, M s.2.2.1 w
  sm : s.2.2.1.count false + s.2.2.2.length ≤ s.2.2.1.length
def sMu (s : Int × Bool × List Bool × List Int) : Nat := s.2.2.1.count false + s.2.2.2.length + (if s.2.1 then 1 else 0)
theorem get_eq (q : List Int) : weirgate_graph_queue_int_get_58 (S_graph_queue_int.mk q) = some (match q with | [] => (0, false, S_graph_queue_int.mk []) | x :: r => (x, true, S_graph_queue_int.mk r)) := by
  unfold weirgate_graph_queue_int_get_58
  cases q with
  | nil => simp
  | cons x r =>
    have e : decide ((((⟨x :: r⟩ : S_graph_queue_int).l_.length : Nat) : Int) = 0) = false := by simp; omega
    simp only [e, cond_false]
    rw [show idx (x :: r) (0 : Int) _ = _ from idx_get (l := x :: r) (i := 0) (x := x) rfl _]
    rw [need_pos (by simp; omega)]
    simp
theorem search_eq {n : S_api_Net} (hn : okNet n) (back : Bool) {u : Int} (h0 : 0 ≤ u) (h1 : u < n.Nodes) (m : Nat) (hm : 3000 ≤ m) :
    ∃ met : List Bool, graph_search m n u back = some met ∧ (met.length : Int) = n.Nodes ∧ ∀ w, 0 ≤ w → (M met w ↔ Pth n back u w) := by
  have hN := hn.2.1
  have hA := hn.2.2.1
  unfold graph_search
  rw [need_pos (by omega)]
  have hlen : (List.replicate n.Nodes.toNat false).length = n.Nodes.toNat := by simp
  have hul : u.toNat < (List.replicate n.Nodes.toNat false).length := by rw [hlen]; omega
  rw [show ∀ (k : Bool → Option (List Bool)), idx (List.replicate n.Nodes.toNat false) u k = k false from fun k => by
    rw [show u = ((u.toNat : Nat) : Int) by omega, idx_get (x := false) (by rw [List.getElem?_eq_getElem hul]; simp)]]
  simp only [weirgate_graph_queue_int_put_57]
  rw [need_pos (by simp)]
  simp only [obind, Option.bind_some, List.nil_append]
  rw [get_eq]
  simp only [Option.bind_some]
  have key := iter_inv (step := graph_search_L1 m n back) (SInv n back u) sMu (fun r => ∃ met : List Bool, r = .go met ∧ (met.length : Int) = n.Nodes ∧ ∀ w, 0 ≤ w → (M met w ↔ Pth n back u w)) (by
    rintro ⟨v, ok, met, q⟩ hi
    cases ok with
    | false =>
      right
      refine ⟨_, by unfold graph_search_L1; simp only [cond_false], met, rfl, hi.len, fun w hw => ⟨hi.sound w hw, fun hp => ?_⟩⟩
      have hq := hi.emp rfl
      simp only at hq
      induction hp with
      | refl => exact hi.from_
      | @step a b hp e ih =>
        have ha := edge_in hn e
        rcases hi.cl a b ha.1 (ih ha.1) with ⟨h, _⟩ | h | h
        · cases h
        · simp only [hq] at h; simp at h
        · exact h e
    | true =>
      left
      obtain ⟨hv0, hv1⟩ := hi.cur rfl
      have hl := hi.len
      simp only at hl hv0 hv1
      have hsm := hi.sm
      simp only at hsm
      have hvis := vis_fold n.Nodes.toNat (succs n back v) (met, q) (by simp only; omega) (fun w hw => by have := edge_in hn (mem_succs.1 hw); omega)
      unfold graph_search_L1
      simp only [cond_true]
      rw [arcs_search hn back v met q hl (by omega) m (by omega)]
      obtain ⟨⟨met', q'⟩, hs'⟩ : ∃ s', (succs n back v).foldl visit (met, q) = s' := ⟨_, rfl⟩
      rw [hs'] at hvis ⊢
      unfold graph_arcs
      simp only [obind, Option.bind_some, onJump, get_eq]
      have hlen' := hvis.len
      have hnum := hvis.num
      simp only at hlen' hnum
      have mon : ∀ w, M met w → M met' w := hvis.mono
      have hcl : ∀ a b, 0 ≤ a → M met' a → a ∈ q' ∨ (Edge n back a b → M met' b) := by
        intro a b ha hm'
        rcases hvis.inq a ha hm' with h | h
        · rcases hi.cl a b ha h with ⟨_, rfl⟩ | h | h
          · right; intro e; exact hvis.all b (mem_succs.2 e)
          · left; exact hvis.old a h
          · right; intro e; exact mon b (h e)
        · exact .inl h
      have hsnd : ∀ w, 0 ≤ w → M met' w → Pth n back u w := by
        intro w hw hm'
        rcases hvis.new w hw hm' with h | h
        · exact hi.sound w hw h
        · exact .step (hi.sound v hv0 (hi.mcur rfl)) (mem_succs.1 h)
      have hqr : ∀ w ∈ q', (0 ≤ w ∧ w < n.Nodes) ∧ M met' w := by
        intro w hw
        rcases hvis.q w hw with h | h
        · exact ⟨hi.inr w h, mon w (hi.qm w h)⟩
        · have := edge_in hn (mem_succs.1 h); exact ⟨⟨this.2.2.1, this.2.2.2⟩, hvis.all w h⟩
      cases q' with
      | nil =>
        refine ⟨_, rfl, ⟨by simp only; omega, mon u hi.from_, hsnd, by simp, by simp, ?_, by simp, by simp, by simp, by simp at hnum ⊢; omega⟩, ?_⟩
        · intro a b ha hm'
          rcases hcl a b ha hm' with h | h
          · simp at h
          · exact .inr (.inr h)
        · simp [sMu] at hnum ⊢; omega
      | cons x r =>
        refine ⟨_, rfl, ⟨by simp only; omega, mon u hi.from_, hsnd, fun _ => (hqr x (List.mem_cons_self ..)).1, fun w hw => (hqr w (List.mem_cons_of_mem _ hw)).1, ?_, by simp, fun _ => (hqr x (List.mem_cons_self ..)).2, fun w hw => (hqr w (List.mem_cons_of_mem _ hw)).2, by simp at hnum ⊢; omega⟩, ?_⟩
        · intro a b ha hm'
          rcases hcl a b ha hm' with h | h
          · rcases List.mem_cons.1 h with rfl | h
            · exact .inl ⟨rfl, rfl⟩
            · exact .inr (.inl h)
          · exact .inr (.inr h)
        · simp [sMu] at hnum ⊢; omega)
    m (u, true, (List.replicate n.Nodes.toNat false).set u.toNat true, []) (by
      refine ⟨by simp; omega, (M_set h0 h0 hul).2 (.inl rfl), ?_, fun _ => ⟨h0, h1⟩, by simp, ?_, by simp, fun _ => (M_set h0 h0 hul).2 (.inl rfl), by simp, ?_⟩
      · intro w hw hm'
        rcases (M_set h0 hw hul).1 hm' with rfl | h
        · exact .refl
        · unfold M at h; rw [List.getElem?_replicate] at h; split at h <;> simp at h
      · intro a b ha hm'
        rcases (M_set h0 ha hul).1 hm' with rfl | h
        · exact .inl ⟨rfl, rfl⟩
        · unfold M at h; rw [List.getElem?_replicate] at h; split at h <;> simp at h
      · simp only [List.length_nil, Nat.add_zero]; exact List.count_le_length) (by
      unfold sMu
      simp only [List.length_nil, if_true]
      have := List.count_le_length (a := false) (l := (List.replicate n.Nodes.toNat false).set u.toNat true)
      simp at this
      omega)
  obtain ⟨r, hr, met, rfl, h2, h3⟩ := key
  refine ⟨met, ?_, h2, h3⟩
  simp only [hr, bindJ_go]
end Go.Proofs.Ytgelifcckhemiaa
