/-
  Networks in plain words: the sets of nodes that reach each other.
-/
import Derived.Test.YtgelifcckhemiaaPs
namespace Go.Proofs.Ytgelifcckhemiaa
open Go.Abs
set_option linter.unusedSimpArgs false
set_option linter.unusedVariables false
theorem Reach_eq {n : S_api_Net} (hn : okNet n) {u : Int} (h0 : 0 ≤ u) (h1 : u < n.Nodes) (m : Nat) (hm : 3000 ≤ m) :
    ∃ met : List Bool, graph_Reach m n u = some (met, 0) ∧ (met.length : Int) = n.Nodes ∧ ∀ w, 0 ≤ w → (M met w ↔ Pth n false u w) := by
  obtain ⟨met, h2, h3, h4⟩ := search_eq hn false h0 h1 m hm
  have hA := hn.2.2.1
  refine ⟨met, ?_, h3, h4⟩
  unfold graph_Reach
  rw [Valid_eq n m (by omega)]
  have e : (decide (0 ≤ u) && decide (u < n.Nodes)) = true := by simp; omega
  simp only [hn, decide_true, obind, Option.bind_some, Bool.not_true, cond_false, graph_isNode, e, bindJ_go, h2]
theorem Reach_bad {n : S_api_Net} {u : Int} (h : ¬ (okNet n ∧ 0 ≤ u ∧ u < n.Nodes)) (m : Nat) (hm : n.Arcs.length < m) : graph_Reach m n u = some ([], 1) := by
  unfold graph_Reach
  rw [Valid_eq n m hm]
  by_cases hn : okNet n
  · have e : (decide (0 ≤ u) && decide (u < n.Nodes)) = false := by
      rw [Bool.eq_false_iff]; intro hh; simp at hh; exact h ⟨hn, hh⟩
    simp only [hn, decide_true, obind, Option.bind_some, Bool.not_true, cond_false, graph_isNode, e, bindJ_go, Bool.not_false, cond_true]
  · simp [hn, obind]
open Classical in
noncomputable def rb (n : S_api_Net) (v w : Nat) : Bool := decide (Pth n false v w ∧ Pth n false w v)
theorem rb_iff {n : S_api_Net} {v w : Nat} : rb n v w = true ↔ (Pth n false v w ∧ Pth n false w v) := by simp [rb]
theorem rb_refl {n : S_api_Net} {v : Nat} : rb n v v = true := rb_iff.2 ⟨.refl, .refl⟩
theorem rb_symm {n : S_api_Net} {v w : Nat} (h : rb n v w = true) : rb n w v = true := let ⟨a, b⟩ := rb_iff.1 h; rb_iff.2 ⟨b, a⟩
theorem rb_trans {n : S_api_Net} {u v w : Nat} (h : rb n u v = true) (k : rb n v w = true) : rb n u w = true := let ⟨a, b⟩ := rb_iff.1 h; let ⟨c, d⟩ := rb_iff.1 k; rb_iff.2 ⟨a.trans c, d.trans b⟩
noncomputable def clsN (n : S_api_Net) (v : Nat) : List Nat := (List.range n.Nodes.toNat).filter (rb n v)
noncomputable def cls (n : S_api_Net) (v : Nat) : List Int := (clsN n v).map fun i : Nat => (i : Int)
open Classical in
noncomputable def isrep (n : S_api_Net) (v : Nat) : Bool := decide (¬ ∃ u, u < v ∧ rb n u v = true)
noncomputable def reps (n : S_api_Net) : List Nat := (List.range n.Nodes.toNat).filter (isrep n)
theorem isrep_iff {n : S_api_Net} {v : Nat} : isrep n v = true ↔ ¬ ∃ u, u < v ∧ rb n u v = true := by simp [isrep]
theorem idx_M {met : List Bool} {i : Nat} {β : Type} (h : i < met.length) (k : Bool → Option β) : idx met (i : Int) k = k (decide (M met (i : Nat))) := by
  rw [idx_get' h]
  congr 1
  have hm : M met (i : Nat) ↔ met[i] = true := by unfold M; rw [Int.toNat_natCast, List.getElem?_eq_getElem h]; simp
  cases e : met[i] with
  | true => rw [e] at hm; exact (decide_eq_true (hm.2 rfl)).symm
  | false => rw [e] at hm; exact (decide_eq_false (fun h => by simpa using hm.1 h)).symm
open Classical in
theorem mark_get (b : Nat → Bool) : ∀ (l : List Nat) (x : List Bool) (w : Nat), (l.foldl (fun (x : List Bool) i => if b i then x.set i true else x) x)[w]? = (x[w]?).map fun y => y || (decide (w ∈ l) && b w)
  | [], x, w => by cases hx : x[w]? <;> simp [hx]
  | i :: l, x, w => by
    rw [List.foldl_cons, mark_get b l]
    by_cases hb : b i = true
    · simp only [hb, if_true]
      rw [List.getElem?_set]
      by_cases e : i = w
      · subst e
        by_cases hl : i < x.length
        · simp [hl, hb]
        · simp [hl]
      · have : ¬ w = i := fun h => e h.symm
        simp [e, this]
    · simp only [hb, if_false]
      by_cases e : w = i
      · subst e; simp [hb]
      · simp [e]
theorem mark_len (b : Nat → Bool) : ∀ (l : List Nat) (x : List Bool), (l.foldl (fun (x : List Bool) i => if b i then x.set i true else x) x).length = x.length
  | [], x => rfl
  | i :: l, x => by rw [List.foldl_cons, mark_len b l]; split <;> simp
theorem pair_fold (b : Nat → Bool) : ∀ (l : List Nat) (set : List Int) (x : List Bool), l.foldl (fun (s : List Int × List Bool) (i : Nat) => if b i then (s.1 ++ [(i : Int)], s.2.set i true) else s) (set, x) =
    (set ++ (l.filter b).map (fun i : Nat => (i : Int)), l.foldl (fun (x : List Bool) i => if b i then x.set i true else x) x)
  | [], set, x => by simp
  | i :: l, set, x => by
    simp only [List.foldl_cons, List.filter_cons]
    by_cases h : b i = true
    · simp only [h, if_true]; rw [pair_fold b l]; simp
    · simp only [h, if_false]; rw [pair_fold b l]; simp
theorem parts_in {n : S_api_Net} (hn : okNet n) {v : Nat} (r1 r2 : List Bool) (h1 : (r1.length : Int) = n.Nodes) (h2 : (r2.length : Int) = n.Nodes) (k1 : ∀ w, 0 ≤ w → (M r1 w ↔ Pth n false v w)) (k2 : ∀ w, 0 ≤ w → (M r2 w ↔ Pth n false w v))
    (x : List Bool) (hx : (x.length : Int) = n.Nodes) (m : Nat) (hm : 3000 ≤ m) :
    iter (graph_Parts_L2 n r1 r2) m ([], 0, x) = some (.go (cls n v, (List.range n.Nodes.toNat).foldl (fun (x : List Bool) i => if rb n v i then x.set i true else x) x)) := by
  have hN := hn.2.1
  have h00 := hn.1
  have := iter_range (step := graph_Parts_L2 n r1 r2) n.Nodes.toNat (fun i (s : List Int × List Bool) => (s.1, (i : Int), s.2)) (fun s i => .go (if rb n v i then (s.1 ++ [(i : Int)], s.2.set i true) else s)) (fun s => .go s) (fun i s => s.1.length ≤ i ∧ (s.2.length : Int) = n.Nodes) (fun i s hs hi => by
    obtain ⟨set, x⟩ := s
    obtain ⟨hs1, hs2⟩ := hs
    simp only at hs1 hs2
    refine ⟨?_, ?_⟩
    · unfold graph_Parts_L2
      have e : decide ((i : Int) < n.Nodes) = true := by simp; omega
      simp only [e, cond_true]
      rw [idx_M (by omega)]
      have d1 := k1 (i : Nat) (by omega)
      have d2 := k2 (i : Nat) (by omega)
      by_cases a : M r1 (i : Nat)
      · simp only [a, decide_true, cond_true]
        rw [idx_M (by omega)]
        by_cases b : M r2 (i : Nat)
        · have hr : rb n v i = true := rb_iff.2 ⟨d1.1 a, d2.1 b⟩
          simp only [b, decide_true, bindJ_go, cond_true, hr, if_true]
          rw [need_pos (by simp; omega), idx_get' (by omega), bindJ_go, w64 (by omega) (by omega)]
          simp
        · have hr : rb n v i = false := by rw [Bool.eq_false_iff]; intro h; exact b (d2.2 (rb_iff.1 h).2)
          simp only [b, decide_false, bindJ_go, cond_false, hr]
          rw [w64 (by omega) (by omega)]; simp
      · have hr : rb n v i = false := by rw [Bool.eq_false_iff]; intro h; exact a (d1.2 (rb_iff.1 h).1)
        simp only [a, decide_false, cond_false, bindJ_go, hr]
        rw [w64 (by omega) (by omega)]; simp
    · intro s' hs'
      simp at hs'
      subst hs'
      split <;> simp <;> omega) (fun s hs => by
    unfold graph_Parts_L2
    have e : decide (((n.Nodes.toNat : Nat) : Int) < n.Nodes) = false := by simp; omega
    simp only [e, cond_false]) m ([], x) ⟨by simp, hx⟩ (by omega)
  rw [show (([] : List Int), (0 : Int), x) = (([] : List Int), ((0 : Nat) : Int), x) from rfl, this]
  rw [foldL_gom (fun (s : List Int × List Bool) (i : Nat) => if rb n v i then (s.1 ++ [(i : Int)], s.2.set i true) else s) _ _ (fun _ _ _ => rfl), pair_fold]
  rfl
open Classical in
structure PInv (n : S_api_Net) (s : List (List Int) × Int × List Bool) : Prop where
  ex : ∃ i : Nat, s.2.1 = (i : Int) ∧ i ≤ n.Nodes.toNat ∧ s.1 = ((List.range i).filter (isrep n)).map (cls n) ∧ ∀ w, w < n.Nodes.toNat → s.2.2[w]? = some (decide (∃ u, u < i ∧ rb n u w = true))
  len : (s.2.2.length : Int) = n.Nodes
open Classical in
theorem Parts_ok {n : S_api_Net} (hn : okNet n) (m : Nat) (hm : 3000 ≤ m) : graph_Parts m n = some ((reps n).map (cls n), 0) := by
  have hN := hn.2.1
  have h00 := hn.1
  have hA := hn.2.2.1
  unfold graph_Parts
  rw [Valid_eq n m (by omega)]
  simp only [hn, decide_true, obind, Option.bind_some, Bool.not_true, cond_false]
  rw [need_pos (by omega)]
  have key := iter_inv (step := graph_Parts_L1 m n) (PInv n) (fun s => n.Nodes.toNat - s.2.1.toNat) (fun r => r = .go ((reps n).map (cls n))) (by
    rintro ⟨out, s, x⟩ ⟨⟨i, hs, hi, ho, hx⟩, hl⟩
    simp only at hs ho hx hl
    subst hs
    by_cases hlt : i < n.Nodes.toNat
    · left
      unfold graph_Parts_L1
      have e : decide ((i : Int) < n.Nodes) = true := by simp; omega
      simp only [e, cond_true]
      have hxi := hx i hlt
      rw [idx_get hxi]
      by_cases hp : ∃ u, u < i ∧ rb n u i = true
      · simp only [hp, decide_true, cond_true, bindJ_go]
        rw [w64 (by omega) (by omega)]
        refine ⟨_, rfl, ⟨⟨i + 1, by simp, by omega, ?_, ?_⟩, hl⟩, by simp; omega⟩
        · have : isrep n i = false := by rw [Bool.eq_false_iff]; intro h; exact isrep_iff.1 h hp
          simp only [List.range_succ, List.filter_append, List.filter_cons, this, List.filter_nil, List.append_nil]
          simpa using ho
        · intro w hw
          rw [hx w hw]
          congr 1
          refine decide_eq_decide.2 ⟨fun ⟨u, h1, h2⟩ => ⟨u, by omega, h2⟩, fun ⟨u, h1, h2⟩ => ?_⟩
          by_cases e : u = i
          · subst e
            obtain ⟨t, h3, h4⟩ := hp
            exact ⟨t, h3, rb_trans h4 h2⟩
          · exact ⟨u, by omega, h2⟩
      · obtain ⟨r1, g1, g2, g3⟩ := search_eq hn false (u := (i : Nat)) (by omega) (by omega) m hm
        obtain ⟨r2, g4, g5, g6⟩ := search_eq hn true (u := (i : Nat)) (by omega) (by omega) m hm
        have g6' : ∀ w, 0 ≤ w → (M r2 w ↔ Pth n false w (i : Nat)) := fun w hw => (g6 w hw).trans ⟨fun h => h.flip, fun h => h.flip⟩
        simp only [hp, decide_false, cond_false, g1, g4, Option.bind_some, obind]
        rw [parts_in hn r1 r2 g2 g5 g3 g6' x hl m hm]
        simp only [bindJ_go]
        have hol : out.length ≤ 256 := by
          rw [ho, List.length_map]
          have := List.length_filter_le (isrep n) (List.range i)
          simp at this; omega
        rw [need_pos (by simp; omega), bindJ_go, w64 (by omega) (by omega)]
        refine ⟨_, rfl, ⟨⟨i + 1, by simp, by omega, ?_, ?_⟩, by simp only; rw [mark_len]; exact hl⟩, by simp; omega⟩
        · have : isrep n i = true := isrep_iff.2 hp
          simp only [List.range_succ, List.filter_append, List.filter_cons, this, List.filter_nil, List.map_append, List.map_cons, List.map_nil, if_true]
          rw [ho]
        · intro w hw
          simp only
          rw [mark_get, hx w hw]
          simp only [Option.map_some, List.mem_range, hw, decide_true, Bool.true_and]
          congr 1
          rw [Bool.eq_iff_iff]
          simp only [Bool.or_eq_true, decide_eq_true_eq]
          constructor
          · rintro (⟨u, h1, h2⟩ | h)
            · exact ⟨u, by omega, h2⟩
            · exact ⟨i, by omega, h⟩
          · rintro ⟨u, h1, h2⟩
            by_cases e : u = i
            · subst e; exact .inr h2
            · exact .inl ⟨u, by omega, h2⟩
    · right
      unfold graph_Parts_L1
      have e : decide ((i : Int) < n.Nodes) = false := by simp; omega
      simp only [e, cond_false]
      refine ⟨_, rfl, ?_⟩
      have : i = n.Nodes.toNat := by omega
      rw [ho, this]; rfl)
    m ([], 0, List.replicate n.Nodes.toNat false) ⟨⟨0, rfl, Nat.zero_le _, by simp, fun w hw => by simp [hw]⟩, by simp; omega⟩ (by simp; omega)
  obtain ⟨r, hr, rfl⟩ := key
  rw [hr, bindJ_go]
theorem Parts_bad {n : S_api_Net} (hn : ¬ okNet n) (m : Nat) (hm : n.Arcs.length < m) : graph_Parts m n = some ([], 1) := by
  unfold graph_Parts
  rw [Valid_eq n m hm]
  simp [hn, obind]

/-! what is true of the sets -/
theorem mem_cls {n : S_api_Net} {v : Nat} {w : Int} : w ∈ cls n v ↔ ∃ i : Nat, w = i ∧ i < n.Nodes.toNat ∧ rb n v i = true := by
  unfold cls clsN
  simp only [List.mem_map, List.mem_filter, List.mem_range]
  constructor
  · rintro ⟨i, ⟨h1, h2⟩, rfl⟩; exact ⟨i, rfl, h1, h2⟩
  · rintro ⟨i, rfl, h1, h2⟩; exact ⟨i, ⟨h1, h2⟩, rfl⟩
theorem cls_nodup {n : S_api_Net} {v : Nat} : (cls n v).Nodup := by
  unfold cls clsN
  refine List.Pairwise.map _ (fun a b h => ?_) ((List.nodup_range (n := n.Nodes.toNat)).sublist List.filter_sublist)
  intro e; apply h; omega
theorem reps_pair {n : S_api_Net} : ((reps n).map (cls n)).Pairwise (fun a b => ∀ x ∈ a, ∀ y ∈ b, x ≠ y) := by
  unfold reps
  have h1 : ((List.range n.Nodes.toNat).filter (isrep n)).Pairwise (· < ·) := List.pairwise_lt_range.sublist List.filter_sublist
  have h2 : ((List.range n.Nodes.toNat).filter (isrep n)).Pairwise (fun u v => u < v ∧ isrep n v = true) := by
    refine List.Pairwise.imp_of_mem (fun {a b} ha hb hab => ⟨hab, ?_⟩) h1
    exact (List.mem_filter.1 hb).2
  refine List.Pairwise.map _ (fun a b h => ?_) h2
  intro x hx y hy e
  subst e
  obtain ⟨i, rfl, hi, h3⟩ := mem_cls.1 hx
  obtain ⟨j, hj, hi', h4⟩ := mem_cls.1 hy
  have : i = j := by omega
  subst this
  exact isrep_iff.1 h.2 ⟨a, h.1, rb_trans h3 (rb_symm h4)⟩
theorem rep_of {n : S_api_Net} (v : Nat) : v < n.Nodes.toNat → ∃ u, u ≤ v ∧ isrep n u = true ∧ rb n u v = true := by
  induction v using Nat.strongRecOn with
  | ind v ih =>
    intro hv
    by_cases h : ∃ u, u < v ∧ rb n u v = true
    · obtain ⟨u, h1, h2⟩ := h
      obtain ⟨t, h3, h4, h5⟩ := ih u h1 (by omega)
      exact ⟨t, by omega, h4, rb_trans h5 h2⟩
    · exact ⟨v, Nat.le_refl _, isrep_iff.2 h, rb_refl⟩
theorem cover {n : S_api_Net} {v : Nat} (hv : v < n.Nodes.toNat) : ∃ s ∈ (reps n).map (cls n), (v : Int) ∈ s := by
  obtain ⟨u, h1, h2, h3⟩ := rep_of v hv
  exact ⟨cls n u, List.mem_map.2 ⟨u, by unfold reps; exact List.mem_filter.2 ⟨by simp; omega, h2⟩, rfl⟩, mem_cls.2 ⟨v, rfl, hv, h3⟩⟩
end Go.Proofs.Ytgelifcckhemiaa
