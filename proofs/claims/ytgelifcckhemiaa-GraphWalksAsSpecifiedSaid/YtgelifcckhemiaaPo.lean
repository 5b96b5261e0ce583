/-
  The order of the nodes, in plain words.
-/
import Derived.Test.YtgelifcckhemiaaPh
import Derived.Test.YtgelifcckhemiaaPs
namespace Go.Proofs.Ytgelifcckhemiaa
open Go.Abs
set_option linter.unusedSimpArgs false
set_option linter.unusedVariables false
/-- a node that can come next behind D -/
def Free_ (n : S_api_Net) (D : List Int) (v : Int) : Prop := 0 ≤ v ∧ v < n.Nodes ∧ v ∉ D ∧ ∀ a ∈ n.Arcs, a.To = v → a.From ∈ D
def Least (n : S_api_Net) (D : List Int) (v : Int) : Prop := Free_ n D v ∧ ∀ w, Free_ n D w → v ≤ w
inductive Ord (n : S_api_Net) : List Int → Prop where
  | nil : Ord n []
  | snoc {D : List Int} {v : Int} : Ord n D → Least n D v → Ord n (D ++ [v])
theorem Ord.closed {n : S_api_Net} {D : List Int} (h : Ord n D) : ∀ a ∈ n.Arcs, a.To ∈ D → a.From ∈ D := by
  induction h with
  | nil => intro a _ h; simp at h
  | snoc _ hl ih =>
    intro a ha ht
    rcases List.mem_append.1 ht with h | h
    · exact List.mem_append_left _ (ih a ha h)
    · exact List.mem_append_left _ (hl.1.2.2.2 a ha (List.mem_singleton.1 h))
theorem Ord.nodup {n : S_api_Net} {D : List Int} (h : Ord n D) : D.Nodup := by
  induction h with
  | nil => exact List.nodup_nil
  | snoc _ hl ih =>
    refine List.nodup_append.2 ⟨ih, by simp, fun a ha b hb e => ?_⟩
    rw [List.mem_singleton.1 hb] at e
    exact hl.1.2.2.1 (e ▸ ha)
theorem Ord.inr {n : S_api_Net} {D : List Int} (h : Ord n D) : ∀ w ∈ D, 0 ≤ w ∧ w < n.Nodes := by
  induction h with
  | nil => intro w h; simp at h
  | snoc _ hl ih =>
    intro w hw
    rcases List.mem_append.1 hw with h | h
    · exact ih w h
    · rw [List.mem_singleton.1 h]; exact ⟨hl.1.1, hl.1.2.1⟩
theorem Ord.len {n : S_api_Net} (hn : okNet n) {D : List Int} (h : Ord n D) : D.length ≤ n.Nodes.toNat := by
  have h0 := hn.1
  exact nodup_range h.nodup (fun x hx => by have := h.inr x hx; omega)
/-- arcs lead from what is earlier -/
theorem Ord.forward {n : S_api_Net} {D : List Int} (h : Ord n D) : ∀ (i : Nat) (hi : i < D.length), ∀ a ∈ n.Arcs, a.To = D[i] → ∃ (j : Nat) (hj : j < i), D[j]'(by omega) = a.From := by
  induction h with
  | nil => intro i hi; simp at hi
  | @snoc D v ho hl ih =>
    intro i hi a ha ht
    by_cases e : i < D.length
    · rw [List.getElem_append_left e] at ht
      obtain ⟨j, hj, h1⟩ := ih i e a ha ht
      exact ⟨j, hj, by rw [List.getElem_append_left (by omega)]; exact h1⟩
    · have hi' : i = D.length := by simp at hi; omega
      subst hi'
      rw [List.getElem_append_right (Nat.le_refl _)] at ht
      simp at ht
      obtain ⟨j, hj, h1⟩ := List.getElem_of_mem (hl.1.2.2.2 a ha ht)
      exact ⟨j, hj, by rw [List.getElem_append_left hj]; exact h1⟩
def cntl (l : List S_api_Arc) (D : List Int) (w : Int) : Nat := l.countP fun a => decide (a.To = w ∧ a.From ∉ D)
def cnt (n : S_api_Net) (D : List Int) (w : Int) : Nat := cntl n.Arcs D w
def tol (l : List S_api_Arc) (v w : Int) : Nat := l.countP fun a => decide (a.From = v ∧ a.To = w)
theorem cnt_zero {n : S_api_Net} {D : List Int} {w : Int} : cnt n D w = 0 ↔ ∀ a ∈ n.Arcs, a.To = w → a.From ∈ D := by
  unfold cnt cntl
  rw [List.countP_eq_zero]
  constructor
  · intro h a ha ht
    have := h a ha
    simp at this
    exact this ht
  · intro h a ha
    simp
    exact h a ha
theorem cntl_cons {a : S_api_Arc} {l : List S_api_Arc} {D : List Int} {w : Int} : cntl (a :: l) D w = cntl l D w + if a.To = w ∧ a.From ∉ D then 1 else 0 := by
  unfold cntl; rw [List.countP_cons]; simp only [decide_eq_true_eq]
theorem tol_cons {a : S_api_Arc} {l : List S_api_Arc} {v w : Int} : tol (a :: l) v w = tol l v w + if a.From = v ∧ a.To = w then 1 else 0 := by
  unfold tol; rw [List.countP_cons]; simp only [decide_eq_true_eq]
theorem cnt_snoc {D : List Int} {v w : Int} (hv : v ∉ D) : ∀ (l : List S_api_Arc), cntl l D w = cntl l (D ++ [v]) w + tol l v w
  | [] => rfl
  | a :: l => by
    have ih := cnt_snoc (w := w) hv l
    rw [cntl_cons, cntl_cons, tol_cons, ih]
    by_cases h1 : a.To = w
    · by_cases h2 : a.From = v
      · have h3 : a.From ∉ D := by rw [h2]; exact hv
        have h4 : ¬ a.From ∉ D ++ [v] := by simp [h2]
        rw [if_pos ⟨h1, h3⟩, if_neg (fun h => h4 h.2), if_pos ⟨h2, h1⟩]; omega
      · by_cases h3 : a.From ∈ D
        · have h4 : ¬ a.From ∉ D ++ [v] := by simp [h3]
          rw [if_neg (fun h => h.2 h3), if_neg (fun h => h4 h.2), if_neg (fun h => h2 h.1)]; omega
        · have h4 : a.From ∉ D ++ [v] := by simp [h2, h3]
          rw [if_pos ⟨h1, h3⟩, if_pos ⟨h1, h4⟩, if_neg (fun h => h2 h.1)]; omega
    · rw [if_neg (fun h => h1 h.1), if_neg (fun h => h1 h.1), if_neg (fun h => h1 h.2)]; omega
theorem tol_take {l : List S_api_Arc} {i : Nat} {a : S_api_Arc} (h : l[i]? = some a) (v w : Int) : tol (l.take (i + 1)) v w = tol (l.take i) v w + if a.From = v ∧ a.To = w then 1 else 0 := by
  unfold tol
  rw [List.take_add_one, h]
  simp [List.countP_append, List.countP_cons]
theorem tol_le {l : List S_api_Arc} {i : Nat} (v w : Int) : tol (l.take i) v w ≤ tol l v w := by
  unfold tol
  exact List.Sublist.countP_le (List.take_sublist i l)
theorem tol_len {l : List S_api_Arc} {v w : Int} : tol l v w ≤ l.length := List.countP_le_length
theorem cnt_len {n : S_api_Net} {D : List Int} {w : Int} : cnt n D w ≤ n.Arcs.length := List.countP_le_length

/-- arcs from a node, yielded to a round that never leaves -/
theorem arcs_inv {St : Type} {n : S_api_Net} (hn : okNet n) (back : Bool) (v : Int) (y : St → Int × Int → Option (St × Bool)) (inv : Nat → St → Prop)
    (hy : ∀ (i : Nat) s a, inv i s → n.Arcs[i]? = some a → src back a = v → ∃ s', y s ((i : Int), dst back a) = some (s', true) ∧ inv (i + 1) s')
    (hi : ∀ (i : Nat) s a, inv i s → n.Arcs[i]? = some a → src back a ≠ v → inv (i + 1) s) (m : Nat) (hm : n.Arcs.length < m) (s : St) (h0 : inv 0 s) :
    ∃ s', graph_arcs_1_61 m y s n back v = some s' ∧ inv n.Arcs.length s' := by
  unfold graph_arcs_1_61
  have hl := hn.2.2.1
  have key := iter_inv (step := graph_arcs_1_61_L1 y n back v) (fun s => ∃ i : Nat, s.1 = (i : Int) ∧ i ≤ n.Arcs.length ∧ inv i s.2) (fun s => n.Arcs.length - s.1.toNat) (fun r => inv n.Arcs.length r) (by
    rintro ⟨i', s⟩ ⟨i, he, hil, his⟩
    simp only at he his
    subst he
    unfold graph_arcs_1_61_L1
    by_cases hlt : i < n.Arcs.length
    · left
      have e : decide ((i : Int) < (n.Arcs.length : Int)) = true := by simpa using hlt
      simp only [e, cond_true]
      have ha := List.getElem?_eq_getElem hlt
      rw [idx_get ha]
      have e2 : (bif back then some (Lp.go (R := Lp (Int × St) St) ((n.Arcs[i]).To, (n.Arcs[i]).From)) else some (.go ((n.Arcs[i]).From, (n.Arcs[i]).To))) = some (.go (src back n.Arcs[i], dst back n.Arcs[i])) := by cases back <;> rfl
      rw [e2, bindJ_go]
      by_cases hs : src back n.Arcs[i] = v
      · obtain ⟨s', h1, h2⟩ := hy i s _ his ha hs
        simp only [hs, decide_true, cond_true]
        rw [h1]
        simp only [obind, Option.bind_some, bindJ_go, Bool.not_true, cond_false]
        rw [w64 (by omega) (by omega)]
        exact ⟨_, rfl, ⟨i + 1, by simp, by omega, h2⟩, by simp; omega⟩
      · simp only [hs, decide_false, cond_false, bindJ_go]
        rw [w64 (by omega) (by omega)]
        exact ⟨_, rfl, ⟨i + 1, by simp, by omega, hi i s _ his ha hs⟩, by simp; omega⟩
    · right
      have e : decide ((i : Int) < (n.Arcs.length : Int)) = false := by simp; omega
      simp only [e, cond_false]
      have : i = n.Arcs.length := by omega
      subst this
      exact ⟨s, rfl, his⟩)
    m (0, s) ⟨0, rfl, Nat.zero_le _, h0⟩ (by simpa using hm)
  exact key
/-- the numbers of arcs that lead to each node -/
theorem left_eq {n : S_api_Net} (hn : okNet n) (m : Nat) (hm : 3000 ≤ m) :
    ∃ x : List Int, iter (graph_Order_L1 n) m (0, List.replicate n.Nodes.toNat 0) = some (.go x) ∧ (x.length : Int) = n.Nodes ∧ ∀ w, 0 ≤ w → w < n.Nodes → g x w.toNat = cnt n [] w := by
  have hA := hn.2.2.1
  have h00 := hn.1
  have key := iter_inv (step := graph_Order_L1 n) (fun s => ∃ i : Nat, s.1 = (i : Int) ∧ i ≤ n.Arcs.length ∧ (s.2.length : Int) = n.Nodes ∧ ∀ w, 0 ≤ w → w < n.Nodes → g s.2 w.toNat = cntl (n.Arcs.take i) [] w) (fun s => n.Arcs.length - s.1.toNat)
    (fun r => ∃ x : List Int, r = .go x ∧ (x.length : Int) = n.Nodes ∧ ∀ w, 0 ≤ w → w < n.Nodes → g x w.toNat = cnt n [] w) (by
      rintro ⟨i', x⟩ ⟨i, he, hil, hl, hx⟩
      simp only at he hl hx
      subst he
      unfold graph_Order_L1
      by_cases hlt : i < n.Arcs.length
      · left
        have e : decide ((i : Int) < (n.Arcs.length : Int)) = true := by simpa using hlt
        simp only [e, cond_true]
        have ha := List.getElem?_eq_getElem hlt
        obtain ⟨h1, h2, h3, h4, _⟩ := hn.2.2.2 _ (List.getElem_mem hlt)
        rw [idx_get ha, idx_int h3 (by omega), g_el (by omega), hx _ h3 h4]
        have hc : cntl (n.Arcs.take i) [] (n.Arcs[i]).To ≤ 2048 := by
          have := List.countP_le_length (p := fun a : S_api_Arc => decide (a.To = (n.Arcs[i]).To ∧ a.From ∉ ([] : List Int))) (l := n.Arcs.take i)
          unfold cntl; rw [List.length_take] at this; omega
        rw [w64 (by omega) (by omega), w64 (by omega) (by omega)]
        refine ⟨_, rfl, ⟨i + 1, by simp, by omega, by simp only [List.length_set]; exact hl, fun w hw0 hw1 => ?_⟩, by simp; omega⟩
        simp only
        rw [g_set (by omega)]
        unfold cntl
        rw [List.take_add_one, ha]
        simp only [Option.toList_some, List.countP_append, List.countP_cons, List.countP_nil]
        by_cases e2 : (n.Arcs[i]).To = w
        · subst e2; simp [cntl]
        · have : ¬ w.toNat = (n.Arcs[i]).To.toNat := by omega
          rw [if_neg this, hx w hw0 hw1]
          simp [cntl, e2]
      · right
        have e : decide ((i : Int) < (n.Arcs.length : Int)) = false := by simp; omega
        simp only [e, cond_false]
        have : i = n.Arcs.length := by omega
        subst this
        rw [List.take_length] at hx
        exact ⟨_, rfl, x, rfl, hl, hx⟩)
    m (0, List.replicate n.Nodes.toNat 0) ⟨0, rfl, Nat.zero_le _, by simp; omega, fun w hw0 hw1 => by
      simp [cntl, g, List.getD, show w.toNat < n.Nodes.toNat by omega]⟩ (by simp; omega)
  obtain ⟨r, hr, x, rfl, h1, h2⟩ := key
  exact ⟨x, hr, h1, h2⟩
/-- the heap holds just the nodes that can come next -/
structure Hp (n : S_api_Net) (D : List Int) (h : List Int) : Prop where
  heap : Heap h.length h
  nod : h.Nodup
  mem : ∀ w, w ∈ h ↔ (0 ≤ w ∧ w < n.Nodes ∧ w ∉ D ∧ cnt n D w = 0)
theorem hp_len {n : S_api_Net} (hn : okNet n) {D h : List Int} (hh : Hp n D h) : h.length ≤ 256 := by
  have h0 := hn.1
  have h1 := hn.2.1
  have := nodup_range (n := n.Nodes.toNat) hh.nod (fun x hx => by have := (hh.mem x).1 hx; omega)
  omega
theorem nodup_push {h h' : List Int} {x : Int} (hp : h'.Perm (x :: h)) (hn : h.Nodup) (hx : x ∉ h) : h'.Nodup := hp.nodup_iff.2 (List.nodup_cons.2 ⟨hx, hn⟩)
theorem first_eq {n : S_api_Net} (hn : okNet n) {x : List Int} (hl : (x.length : Int) = n.Nodes) (hx : ∀ w, 0 ≤ w → w < n.Nodes → g x w.toNat = cnt n [] w) (m : Nat) (hm : 3000 ≤ m) :
    ∃ h : List Int, iter (graph_Order_L2 m x) m (0, []) = some (.go h) ∧ Hp n [] h := by
  have hN := hn.2.1
  have h00 := hn.1
  have key := iter_inv (step := graph_Order_L2 m x) (fun s => ∃ i : Nat, s.1 = (i : Int) ∧ i ≤ x.length ∧ Heap s.2.length s.2 ∧ s.2.Nodup ∧ ∀ w, w ∈ s.2 ↔ (0 ≤ w ∧ w < i ∧ cnt n [] w = 0)) (fun s => x.length - s.1.toNat)
    (fun r => ∃ h : List Int, r = .go h ∧ Hp n [] h) (by
      rintro ⟨i', h⟩ ⟨i, he, hil, h1, h2, h3⟩
      simp only at he h1 h2 h3
      subst he
      unfold graph_Order_L2
      by_cases hlt : i < x.length
      · left
        have e : decide ((i : Int) < (x.length : Int)) = true := by simpa using hlt
        simp only [e, cond_true]
        have hxi := hx (i : Nat) (by omega) (by omega)
        rw [Int.toNat_natCast] at hxi
        rw [idx_get (g_get hlt), hxi]
        have hhl : h.length ≤ 256 := by
          have := nodup_range (n := i) h2 (fun w hw => by have := (h3 w).1 hw; omega)
          omega
        by_cases hc : cnt n [] (i : Nat) = 0
        · obtain ⟨h', g1, g2, g3⟩ := Push_eq (by omega) h1 ((i : Nat) : Int) m (by omega)
          have hni : ((i : Nat) : Int) ∉ h := fun hm' => by have := (h3 _).1 hm'; omega
          have e0 : decide (((cnt n [] ((i : Nat) : Int) : Nat) : Int) = 0) = true := by simp [hc]
          simp only [e0, cond_true, g1, obind, Option.bind_some, bindJ_go]
          rw [w64 (by omega) (by omega)]
          refine ⟨_, rfl, ⟨i + 1, by simp, by omega, g3, nodup_push g2 h2 hni, fun w => ?_⟩, by simp; omega⟩
          simp only
          rw [g2.mem_iff, List.mem_cons, h3]
          constructor
          · rintro (rfl | h)
            · exact ⟨by omega, by omega, hc⟩
            · exact ⟨h.1, by omega, h.2.2⟩
          · rintro ⟨a, b, c⟩
            by_cases e : w = i
            · exact .inl e
            · exact .inr ⟨a, by omega, c⟩
        · have e0 : decide (((cnt n [] ((i : Nat) : Int) : Nat) : Int) = 0) = false := by simp; omega
          simp only [e0, cond_false, bindJ_go]
          rw [w64 (by omega) (by omega)]
          refine ⟨_, rfl, ⟨i + 1, by simp, by omega, h1, h2, fun w => ?_⟩, by simp; omega⟩
          simp only
          rw [h3]
          constructor
          · rintro ⟨a, b, c⟩; exact ⟨a, by omega, c⟩
          · rintro ⟨a, b, c⟩
            by_cases e : w = i
            · subst e; exact absurd c hc
            · exact ⟨a, by omega, c⟩
      · right
        have e : decide ((i : Int) < (x.length : Int)) = false := by simp; omega
        simp only [e, cond_false]
        refine ⟨_, rfl, h, rfl, h1, h2, fun w => ?_⟩
        rw [h3]
        simp
        omega)
    m (0, []) ⟨0, rfl, Nat.zero_le _, heap_nil, List.nodup_nil, fun w => by simp; omega⟩ (by simp; omega)
  obtain ⟨r, hr, h, rfl, hh⟩ := key
  exact ⟨h, hr, hh⟩
structure RInv (n : S_api_Net) (D : List Int) (v : Int) (i : Nat) (s : (List Int × List Int) × Option Nat) : Prop where
  o : s.2 = none
  len : (s.1.1.length : Int) = n.Nodes
  val : ∀ w, 0 ≤ w → w < n.Nodes → g s.1.1 w.toNat = (cnt n D w : Int) - tol (n.Arcs.take i) v w
  heap : Heap s.1.2.length s.1.2
  nod : s.1.2.Nodup
  mem : ∀ w, w ∈ s.1.2 ↔ (0 ≤ w ∧ w < n.Nodes ∧ w ∉ D ∧ w ≠ v ∧ g s.1.1 w.toNat = 0)
theorem round_arcs {n : S_api_Net} (hn : okNet n) {D : List Int} (ho : Ord n D) {v : Int} (hv : Free_ n D v) (s : List Int × List Int) (h0 : RInv n D v 0 (s, none)) (m : Nat) (hm : 3000 ≤ m) :
    ∃ s', graph_arcs_1_61 m (yieldOf (graph_Order_R4 m)) (s, none) n false v = some s' ∧ RInv n D v n.Arcs.length s' := by
  have hA := hn.2.2.1
  have hN := hn.2.1
  have h00 := hn.1
  refine arcs_inv hn false v _ (RInv n D v) (fun i s a hs ha hsrc => ?_) (fun i s a hs ha hsrc => ?_) m (by omega) (s, none) h0
  · obtain ⟨⟨x, h⟩, o⟩ := s
    obtain ⟨g1, g2, g3, g4, g5, g6⟩ := hs
    simp only at g1 g2 g3 g4 g5 g6
    subst g1
    have hmem := List.mem_of_getElem? ha
    obtain ⟨h1, h2, h3, h4, _⟩ := hn.2.2.2 a hmem
    have hsrc' : a.From = v := hsrc
    have hd : dst false a = a.To := rfl
    have hlt : i < n.Arcs.length := (List.getElem?_eq_some_iff.1 ha).1
    -- the node at the arc's end is neither v nor done
    have hne : a.To ≠ v := fun e => by
      have := hv.2.2.2 a hmem e
      rw [hsrc'] at this; exact hv.2.2.1 this
    have hnd : a.To ∉ D := fun h => hv.2.2.1 (hsrc' ▸ ho.closed a hmem h)
    have hsum := cnt_snoc (w := a.To) hv.2.2.1 n.Arcs
    have htk := tol_take ha v a.To
    rw [if_pos ⟨hsrc', rfl⟩] at htk
    have hle := tol_le (l := n.Arcs) (i := i + 1) v a.To
    have hcl : cnt n D a.To ≤ 2048 := Nat.le_trans cnt_len hA
    have hval := g3 a.To h3 h4
    have hxl : a.To.toNat < x.length := by omega
    have hcd : cnt n D a.To = cntl n.Arcs D a.To := rfl
    have hpos : 1 ≤ g x a.To.toNat := by rw [hval]; omega
    have hhl : h.length ≤ 256 := by
      have := nodup_range (n := n.Nodes.toNat) g5 (fun w hw => by have := (g6 w).1 hw; omega)
      omega
    have hR : graph_Order_R4 m (x, h) ((i : Int), a.To) = (if g x a.To.toNat - 1 = 0 then (container_heap_Push_36 m h a.To).map (fun r => ((x.set a.To.toNat (g x a.To.toNat - 1), r), none)) else some ((x.set a.To.toNat (g x a.To.toNat - 1), h), none)) := by
      unfold graph_Order_R4
      simp only []
      rw [idx_int h3 hxl, g_el hxl, w64 (by omega) (by omega), idx_int h3 (by simpa using hxl)]
      simp only [List.getElem_set_self]
      by_cases hz : g x a.To.toNat - 1 = 0
      · simp only [hz, decide_true, cond_true, if_true]
        cases container_heap_Push_36 m h a.To <;> rfl
      · simp only [hz, decide_false, cond_false, if_false]
    have hval' : ∀ w, 0 ≤ w → w < n.Nodes → g (x.set a.To.toNat (g x a.To.toNat - 1)) w.toNat = (cnt n D w : Int) - tol (n.Arcs.take (i + 1)) v w := by
      intro w hw0 hw1
      rw [g_set hxl, tol_take ha v w]
      by_cases e : w = a.To
      · subst e
        rw [if_pos rfl, hval, if_pos ⟨hsrc', rfl⟩]; omega
      · have : ¬ w.toNat = a.To.toNat := by omega
        rw [if_neg this, g3 w hw0 hw1, if_neg (fun h => e h.2.symm)]; omega
    rw [hd]
    simp only [yieldOf]
    rw [hR]
    by_cases hz : g x a.To.toNat - 1 = 0
    · obtain ⟨h', p1, p2, p3⟩ := Push_eq (by omega) g4 a.To m (by omega)
      have hnm : a.To ∉ h := fun hm' => by have := (g6 _).1 hm'; omega
      rw [if_pos hz, p1]
      refine ⟨_, rfl, rfl, by simp only [List.length_set]; exact g2, hval', p3, nodup_push p2 g5 hnm, fun w => ?_⟩
      simp only
      rw [p2.mem_iff, List.mem_cons, g6]
      constructor
      · rintro (rfl | ⟨a1, a2, a3, a4, a5⟩)
        · exact ⟨h3, h4, hnd, hne, by rw [g_set hxl, if_pos rfl]; exact hz⟩
        · refine ⟨a1, a2, a3, a4, ?_⟩
          rw [g_set hxl]
          by_cases e : w.toNat = a.To.toNat
          · rw [if_pos e]; exact hz
          · rw [if_neg e]; exact a5
      · rintro ⟨a1, a2, a3, a4, a5⟩
        by_cases e : w = a.To
        · exact .inl e
        · right
          have : ¬ w.toNat = a.To.toNat := by omega
          rw [g_set hxl, if_neg this] at a5
          exact ⟨a1, a2, a3, a4, a5⟩
    · rw [if_neg hz]
      refine ⟨_, rfl, rfl, by simp only [List.length_set]; exact g2, hval', g4, g5, fun w => ?_⟩
      simp only
      rw [g6]
      constructor
      · rintro ⟨a1, a2, a3, a4, a5⟩
        refine ⟨a1, a2, a3, a4, ?_⟩
        have : ¬ w.toNat = a.To.toNat := fun e => by rw [e] at a5; omega
        rw [g_set hxl, if_neg this]; exact a5
      · rintro ⟨a1, a2, a3, a4, a5⟩
        refine ⟨a1, a2, a3, a4, ?_⟩
        rw [g_set hxl] at a5
        by_cases e : w.toNat = a.To.toNat
        · rw [if_pos e] at a5; exact absurd a5 hz
        · rw [if_neg e] at a5; exact a5
  · have hsrc' : a.From ≠ v := hsrc
    refine ⟨hs.o, hs.len, fun w hw0 hw1 => ?_, hs.heap, hs.nod, hs.mem⟩
    rw [hs.val w hw0 hw1, tol_take ha v w, if_neg (fun h => hsrc' h.1)]; simp
structure OInv (n : S_api_Net) (s : List Int × List Int × List Int) : Prop where
  ord : Ord n s.1
  len : (s.2.1.length : Int) = n.Nodes
  val : ∀ w, 0 ≤ w → w < n.Nodes → g s.2.1 w.toNat = cnt n s.1 w
  hp : Hp n s.1 s.2.2
theorem order_loop {n : S_api_Net} (hn : okNet n) (x h : List Int) (h0 : OInv n ([], x, h)) (m : Nat) (hm : 3000 ≤ m) :
    ∃ D x', iter (graph_Order_L3 m n) m ([], x, h) = some (.go (D, x')) ∧ OInv n (D, x', []) := by
  have hA := hn.2.2.1
  have hN := hn.2.1
  have h00 := hn.1
  have key := iter_inv (step := graph_Order_L3 m n) (OInv n) (fun s => n.Nodes.toNat - s.1.length) (fun r => ∃ D x', r = .go (D, x') ∧ OInv n (D, x', [])) (by
    rintro ⟨D, x, h⟩ hi
    have ho := hi.ord
    have hl := hi.len
    have hval := hi.val
    have hh := hi.hp
    simp only at ho hl hval hh
    unfold graph_Order_L3 weirgate_graph_ints_Len_37
    simp only [obind, Option.bind_some]
    by_cases hne : h = []
    · right
      subst hne
      simp only [List.length_nil]
      exact ⟨_, rfl, D, x, rfl, ho, hl, hval, hh⟩
    · left
      have hpos : 0 < h.length := List.length_pos_iff.2 hne
      have e : decide (0 < (h.length : Int)) = true := by simp; omega
      simp only [e, cond_true]
      have hhl := hp_len hn hh
      obtain ⟨v, h', p1, p2, p3, p4⟩ := Pop_eq (by omega) hh.heap hne m (by omega)
      have hvm : v ∈ h := p2.mem_iff.1 (List.mem_cons_self ..)
      have hv := (hh.mem v).1 hvm
      have hfree : Free_ n D v := ⟨hv.1, hv.2.1, hv.2.2.1, cnt_zero.1 hv.2.2.2⟩
      have hleast : Least n D v := ⟨hfree, fun w hw => p4 w ((hh.mem w).2 ⟨hw.1, hw.2.1, hw.2.2.1, cnt_zero.2 hw.2.2.2⟩)⟩
      have hnod : (v :: h').Nodup := p2.nodup_iff.2 hh.nod
      have hDl := ho.len hn
      have ho' := Ord.snoc ho hleast
      have hDl' := ho'.len hn
      rw [List.length_append, List.length_singleton] at hDl'
      simp only [p1, Option.bind_some]
      rw [need_pos (by simp; omega)]
      obtain ⟨s', q1, q2⟩ := round_arcs hn ho hfree (x, h') ⟨rfl, hl, fun w hw0 hw1 => by simp only; rw [hval w hw0 hw1]; simp [tol], p3, (List.nodup_cons.1 hnod).2, fun w => by
        simp only
        have : w ∈ h' ↔ (w ∈ h ∧ w ≠ v) := by
          rw [← p2.mem_iff, List.mem_cons]
          constructor
          · intro hw; exact ⟨.inr hw, fun e => (List.nodup_cons.1 hnod).1 (e ▸ hw)⟩
          · rintro ⟨rfl | hw, hne⟩
            · exact absurd rfl hne
            · exact hw
        rw [this, hh.mem]
        constructor
        · rintro ⟨⟨a1, a2, a3, a4⟩, a5⟩; exact ⟨a1, a2, a3, a5, by rw [hval w a1 a2, a4]; rfl⟩
        · rintro ⟨a1, a2, a3, a4, a5⟩
          rw [hval w a1 a2] at a5
          exact ⟨⟨a1, a2, a3, by omega⟩, a4⟩⟩ m hm
      obtain ⟨⟨x', h2⟩, o⟩ := s'
      obtain ⟨g1, g2, g3, g4, g5, g6⟩ := q2
      simp only at g1 g2 g3 g4 g5 g6
      subst g1
      unfold graph_arcs
      simp only [Option.bind_some, q1, onJump]
      have hval2 : ∀ w, 0 ≤ w → w < n.Nodes → g x' w.toNat = cnt n (D ++ [v]) w := by
        intro w hw0 hw1
        rw [g3 w hw0 hw1, List.take_length]
        have := cnt_snoc (w := w) hfree.2.2.1 n.Arcs
        unfold cnt; omega
      refine ⟨_, rfl, ⟨ho', g2, hval2, g4, g5, fun w => ?_⟩, by simp; omega⟩
      simp only
      rw [g6]
      constructor
      · rintro ⟨a1, a2, a3, a4, a5⟩
        rw [hval2 w a1 a2] at a5
        exact ⟨a1, a2, by simp; exact ⟨a3, a4⟩, by omega⟩
      · rintro ⟨a1, a2, a3, a4⟩
        simp at a3
        exact ⟨a1, a2, a3.1, a3.2, by rw [hval2 w a1 a2, a4]; rfl⟩)
    m ([], x, h) h0 (by simp; omega)
  obtain ⟨r, hr, D, x', rfl, hi⟩ := key
  exact ⟨D, x', hr, hi⟩
theorem no_free {n : S_api_Net} {D x : List Int} (h : OInv n (D, x, [])) (w : Int) : ¬ Free_ n D w := fun hw => by
  have := (h.hp.mem w).2 ⟨hw.1, hw.2.1, hw.2.2.1, cnt_zero.2 hw.2.2.2⟩
  simp at this
end Go.Proofs.Ytgelifcckhemiaa
