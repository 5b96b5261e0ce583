/-
  The plain law GraphOrdersForward.
-/
import Derived.Test.YtgelifcckhemiaaPc
import Derived.Test.YtgelifcckhemiaaPp
import Derived.Test.YtgelifcckhemiaaOpn
import Derived.Test.YtgelifcckhemiaaSane
import Derived.Test.YtgelifcckhemiaaW6
namespace Go.Proofs.Ytgelifcckhemiaa
open Go.Abs
set_option linter.unusedSimpArgs false
set_option linter.unusedVariables false
/-- a part has more than one node, or an arc leads from a node to itself -/
def tiedB (n : S_api_Net) (sets : List (List Int)) : Bool := (sets.any fun s => decide (1 < s.length)) || (n.Arcs.any fun a => decide (a.From = a.To))
theorem any_take {α : Type} (p : α → Bool) {l : List α} {i : Nat} {x : α} (h : l[i]? = some x) : (l.take (i + 1)).any p = ((l.take i).any p || p x) := by
  rw [List.take_add_one, h]; simp
theorem tied1 (sets : List (List Int)) (e : Int) (hl : sets.length ≤ 256) (m : Nat) (hm : 3000 ≤ m) : iter (law09_GraphOrdersForward_L1 (sets, e)) m (false, 0) = some (.go (sets.any fun s => decide (1 < s.length))) := by
  have key := iter_inv (step := law09_GraphOrdersForward_L1 (sets, e)) (fun s => ∃ i : Nat, s.2 = (i : Int) ∧ i ≤ sets.length ∧ s.1 = ((sets.take i).any fun s => decide (1 < s.length))) (fun s => sets.length - s.2.toNat) (fun r => r = .go (sets.any fun s => decide (1 < s.length))) (by
    rintro ⟨t, i'⟩ ⟨i, he, hi, ht⟩
    simp only at he ht
    subst he
    unfold law09_GraphOrdersForward_L1
    by_cases hlt : i < sets.length
    · left
      have e1 : decide ((i : Int) < (sets.length : Int)) = true := by simpa using hlt
      have hs := List.getElem?_eq_getElem hlt
      have ha := any_take (fun s : List Int => decide (1 < s.length)) hs
      simp only [e1, cond_true]
      rw [w64 (by omega) (by omega)]
      cases hb : t with
      | true =>
        simp only [cond_true, bindJ_go]
        refine ⟨_, rfl, ⟨i + 1, by simp, by omega, ?_⟩, by simp; omega⟩
        simp only
        rw [ha, ← ht, hb]; rfl
      | false =>
        simp only [cond_false]
        rw [idx_get hs]
        simp only [bindJ_go]
        refine ⟨_, rfl, ⟨i + 1, by simp, by omega, ?_⟩, by simp; omega⟩
        simp only
        rw [ha, ← ht, hb, Bool.false_or]
        exact decide_eq_decide.2 (by omega)
    · right
      have e1 : decide ((i : Int) < (sets.length : Int)) = false := by simp; omega
      simp only [e1, cond_false]
      have : i = sets.length := by omega
      subst this
      rw [List.take_length] at ht
      exact ⟨_, rfl, by rw [ht]⟩)
    m (false, 0) ⟨0, rfl, Nat.zero_le _, by simp⟩ (by simp; omega)
  obtain ⟨r, hr, rfl⟩ := key
  exact hr
theorem tied2 {n : S_api_Net} (hn : okNet n) (t0 : Bool) (m : Nat) (hm : 3000 ≤ m) : iter (law09_GraphOrdersForward_L2 n) m (t0, 0) = some (.go (t0 || n.Arcs.any fun a => decide (a.From = a.To))) := by
  have hA := hn.2.2.1
  have key := iter_inv (step := law09_GraphOrdersForward_L2 n) (fun s => ∃ i : Nat, s.2 = (i : Int) ∧ i ≤ n.Arcs.length ∧ s.1 = (t0 || (n.Arcs.take i).any fun a => decide (a.From = a.To))) (fun s => n.Arcs.length - s.2.toNat) (fun r => r = .go (t0 || n.Arcs.any fun a => decide (a.From = a.To))) (by
    rintro ⟨t, i'⟩ ⟨i, he, hi, ht⟩
    simp only at he ht
    subst he
    unfold law09_GraphOrdersForward_L2
    by_cases hlt : i < n.Arcs.length
    · left
      have e1 : decide ((i : Int) < (n.Arcs.length : Int)) = true := by simpa using hlt
      have hs := List.getElem?_eq_getElem hlt
      have ha := any_take (fun a : S_api_Arc => decide (a.From = a.To)) hs
      simp only [e1, cond_true]
      rw [w64 (by omega) (by omega)]
      cases hb : t with
      | true =>
        simp only [cond_true, bindJ_go]
        refine ⟨_, rfl, ⟨i + 1, by simp, by omega, ?_⟩, by simp; omega⟩
        simp only
        rw [ha, ← Bool.or_assoc, ← ht, hb]; rfl
      | false =>
        simp only [cond_false]
        rw [idx_get hs]
        simp only [bindJ_go]
        refine ⟨_, rfl, ⟨i + 1, by simp, by omega, ?_⟩, by simp; omega⟩
        simp only
        rw [ha, ← Bool.or_assoc, ← ht, hb, Bool.false_or]
    · right
      have e1 : decide ((i : Int) < (n.Arcs.length : Int)) = false := by simp; omega
      simp only [e1, cond_false]
      have : i = n.Arcs.length := by omega
      subst this
      rw [List.take_length] at ht
      exact ⟨_, rfl, by rw [ht]⟩)
    m (t0, 0) ⟨0, rfl, Nat.zero_le _, by simp⟩ (by simp; omega)
  obtain ⟨r, hr, rfl⟩ := key
  exact hr
/-- the place of a node in D -/
theorem path_forward {n : S_api_Net} {D : List Int} (ho : Ord n D) (hall : ∀ w, 0 ≤ w → w < n.Nodes → w ∈ D) (hn : okNet n) {u v : Int} (h : Pth n false u v) (i : Nat) (hi : i < D.length) (hiv : D[i] = v) : u = v ∨ ∃ (j : Nat) (hj : j < i), D[j]'(by omega) = u := by
  induction h generalizing i with
  | refl => exact .inl rfl
  | @step a b hp e ih =>
    obtain ⟨arc, ha, h1, h2⟩ := e
    obtain ⟨j, hj, h3⟩ := ho.forward i hi arc ha (by rw [hiv]; exact h2)
    have h1' : arc.From = a := h1
    right
    rcases ih j (by omega) (h3.trans h1') with rfl | ⟨q, hq, h4⟩
    · exact ⟨j, hj, h3.trans h1'⟩
    · exact ⟨q, by omega, h4⟩
theorem full {n : S_api_Net} (hn : okNet n) {D : List Int} (ho : Ord n D) (hD : D.length = n.Nodes.toNat) : ∀ w : Int, 0 ≤ w → w < n.Nodes → w ∈ D := by
  intro w h0 h1
  refine Classical.byContradiction fun hw => ?_
  have h00 := hn.1
  have := nodup_range (l := w :: D) (n := n.Nodes.toNat) (List.nodup_cons.2 ⟨hw, ho.nodup⟩) (fun x hx => by
    rcases List.mem_cons.1 hx with rfl | hx
    · omega
    · have := ho.inr x hx; omega)
  simp at this; omega
theorem not_tied {n : S_api_Net} (hn : okNet n) {D : List Int} (ho : Ord n D) (hD : D.length = n.Nodes.toNat) : tiedB n ((reps n).map (cls n)) = false := by
  rw [Bool.eq_false_iff]
  intro h
  have hall := full hn ho hD
  unfold tiedB at h
  rw [Bool.or_eq_true, List.any_eq_true, List.any_eq_true] at h
  rcases h with ⟨s, hs, hl⟩ | ⟨a, ha, he⟩
  · obtain ⟨u, _, rfl⟩ := List.mem_map.1 hs
    have hl' : 1 < (cls n u).length := by simpa using hl
    -- two different nodes that reach each other
    have hx := List.getElem_mem (l := cls n u) (n := 0) (by omega)
    have hy := List.getElem_mem (l := cls n u) (n := 1) hl'
    have hne : (cls n u)[0]'(by omega) ≠ (cls n u)[1] := fun e => by have := nodup_inj cls_nodup (by omega) hl' e; omega
    obtain ⟨i, hi1, hi2, hi3⟩ := mem_cls.1 hx
    obtain ⟨j, hj1, hj2, hj3⟩ := mem_cls.1 hy
    have hij : i ≠ j := fun e => hne (by rw [hi1, hj1, e])
    obtain ⟨p1, p2⟩ := rb_iff.1 (rb_trans (rb_symm hi3) hj3)
    have h0 := hn.1
    obtain ⟨a, ha, e1⟩ := List.getElem_of_mem (hall (i : Nat) (by omega) (by omega))
    obtain ⟨b, hb, e2⟩ := List.getElem_of_mem (hall (j : Nat) (by omega) (by omega))
    rcases path_forward ho hall hn p1 b hb e2 with h | ⟨q, hq, h⟩
    · omega
    · rcases path_forward ho hall hn p2 a ha e1 with h' | ⟨q', hq', h'⟩
      · omega
      · have := nodup_inj ho.nodup (by omega) ha (h.trans e1.symm)
        have := nodup_inj ho.nodup (by omega) hb (h'.trans e2.symm)
        omega
  · have he' : a.From = a.To := by simpa using he
    have ho' := hn.2.2.2 a ha
    obtain ⟨h1, h2, h3, h4, _⟩ := ho'
    obtain ⟨i, hi, e1⟩ := List.getElem_of_mem (hall a.To h3 h4)
    obtain ⟨j, hj, e2⟩ := ho.forward i hi a ha e1.symm
    have := nodup_inj ho.nodup (by omega) hi ((e2.trans he').trans e1.symm)
    omega
theorem tied_of_cyc {n : S_api_Net} (hn : okNet n) {D cyc : List Int} {vf : Int → Nat} {pf : Int → Int} {v : Int} {k : Nat} (hc : Cyc n D cyc vf pf v k) : tiedB n ((reps n).map (cls n)) = true := by
  have h00 := hn.1
  have hin : ∀ i, 0 ≤ itp pf i v ∧ itp pf i v < n.Nodes ∧ itp pf i v ∉ D := by
    intro i
    induction i with
    | zero => exact hc.at_
    | succ i ih =>
      rw [itp_succ]
      obtain ⟨a, h1, h2, h3, h4⟩ := hc.arc _ ih.1 ih.2.1 ih.2.2
      have := hn.2.2.2 a (List.mem_of_getElem? h1)
      obtain ⟨q1, q2, _⟩ := this
      rw [h3] at q1 q2
      exact ⟨q1, q2, h4⟩
  have hedge : ∀ i, Edge n false (itp pf (i + 1) v) (itp pf i v) := by
    intro i
    obtain ⟨a, h1, h2, h3, h4⟩ := hc.arc _ (hin i).1 (hin i).2.1 (hin i).2.2
    exact ⟨a, List.mem_of_getElem? h1, by rw [itp_succ]; exact h3, h2⟩
  have hpath : ∀ d i, Pth n false (itp pf (i + d) v) (itp pf i v) := by
    intro d
    induction d with
    | zero => intro i; exact .refl
    | succ d ih =>
      intro i
      have := ih (i + 1)
      rw [show i + 1 + d = i + (d + 1) by omega] at this
      exact .step this (hedge i)
  unfold tiedB
  rw [Bool.or_eq_true, List.any_eq_true, List.any_eq_true]
  by_cases hs : pf v = v
  · right
    obtain ⟨a, h1, h2, h3, _⟩ := hc.arc v hc.at_.1 hc.at_.2.1 hc.at_.2.2
    exact ⟨a, List.mem_of_getElem? h1, by rw [h3, h2, hs]; simp⟩
  · left
    have k1 := hc.k1
    have hv := hc.at_
    have hp := hin 1
    have p1 : Pth n false (pf v) v := hpath 1 0
    have p2 : Pth n false v (pf v) := by
      have := hpath (k - 1) 1
      rw [show 1 + (k - 1) = k by omega, hc.per] at this
      exact this
    have e1 : ((v.toNat : Nat) : Int) = v := by omega
    have e2 : (((pf v).toNat : Nat) : Int) = pf v := by have : itp pf 1 v = pf v := rfl; omega
    have hr : rb n v.toNat (pf v).toNat = true := rb_iff.2 (by rw [e1, e2]; exact ⟨p2, p1⟩)
    obtain ⟨s, hs1, hs2⟩ := cover (n := n) (v := v.toNat) (by omega)
    obtain ⟨u, hu, rfl⟩ := List.mem_map.1 hs1
    have hpn : (pf v).toNat < n.Nodes.toNat := by have : itp pf 1 v = pf v := rfl; omega
    obtain ⟨i, hi1, hi2, hi3⟩ := mem_cls.1 hs2
    have hvi : v.toNat = i := by omega
    have hs3 : (((pf v).toNat : Nat) : Int) ∈ cls n u := mem_cls.2 ⟨_, rfl, hpn, rb_trans (hvi ▸ hi3) hr⟩
    refine ⟨cls n u, hs1, ?_⟩
    rw [decide_eq_true_eq]
    refine Classical.byContradiction fun hlen => ?_
    obtain ⟨a, ha, e3⟩ := List.getElem_of_mem hs2
    obtain ⟨b, hb, e4⟩ := List.getElem_of_mem hs3
    have : a = b := by omega
    subst this
    rw [e3] at e4
    exact hs (by omega)
theorem place_eq {n : S_api_Net} (hn : okNet n) {D cy : List Int} {e : Int} (ho : Ord n D) (m : Nat) (hm : 3000 ≤ m) :
    ∃ x : List Int, iter (law09_GraphOrdersForward_L3 n (D, cy, e)) m (0, List.replicate n.Nodes.toNat 0) = some (.go x) ∧ (x.length : Int) = n.Nodes ∧ ∀ (i : Nat) (hi : i < D.length), g x (D[i]).toNat = (i : Int) + 1 := by
  have h00 := hn.1
  have hN := hn.2.1
  have hDl := ho.len hn
  have key := iter_inv (step := law09_GraphOrdersForward_L3 n (D, cy, e)) (fun s => ∃ i : Nat, s.1 = (i : Int) ∧ i ≤ D.length ∧ (s.2.length : Int) = n.Nodes ∧ (∀ (j : Nat) (hj : j < D.length), j < i → g s.2 (D[j]).toNat = (j : Int) + 1) ∧ ∀ (j : Nat) (hj : j < D.length), i ≤ j → g s.2 (D[j]).toNat = 0) (fun s => D.length - s.1.toNat)
    (fun r => ∃ x : List Int, r = .go x ∧ (x.length : Int) = n.Nodes ∧ ∀ (i : Nat) (hi : i < D.length), g x (D[i]).toNat = (i : Int) + 1) (by
      rintro ⟨i', x⟩ ⟨i, he, hi, hl, h1, h2⟩
      simp only at he hl h1 h2
      subst he
      unfold law09_GraphOrdersForward_L3
      simp only []
      by_cases hlt : i < D.length
      · left
        have e1 : decide ((i : Int) < (D.length : Int)) = true := by simpa using hlt
        simp only [e1, cond_true]
        have hr := ho.inr _ (List.getElem_mem hlt)
        have hs := List.getElem?_eq_getElem hlt
        have hx0 := h2 i hlt (Nat.le_refl _)
        have hxl : (D[i]).toNat < x.length := by
          have := hr.1; have := hr.2
          clear hs hx0 h1 h2
          omega
        have e2 : (decide (D[i] < 0) || decide (n.Nodes ≤ D[i])) = false := by
          rw [decide_eq_false (Int.not_lt.2 hr.1), decide_eq_false (Int.not_le.2 hr.2)]; rfl
        have hgx : ∀ {β : Type} (q : Int → Option β), idx x D[i] q = q 0 := fun q => by
          rw [idx_int hr.1 hxl, g_el hxl, hx0]
        simp only [idx_get hs, e2, cond_false, hgx]
        simp only [ne_eq, not_true_eq_false, decide_false, bindJ_go, cond_false]
        rw [w64 (by omega) (by omega)]
        refine ⟨_, rfl, ⟨i + 1, by simp, by omega, by simp only [List.length_set]; exact hl, fun j hj hji => ?_, fun j hj hji => ?_⟩, by simp; omega⟩
        · simp only
          rw [g_set hxl]
          by_cases ej : j = i
          · subst ej; rw [if_pos rfl]
          · have hne : ¬ (D[j]).toNat = (D[i]).toNat := fun hh => by
              have hr2 := ho.inr _ (List.getElem_mem hj)
              have : D[j] = D[i] := by
                rw [← Int.toNat_of_nonneg hr.1, ← Int.toNat_of_nonneg hr2.1, hh]
              exact ej (nodup_inj ho.nodup hj hlt this)
            rw [if_neg hne]; exact h1 j hj (by omega)
        · simp only
          rw [g_set hxl]
          have hne : ¬ (D[j]).toNat = (D[i]).toNat := fun hh => by
            have hr2 := ho.inr _ (List.getElem_mem hj)
            have : D[j] = D[i] := by
              rw [← Int.toNat_of_nonneg hr.1, ← Int.toNat_of_nonneg hr2.1, hh]
            have := nodup_inj ho.nodup hj hlt this
            omega
          rw [if_neg hne]; exact h2 j hj (by omega)
      · right
        have e1 : decide ((i : Int) < (D.length : Int)) = false := by simp; omega
        simp only [e1, cond_false]
        exact ⟨_, rfl, x, rfl, hl, fun j hj => h1 j hj (by omega)⟩)
    m (0, List.replicate n.Nodes.toNat 0) ⟨0, rfl, Nat.zero_le _, by simp; omega, fun j hj hji => by omega, fun j hj _ => by
      have hr := ho.inr _ (List.getElem_mem hj)
      have hlt : (D[j]).toNat < n.Nodes.toNat := by
        have := hr.1; have := hr.2
        omega
      simp [g, List.getD, hlt]⟩ (by simp; omega)
  obtain ⟨r, hr, x, rfl, q1, q2⟩ := key
  exact ⟨x, hr, q1, q2⟩
theorem forward_check {n : S_api_Net} (hn : okNet n) {D x : List Int} (ho : Ord n D) (hD : D.length = n.Nodes.toNat) (hl : (x.length : Int) = n.Nodes) (hx : ∀ (i : Nat) (hi : i < D.length), g x (D[i]).toNat = (i : Int) + 1) (m : Nat) (hm : 3000 ≤ m) :
    iter (law09_GraphOrdersForward_L4 n x) m 0 = some (.go ()) := by
  have hA := hn.2.2.1
  have hall := full hn ho hD
  refine iter_allgo n.Arcs.length (Lp.go ()) (fun i hi => ?_) ?_ m (by omega)
  · unfold law09_GraphOrdersForward_L4
    have e : decide ((i : Int) < (n.Arcs.length : Int)) = true := by simpa using hi
    simp only [e, cond_true]
    have hm' := List.getElem_mem hi
    obtain ⟨h1, h2, h3, h4, _⟩ := hn.2.2.2 _ hm'
    rw [idx_get (List.getElem?_eq_getElem hi), idx_int h1 (by omega), idx_int h3 (by omega), g_el (by omega), g_el (by omega)]
    obtain ⟨a, ha, e1⟩ := List.getElem_of_mem (hall (n.Arcs[i]).To h3 h4)
    obtain ⟨b, hb, e2⟩ := ho.forward a ha _ hm' e1.symm
    have q1 := hx a ha
    have q2 := hx b (by omega)
    rw [e1] at q1
    rw [e2] at q2
    have e3 : decide (g x (n.Arcs[i]).To.toNat ≤ g x (n.Arcs[i]).From.toNat) = false := decide_eq_false (by omega)
    simp only [e3, cond_false]
    rw [w64 (by omega) (by omega)]; simp
  · unfold law09_GraphOrdersForward_L4; simp
theorem forward_true (n : S_api_Net) (hn : S_api_Net.wf n) : ∃ m, law09_GraphOrdersForward m n = some true := by
  refine ⟨n.Arcs.length + 5000 + 40, ?_⟩
  have hs := sane (n.Arcs.length + 5000)
  unfold law09_GraphOrdersForward
  generalize hm : n.Arcs.length + 5000 + 40 = m at *
  unfold law09_few
  simp only [obind, Option.bind_some, hs]
  by_cases hf : ((decide (n.Nodes ≤ 12) || decide (256 < n.Nodes)) && decide ((n.Arcs.length : Int) ≤ 60)) = true
  · rw [hf]
    simp only [Bool.not_true, cond_false]
    rw [Valid_eq n m (by omega)]
    by_cases hok : okNet n
    · have h00 := hok.1
      have hN := hok.2.1
      have hpl : ((reps n).map (cls n)).length ≤ 256 := by
        rw [List.length_map]
        have := List.length_filter_le (isrep n) (List.range n.Nodes.toNat)
        unfold reps
        simp at this ⊢; omega
      simp only [hok, decide_true, Option.bind_some, Bool.not_true, bindJ_go, cond_false, Parts_ok hok m (by omega)]
      obtain ⟨D, ho, hfree, hcase⟩ := Order_ok hok m (by omega)
      rcases hcase with ⟨hD, hr⟩ | ⟨hD, cyc, vf, pf, v, k, hr, hc⟩
      · have hnt := not_tied hok ho hD
        simp only [hr, Option.bind_some]
        have e1 : (decide ((0 : Int) ≠ 0) || decide ((0 : Int) ≠ 0)) = false := by simp
        simp only [e1, cond_false, tied1 _ 0 hpl m (by omega), bindJ_go, tied2 hok _ m (by omega)]
        rw [show ((((reps n).map (cls n)).any fun s => decide (1 < s.length)) || (n.Arcs.any fun a => decide (a.From = a.To))) = false from hnt]
        have e2 : (decide ((D.length : Int) ≠ n.Nodes) || decide (((([] : List Int).length : Nat) : Int) ≠ 0)) = false := by simp; omega
        simp only [cond_false, e2]
        rw [need_pos (by omega)]
        obtain ⟨x, q1, q2, q3⟩ := place_eq hok (cy := []) (e := 0) ho m (by omega)
        simp only [q1, bindJ_go, forward_check hok ho hD q2 q3 m (by omega)]
      · have htd := tied_of_cyc hok hc
        simp only [hr, Option.bind_some]
        have e1 : (decide ((0 : Int) ≠ 0) || decide ((0 : Int) ≠ 0)) = false := by simp
        simp only [e1, cond_false, tied1 _ 0 hpl m (by omega), bindJ_go, tied2 hok _ m (by omega)]
        rw [show ((((reps n).map (cls n)).any fun s => decide (1 < s.length)) || (n.Arcs.any fun a => decide (a.From = a.To))) = true from htd]
        have hcl : 0 < cyc.length := by rw [hc.eq]; simp; exact hc.k1
        simp only [cond_true]
        have e2 : decide (0 < (cyc.length : Int)) = true := by simp; omega
        simp [e2]
        omega
    · simp [hok]
  · have hf' : ((decide (n.Nodes ≤ 12) || decide (256 < n.Nodes)) && decide ((n.Arcs.length : Int) ≤ 60)) = false := by simpa using hf
    rw [hf']; simp
end Go.Proofs.Ytgelifcckhemiaa
