/-
  The specification's walks through a network, in plain words.
-/
import Derived.Test.YtgelifcckhemiaaPc
import Derived.Test.YtgelifcckhemiaaPp
import Derived.Test.YtgelifcckhemiaaPq
import Derived.Test.YtgelifcckhemiaaG3a
namespace Go.Proofs.Ytgelifcckhemiaa
open Go.Abs
set_option linter.unusedSimpArgs false
set_option linter.unusedVariables false
theorem rValid_eq (n : S_api_Net) (m : Nat) (hm : n.Arcs.length < m) : ref09_Valid m n = some (decide (okNet n)) := by
  unfold ref09_Valid
  by_cases h : (decide (n.Nodes < 0) || decide (256 < n.Nodes)) || decide (2048 < (n.Arcs.length : Int))
  · have : ¬ okNet n := by intro hk; unfold okNet at hk; simp at h; omega
    simp [h, this]
  · have h' : ((decide (n.Nodes < 0) || decide (256 < n.Nodes)) || decide (2048 < (n.Arcs.length : Int))) = false := by simpa using h
    simp only [h', cond_false]
    simp at h'
    have k1 : iter (ref09_Valid_L1 n) m 0 = some (foldL (S := Unit) (R := Lp Unit Bool) (fun _ a => cond (decide (okArc n a)) (.go ()) (.stop (.stop false))) .go () n.Arcs) := by
      have := iter_fold (step := ref09_Valid_L1 n) (l := n.Arcs) (fun (i : Nat) (_ : Unit) => (i : Int)) (fun (_ : Unit) (a : S_api_Arc) => cond (decide (okArc n a)) (.go ()) (.stop (.stop false))) (.go : Unit → Lp Unit Bool) (fun _ _ => True) (fun i s a _ hx => by
        have hlt := (List.getElem?_eq_some_iff.1 hx).1
        refine ⟨?_, fun _ _ => trivial⟩
        unfold ref09_Valid_L1
        have e : decide ((i : Int) < (n.Arcs.length : Int)) = true := by simpa using hlt
        simp only [e, cond_true]
        rw [idx_get hx, w64 (by omega) (by omega)]
        have e2 : ((((((decide (a.From < 0) || decide (n.Nodes ≤ a.From)) || decide (a.To < 0)) || decide (n.Nodes ≤ a.To)) || decide (1048576 < a.Cost)) || decide (a.Cost < (-1048576)))) = !decide (okArc n a) := by
          rw [Bool.eq_iff_iff]
          simp only [Bool.or_eq_true, decide_eq_true_eq, Bool.not_eq_true', decide_eq_false_iff_not]
          unfold okArc; omega
        rw [e2]
        by_cases hk : okArc n a <;> simp [hk]) (fun s _ => by unfold ref09_Valid_L1; simp) m 0 () trivial (by omega) (by omega)
      simpa using this
    rw [k1, foldL_all (fun a => decide (okArc n a)) (.stop false) n.Arcs (fun x _ => rfl)]
    by_cases ho : okNet n
    · have : (n.Arcs.all fun a => decide (okArc n a)) = true := by rw [List.all_eq_true]; intro a ha; exact decide_eq_true (ho.2.2.2 a ha)
      rw [this]; simp [ho]
    · have : (n.Arcs.all fun a => decide (okArc n a)) = false := by
        rw [Bool.eq_false_iff]; intro hh
        refine ho ⟨by omega, by omega, by omega, fun a ha => ?_⟩
        have := List.all_eq_true.1 hh a ha
        simpa using this
      rw [this]; simp [ho]
structure P2 (n : S_api_Net) (x0 : List Bool) (u : Int) (changed : Bool) (i : Nat) (x : List Bool) : Prop where
  len : (x.length : Int) = n.Nodes
  from_ : M x u
  sound : ∀ w, 0 ≤ w → M x w → Pth n false u w
  le : x.count false ≤ x0.count false
  ch : changed = true → x.count false < x0.count false
  no : changed = false → ∀ (j : Nat) a, j < i → n.Arcs[j]? = some a → M x a.From → M x a.To
theorem reach_pass {n : S_api_Net} (hn : okNet n) {u : Int} (x0 : List Bool) (hl : (x0.length : Int) = n.Nodes) (h1 : M x0 u) (h2 : ∀ w, 0 ≤ w → M x0 w → Pth n false u w) (m : Nat) (hm : 3000 ≤ m) :
    ∃ changed x, iter (ref09_reach_L2 n) m (false, 0, x0) = some (.go (changed, x)) ∧ P2 n x0 u changed n.Arcs.length x := by
  have hA := hn.2.2.1
  have key := iter_inv (step := ref09_reach_L2 n) (fun s => ∃ i : Nat, s.2.1 = (i : Int) ∧ i ≤ n.Arcs.length ∧ P2 n x0 u s.1 i s.2.2) (fun s => n.Arcs.length - s.2.1.toNat) (fun r => ∃ changed x, r = .go (changed, x) ∧ P2 n x0 u changed n.Arcs.length x) (by
    rintro ⟨c, i', x⟩ ⟨i, he, hi, hp⟩
    simp only at he hp
    subst he
    unfold ref09_reach_L2
    by_cases hlt : i < n.Arcs.length
    · left
      have e : decide ((i : Int) < (n.Arcs.length : Int)) = true := by simpa using hlt
      simp only [e, cond_true]
      have ha := List.getElem?_eq_getElem hlt
      obtain ⟨a1, a2, a3, a4, _⟩ := hn.2.2.2 _ (List.getElem_mem hlt)
      have hxl := hp.len
      have hf : ∀ {β : Type} (q : Bool → Option β), idx x (n.Arcs[i]).From q = q (decide (M x (n.Arcs[i]).From)) := fun q => by
        have := idx_M (met := x) (i := (n.Arcs[i]).From.toNat) (by omega) q
        rwa [Int.toNat_of_nonneg a1] at this
      have ht : ∀ {β : Type} (q : Bool → Option β), idx x (n.Arcs[i]).To q = q (decide (M x (n.Arcs[i]).To)) := fun q => by
        have := idx_M (met := x) (i := (n.Arcs[i]).To.toNat) (by omega) q
        rwa [Int.toNat_of_nonneg a3] at this
      rw [idx_get ha, hf]
      have hn' : ∀ (c' : Bool) (x' : List Bool), P2 n x0 u c' (i + 1) x' → (∃ s', (some (Lp.go (R := Lp (Bool × List Bool) (Lp (Int × List Bool) (Lp (List Bool) (List Bool)))) (c', IntKind.i64.wrap ((i : Int) + 1), x')) : Option _) = some (.go s') ∧ (∃ q : Nat, s'.2.1 = (q : Int) ∧ q ≤ n.Arcs.length ∧ P2 n x0 u s'.1 q s'.2.2) ∧ n.Arcs.length - s'.2.1.toNat < n.Arcs.length - ((i : Int)).toNat) := fun c' x' h => by
        rw [w64 (by omega) (by omega)]
        exact ⟨_, rfl, ⟨i + 1, by simp, by omega, h⟩, by simp; omega⟩
      by_cases b1 : M x (n.Arcs[i]).From
      · simp only [b1, decide_true, cond_true, ht]
        by_cases b2 : M x (n.Arcs[i]).To
        · simp only [b2, decide_true, Bool.not_true, bindJ_go, cond_false]
          refine hn' c x ⟨hp.len, hp.from_, hp.sound, hp.le, hp.ch, fun hc j a hj hja hm' => ?_⟩
          by_cases ej : j = i
          · subst ej; rw [ha] at hja; simp at hja; subst hja; exact b2
          · exact hp.no hc j a (by omega) hja hm'
        · simp only [b2, decide_false, Bool.not_false, bindJ_go, cond_true, ht]
          have hwl : (n.Arcs[i]).To.toNat < x.length := by omega
          have hfalse := not_M hwl b2
          have hmem : false ∈ x := List.mem_of_getElem? hfalse
          have hc : 0 < x.count false := List.count_pos_iff.2 hmem
          have hcs : (x.set (n.Arcs[i]).To.toNat true).count false < x.count false := by
            rw [List.getElem?_eq_getElem hwl] at hfalse
            simp only [Option.some.injEq] at hfalse
            rw [List.count_set hwl, hfalse]
            simp; omega
          have hle := hp.le
          refine hn' true _ ⟨by simp only [List.length_set]; exact hp.len, M_set' hwl hp.from_, fun w hw hm' => ?_, by omega, fun _ => by omega, fun h => by cases h⟩
          rcases (M_set a3 hw hwl).1 hm' with rfl | h
          · exact .step (hp.sound _ a1 b1) ⟨_, List.getElem_mem hlt, rfl, rfl⟩
          · exact hp.sound w hw h
      · simp only [b1, decide_false, cond_false, bindJ_go]
        refine hn' c x ⟨hp.len, hp.from_, hp.sound, hp.le, hp.ch, fun hc j a hj hja hm' => ?_⟩
        by_cases ej : j = i
        · subst ej; rw [ha] at hja; simp at hja; subst hja; exact absurd hm' b1
        · exact hp.no hc j a (by omega) hja hm'
    · right
      have e : decide ((i : Int) < (n.Arcs.length : Int)) = false := by simp; omega
      simp only [e, cond_false]
      have : i = n.Arcs.length := by omega
      subst this
      exact ⟨_, rfl, c, x, rfl, hp⟩)
    m (false, 0, x0) ⟨0, rfl, Nat.zero_le _, hl, h1, h2, Nat.le_refl _, (fun h => by cases h), fun _ j a hj => by omega⟩ (by simp; omega)
  obtain ⟨r, hr, c, x, rfl, hp⟩ := key
  exact ⟨c, x, hr, hp⟩
theorem reach_eq {n : S_api_Net} (hn : okNet n) {u : Int} (h0 : 0 ≤ u) (h1 : u < n.Nodes) (m : Nat) (hm : 3000 ≤ m) :
    ∃ met : List Bool, ref09_reach m n u = some met ∧ (met.length : Int) = n.Nodes ∧ ∀ w, 0 ≤ w → (M met w ↔ Pth n false u w) := by
  have hN := hn.2.1
  have hul : u.toNat < (List.replicate n.Nodes.toNat false).length := by simp; omega
  unfold ref09_reach
  rw [need_pos (by omega), idx_int h0 hul]
  have key := iter_inv (step := ref09_reach_L1 m n) (fun s => ∃ k : Nat, s.1 = (k : Int) ∧ (s.2.length : Int) = n.Nodes ∧ M s.2 u ∧ (∀ w, 0 ≤ w → M s.2 w → Pth n false u w) ∧ s.2.count false + k + 1 ≤ n.Nodes.toNat) (fun s => n.Nodes.toNat - s.1.toNat)
    (fun r => ∃ met : List Bool, r = .stop met ∧ (met.length : Int) = n.Nodes ∧ ∀ w, 0 ≤ w → (M met w ↔ Pth n false u w)) (by
      rintro ⟨k', x⟩ ⟨k, he, hl, h1', h2', hc⟩
      simp only at he hl h1' h2' hc
      subst he
      unfold ref09_reach_L1
      have e : decide ((k : Int) < n.Nodes) = true := by simp; omega
      simp only [e, cond_true]
      obtain ⟨c, x', q1, q2⟩ := reach_pass hn x hl h1' h2' m hm
      rw [q1, bindJ_go]
      cases c with
      | false =>
        right
        refine ⟨_, rfl, x', rfl, q2.len, fun w hw => ⟨q2.sound w hw, fun hp => ?_⟩⟩
        induction hp with
        | refl => exact q2.from_
        | @step a b hp e ih =>
          have hin := edge_in hn e
          obtain ⟨arc, e1, e2, e3⟩ := e
          obtain ⟨j, hj⟩ := List.getElem?_of_mem e1
          have := q2.no rfl j arc (List.getElem?_eq_some_iff.1 hj).1 hj
          have e2' : arc.From = a := e2
          have e3' : arc.To = b := e3
          rw [e2', e3'] at this
          exact this (ih hin.1)
      | true =>
        left
        simp only [Bool.not_true, cond_false]
        have := q2.ch rfl
        rw [w64 (by omega) (by omega)]
        exact ⟨_, rfl, ⟨k + 1, by simp, q2.len, q2.from_, q2.sound, by simp only; omega⟩, by simp; omega⟩)
    m (0, (List.replicate n.Nodes.toNat false).set u.toNat true) ⟨0, rfl, by simp; omega, (M_set h0 h0 hul).2 (.inl rfl), (fun w hw hm' => by
      rcases (M_set h0 hw hul).1 hm' with rfl | h
      · exact .refl
      · unfold M at h; rw [List.getElem?_replicate] at h; split at h <;> simp at h), by
      simp only
      rw [List.count_set hul]
      simp
      omega⟩ (by simp; omega)
  obtain ⟨r, hr, met, rfl, q1, q2⟩ := key
  refine ⟨met, ?_, q1, q2⟩
  rw [hr]; rfl
theorem met_eq {n : S_api_Net} {a b : List Bool} {u : Int} (h1 : (a.length : Int) = n.Nodes) (h2 : (b.length : Int) = n.Nodes) (k1 : ∀ w, 0 ≤ w → (M a w ↔ Pth n false u w)) (k2 : ∀ w, 0 ≤ w → (M b w ↔ Pth n false u w)) : a = b := by
  apply List.ext_getElem (by omega)
  intro i hi hi'
  have := (k1 (i : Nat) (by omega)).trans (k2 (i : Nat) (by omega)).symm
  unfold M at this
  rw [Int.toNat_natCast, List.getElem?_eq_getElem hi, List.getElem?_eq_getElem hi'] at this
  simp only [Option.some.injEq] at this
  exact Bool.eq_iff_iff.2 this
theorem rParts_ok {n : S_api_Net} (hn : okNet n) (m : Nat) (hm : 3000 ≤ m) : ref09_Parts m n = some ⟨(reps n).map (cls n), 0⟩ := by
  have hN := hn.2.1
  have h00 := hn.1
  have hA := hn.2.2.1
  unfold ref09_Parts
  rw [rValid_eq n m (by omega)]
  simp only [hn, decide_true, obind, Option.bind_some, Bool.not_true, cond_false]
  have k1 : ∃ all, iter (ref09_Parts_L1 m n) m ([], 0) = some (.go all) ∧ all.length = n.Nodes.toNat ∧ ∀ j : Nat, j < n.Nodes.toNat → ∃ met : List Bool, all[j]? = some met ∧ (met.length : Int) = n.Nodes ∧ ∀ w, 0 ≤ w → (M met w ↔ Pth n false (j : Nat) w) := by
    have key := iter_inv (step := ref09_Parts_L1 m n) (fun s => ∃ i : Nat, s.2 = (i : Int) ∧ i ≤ n.Nodes.toNat ∧ s.1.length = i ∧ ∀ j : Nat, j < i → ∃ met : List Bool, s.1[j]? = some met ∧ (met.length : Int) = n.Nodes ∧ ∀ w, 0 ≤ w → (M met w ↔ Pth n false (j : Nat) w)) (fun s => n.Nodes.toNat - s.2.toNat)
      (fun r => ∃ all, r = .go all ∧ all.length = n.Nodes.toNat ∧ ∀ j : Nat, j < n.Nodes.toNat → ∃ met : List Bool, all[j]? = some met ∧ (met.length : Int) = n.Nodes ∧ ∀ w, 0 ≤ w → (M met w ↔ Pth n false (j : Nat) w)) (by
        rintro ⟨all, i'⟩ ⟨i, he, hi, hal, hx⟩
        simp only at he hal hx
        subst he
        unfold ref09_Parts_L1
        by_cases hlt : i < n.Nodes.toNat
        · left
          have e : decide ((i : Int) < n.Nodes) = true := by simp; omega
          obtain ⟨met, g1, g2, g3⟩ := reach_eq hn (u := (i : Nat)) (by omega) (by omega) m hm
          simp only [e, cond_true, g1, obind, Option.bind_some]
          rw [need_pos (by simp; omega), w64 (by omega) (by omega)]
          refine ⟨_, rfl, ⟨i + 1, by simp, by omega, by simp [hal], fun j hj => ?_⟩, by simp; omega⟩
          by_cases ej : j < i
          · obtain ⟨mt, q1, q2, q3⟩ := hx j ej
            exact ⟨mt, by simp only; rw [List.getElem?_append_left (by omega)]; exact q1, q2, q3⟩
          · have : j = i := by omega
            subst this
            exact ⟨met, by simp only; rw [List.getElem?_append_right (by omega)]; simp [hal], g2, g3⟩
        · right
          have e : decide ((i : Int) < n.Nodes) = false := by simp; omega
          simp only [e, cond_false]
          have : i = n.Nodes.toNat := by omega
          subst this
          exact ⟨_, rfl, all, rfl, hal, hx⟩)
      m ([], 0) ⟨0, rfl, Nat.zero_le _, rfl, fun j hj => by omega⟩ (by simp; omega)
    obtain ⟨r, hr, all, rfl, q1, q2⟩ := key
    exact ⟨all, hr, q1, q2⟩
  obtain ⟨all, a1, a2, a3⟩ := k1
  have k3 : ∀ v : Nat, v < n.Nodes.toNat → iter (ref09_Parts_L3 n all v) m ([], 0) = some (.go (cls n v)) := by
    intro v hv
    have := iter_range (step := ref09_Parts_L3 n all v) n.Nodes.toNat (fun i (s : List Int) => (s, (i : Int))) (fun s i => .go (if rb n v i then s ++ [(i : Int)] else s)) (fun s => .go s) (fun i s => s.length ≤ i) (fun i s hs hi => by
      refine ⟨?_, fun s' hs' => by
        simp at hs'; subst hs'; split
        · simp; omega
        · omega⟩
      unfold ref09_Parts_L3
      have e : decide ((i : Int) < n.Nodes) = true := by simp; omega
      obtain ⟨mv, g1, g2, g3⟩ := a3 v hv
      obtain ⟨mw, g4, g5, g6⟩ := a3 i hi
      have d1 := g3 (i : Nat) (by omega)
      have d2 := g6 (v : Nat) (by omega)
      simp only [e, cond_true]
      rw [idx_get g1, idx_M (by omega)]
      by_cases b1 : M mv (i : Nat)
      · simp only [b1, decide_true, cond_true]
        rw [idx_get g4, idx_M (by omega)]
        by_cases b2 : M mw (v : Nat)
        · have hr : rb n v i = true := rb_iff.2 ⟨d1.1 b1, d2.1 b2⟩
          simp only [b2, decide_true, bindJ_go, cond_true, hr, if_true]
          rw [need_pos (by simp; omega), bindJ_go, w64 (by omega) (by omega)]; simp
        · have hr : rb n v i = false := by rw [Bool.eq_false_iff]; intro h; exact b2 (d2.2 (rb_iff.1 h).2)
          simp only [b2, decide_false, bindJ_go, cond_false, hr]
          rw [w64 (by omega) (by omega)]; simp
      · have hr : rb n v i = false := by rw [Bool.eq_false_iff]; intro h; exact b1 (d1.2 (rb_iff.1 h).1)
        simp only [b1, decide_false, cond_false, bindJ_go, hr]
        rw [w64 (by omega) (by omega)]; simp) (fun s hs => by
      unfold ref09_Parts_L3
      have e : decide (((n.Nodes.toNat : Nat) : Int) < n.Nodes) = false := by simp; omega
      simp only [e, cond_false]) m [] (by simp) (by omega)
    rw [show (([] : List Int), (0 : Int)) = (([] : List Int), ((0 : Nat) : Int)) from rfl, this]
    rw [foldL_gom (fun (s : List Int) (i : Nat) => if rb n v i then s ++ [(i : Int)] else s) _ _ (fun _ _ _ => rfl)]
    have hf : ∀ (l : List Nat) (s : List Int), l.foldl (fun (s : List Int) (i : Nat) => if rb n v i then s ++ [(i : Int)] else s) s = s ++ (l.filter (rb n v)).map (fun i : Nat => (i : Int)) := by
      intro l
      induction l with
      | nil => intro s; simp
      | cons i l ih =>
        intro s
        simp only [List.foldl_cons, List.filter_cons]
        by_cases h : rb n v i = true
        · simp only [h, if_true]; rw [ih]; simp
        · simp only [h, if_false]; rw [ih]; simp
    rw [hf]; rfl
  have hfirst : ∀ v : Nat, v < n.Nodes.toNat → ∃ c : Nat, (cls n v)[0]? = some (c : Int) ∧ (c = v ↔ isrep n v = true) := by
    intro v hv
    have hvm : (v : Int) ∈ cls n v := mem_cls.2 ⟨v, rfl, hv, rb_refl⟩
    have hpos : 0 < (clsN n v).length := by
      have : 0 < (cls n v).length := List.length_pos_of_mem hvm
      unfold cls at this; simpa using this
    have hc0 := List.getElem_mem (l := clsN n v) (n := 0) hpos
    obtain ⟨c, hcd⟩ : ∃ c, c = (clsN n v)[0] := ⟨_, rfl⟩
    rw [← hcd] at hc0
    have hc1 := List.mem_filter.1 hc0
    have hmin : ∀ u ∈ clsN n v, c ≤ u := by
      intro u hu
      have hp : (clsN n v).Pairwise (· < ·) := List.pairwise_lt_range.sublist List.filter_sublist
      obtain ⟨q, hq, rfl⟩ := List.getElem_of_mem hu
      by_cases e : q = 0
      · subst e; omega
      · have := List.pairwise_iff_getElem.1 hp 0 q hpos hq (by omega); omega
    refine ⟨c, by unfold cls; rw [List.getElem?_map, List.getElem?_eq_getElem hpos, ← hcd]; rfl, ?_⟩
    have hvN : v ∈ clsN n v := List.mem_filter.2 ⟨by simpa using hv, rb_refl⟩
    constructor
    · rintro rfl
      refine isrep_iff.2 fun ⟨u, hu, hr⟩ => ?_
      have := hmin u (List.mem_filter.2 ⟨by simp; omega, rb_symm hr⟩)
      omega
    · intro hr
      have h1 := hmin v hvN
      refine Classical.byContradiction fun hne => isrep_iff.1 hr ⟨c, by omega, rb_symm hc1.2⟩
  have k2 : iter (ref09_Parts_L2 m n all) m ([], 0) = some (.go ((reps n).map (cls n))) := by
    have key := iter_inv (step := ref09_Parts_L2 m n all) (fun s => ∃ i : Nat, s.2 = (i : Int) ∧ i ≤ n.Nodes.toNat ∧ s.1 = ((List.range i).filter (isrep n)).map (cls n)) (fun s => n.Nodes.toNat - s.2.toNat) (fun r => r = .go ((reps n).map (cls n))) (by
      rintro ⟨out, i'⟩ ⟨i, he, hi, ho⟩
      simp only at he ho
      subst he
      unfold ref09_Parts_L2
      by_cases hlt : i < n.Nodes.toNat
      · left
        have e : decide ((i : Int) < n.Nodes) = true := by simp; omega
        obtain ⟨c, c1, c2⟩ := hfirst i hlt
        simp only [e, cond_true, k3 i hlt, bindJ_go]
        rw [show ∀ {β : Type} (k : Int → Option β), idx (cls n i) 0 k = k (c : Int) from fun k => idx_get (i := 0) c1 k]
        have hol : out.length ≤ 256 := by
          rw [ho, List.length_map]
          have := List.length_filter_le (isrep n) (List.range i)
          simp at this; omega
        by_cases hr : isrep n i = true
        · have e2 : decide (((c : Nat) : Int) = ((i : Nat) : Int)) = true := decide_eq_true (by rw [c2.2 hr])
          simp only [e2, cond_true]
          rw [need_pos (by simp; omega), bindJ_go, w64 (by omega) (by omega)]
          refine ⟨_, rfl, ⟨i + 1, by simp, by omega, ?_⟩, by simp; omega⟩
          simp only [List.range_succ, List.filter_append, List.filter_cons, hr, List.filter_nil, List.map_append, List.map_cons, List.map_nil, if_true]
          rw [ho]
        · have e2 : decide (((c : Nat) : Int) = ((i : Nat) : Int)) = false := decide_eq_false (fun h => hr (c2.1 (by omega)))
          simp only [e2, cond_false, bindJ_go]
          rw [w64 (by omega) (by omega)]
          have hr' : isrep n i = false := by simpa using hr
          refine ⟨_, rfl, ⟨i + 1, by simp, by omega, ?_⟩, by simp; omega⟩
          simp only [List.range_succ, List.filter_append, List.filter_cons, hr', List.filter_nil, List.append_nil]
          simpa using ho
      · right
        have e : decide ((i : Int) < n.Nodes) = false := by simp; omega
        simp only [e, cond_false]
        have : i = n.Nodes.toNat := by omega
        exact ⟨_, rfl, by rw [ho, this]; rfl⟩)
      m ([], 0) ⟨0, rfl, Nat.zero_le _, by simp⟩ (by simp; omega)
    obtain ⟨r, hr, rfl⟩ := key
    exact hr
  simp only [a1, bindJ_go, k2]
/-! the order of the specification -/
theorem Ord.take {n : S_api_Net} {D : List Int} (h : Ord n D) : ∀ i, i ≤ D.length → Ord n (D.take i) := by
  induction h with
  | nil => intro i _; simp; exact .nil
  | @snoc D v ho hl ih =>
    intro i hi
    by_cases e : i ≤ D.length
    · rw [List.take_append_of_le_length e]; exact ih i e
    · rw [List.take_of_length_le (by simp at hi ⊢; omega)]; exact .snoc ho hl
theorem Ord.next {n : S_api_Net} {D : List Int} (h : Ord n D) : ∀ (i : Nat) (hi : i < D.length), Least n (D.take i) D[i] := by
  induction h with
  | nil => intro i hi; simp at hi
  | @snoc D v ho hl ih =>
    intro i hi
    by_cases e : i < D.length
    · rw [List.take_append_of_le_length (by omega), List.getElem_append_left e]; exact ih i e
    · have : i = D.length := by simp at hi; omega
      subst this
      rw [List.take_append_of_le_length (Nat.le_refl _), List.take_length, List.getElem_append_right (Nat.le_refl _)]
      simpa using hl
theorem Ord.uniq {n : S_api_Net} {D E : List Int} (hD : Ord n D) (hE : Ord n E) : ∀ i, i ≤ D.length → i ≤ E.length → D.take i = E.take i
  | 0, _, _ => by simp
  | i + 1, h1, h2 => by
    have ih := Ord.uniq hD hE i (by omega) (by omega)
    have a := hD.next i (by omega)
    have b := hE.next i (by omega)
    rw [ih] at a
    have : D[i] = E[i] := Int.le_antisymm (a.2 _ b.1) (b.2 _ a.1)
    rw [List.take_add_one, List.take_add_one, ih, List.getElem?_eq_getElem (show i < D.length by omega), List.getElem?_eq_getElem (show i < E.length by omega), this]
theorem Ord.whole {n : S_api_Net} {D E : List Int} (hD : Ord n D) (hE : Ord n E) (fD : ∀ w, ¬ Free_ n D w) (fE : ∀ w, ¬ Free_ n E w) : D = E := by
  rcases Nat.lt_trichotomy D.length E.length with h | h | h
  · have := hD.uniq hE D.length (Nat.le_refl _) (by omega)
    rw [List.take_length] at this
    have hn := hE.next D.length h
    rw [← this] at hn
    exact absurd hn.1 (fD _)
  · have := hD.uniq hE D.length (Nat.le_refl _) (by omega)
    rw [List.take_length, h, List.take_length] at this
    exact this
  · have := hD.uniq hE E.length (by omega) (Nat.le_refl _)
    rw [List.take_length] at this
    have hn := hD.next E.length h
    rw [this] at hn
    exact absurd hn.1 (fE _)
theorem full_free {n : S_api_Net} (hn : okNet n) {D : List Int} (ho : Ord n D) (hD : D.length = n.Nodes.toNat) (w : Int) : ¬ Free_ n D w := by
  rintro ⟨h0, h1, h2, _⟩
  have h00 := hn.1
  have := nodup_range (l := w :: D) (n := n.Nodes.toNat) (List.nodup_cons.2 ⟨h2, ho.nodup⟩) (fun x hx => by
    rcases List.mem_cons.1 hx with rfl | hx
    · omega
    · have := ho.inr x hx; omega)
  simp at this; omega
/-- marks of the nodes of D -/
structure Marks (n : S_api_Net) (D : List Int) (x : List Bool) : Prop where
  len : (x.length : Int) = n.Nodes
  mark : ∀ w, 0 ≤ w → w < n.Nodes → (M x w ↔ w ∈ D)
theorem idx_Mi {met : List Bool} {w : Int} {β : Type} (h0 : 0 ≤ w) (h : w.toNat < met.length) (k : Bool → Option β) : idx met w k = k (decide (M met w)) := by
  have := idx_M (met := met) (i := w.toNat) h k
  rwa [Int.toNat_of_nonneg h0] at this
theorem M_setv {met : List Bool} {w u : Int} {b : Bool} (hw : 0 ≤ w) (hu : 0 ≤ u) (hl : w.toNat < met.length) : M (met.set w.toNat b) u ↔ (if u = w then b = true else M met u) := by
  unfold M
  rw [List.getElem?_set]
  by_cases e : w.toNat = u.toNat
  · have : u = w := by omega
    subst this; simp [hl]
  · rw [if_neg e]
    have : ¬ u = w := by omega
    simp [this]
theorem free_marks {n : S_api_Net} (hn : okNet n) {D : List Int} {x : List Bool} (hx : Marks n D x) (m : Nat) (hm : 3000 ≤ m) :
    ∃ y : List Bool, (bindJ (S := List Bool) (R := Lp ((List Int) × Int × (List Bool)) (Lp (List Int) S_ref09_Ordered)) (iter (ref09_Order_L2 n x) m (0, List.replicate n.Nodes.toNat false)) (fun x_25 => match iter (ref09_Order_L3 n x) m (0, x_25) with | some (.go y) => none | _ => none) = none) ∧
    (∃ y0, iter (ref09_Order_L2 n x) m (0, List.replicate n.Nodes.toNat false) = some (.go y0) ∧ iter (ref09_Order_L3 n x) m (0, y0) = some (.go y)) ∧ (y.length : Int) = n.Nodes ∧ ∀ w, 0 ≤ w → w < n.Nodes → (M y w ↔ Free_ n D w) := by
  have hN := hn.2.1
  have h00 := hn.1
  have hA := hn.2.2.1
  have hxl := hx.len
  have key := iter_inv (step := ref09_Order_L2 n x) (fun s => ∃ i : Nat, s.1 = (i : Int) ∧ i ≤ n.Nodes.toNat ∧ (s.2.length : Int) = n.Nodes ∧ ∀ w : Int, 0 ≤ w → w < (i : Int) → (M s.2 w ↔ w ∉ D)) (fun s => n.Nodes.toNat - s.1.toNat) (fun r => ∃ y0 : List Bool, r = .go y0 ∧ (y0.length : Int) = n.Nodes ∧ ∀ w, 0 ≤ w → w < n.Nodes → (M y0 w ↔ w ∉ D)) (by
    rintro ⟨i', y⟩ ⟨i, he, hi, hl, hy⟩
    simp only at he hl hy
    subst he
    unfold ref09_Order_L2
    by_cases hlt : i < n.Nodes.toNat
    · left
      have e : decide ((i : Int) < n.Nodes) = true := by simp; omega
      simp only [e, cond_true]
      rw [idx_M (by omega), idx_M (by omega), w64 (by omega) (by omega), Int.toNat_natCast]
      refine ⟨_, rfl, ⟨i + 1, by simp, by omega, by simp only [List.length_set]; exact hl, fun w hw0 hw1 => ?_⟩, by simp; omega⟩
      have hs := M_setv (met := y) (w := (i : Nat)) (u := w) (b := !decide (M x (i : Nat))) (by omega) hw0 (by omega)
      rw [Int.toNat_natCast] at hs
      simp only
      rw [hs]
      by_cases ew : w = i
      · subst ew
        rw [if_pos rfl, ← hx.mark (i : Nat) (by omega) (by omega)]
        simp
      · rw [if_neg ew]; exact hy w hw0 (by omega)
    · right
      have e : decide ((i : Int) < n.Nodes) = false := by simp; omega
      simp only [e, cond_false]
      exact ⟨_, rfl, y, rfl, hl, fun w a b => hy w a (by omega)⟩)
    m (0, List.replicate n.Nodes.toNat false) ⟨0, rfl, Nat.zero_le _, by simp; omega, fun w a b => by omega⟩ (by simp; omega)
  obtain ⟨r, hr, y0, rfl, hl0, hy0⟩ := key
  have key2 := iter_inv (step := ref09_Order_L3 n x) (fun s => ∃ i : Nat, s.1 = (i : Int) ∧ i ≤ n.Arcs.length ∧ (s.2.length : Int) = n.Nodes ∧ ∀ w, 0 ≤ w → w < n.Nodes → (M s.2 w ↔ (w ∉ D ∧ ∀ (j : Nat) a, j < i → n.Arcs[j]? = some a → a.To = w → a.From ∈ D))) (fun s => n.Arcs.length - s.1.toNat)
    (fun r => ∃ y : List Bool, r = .go y ∧ (y.length : Int) = n.Nodes ∧ ∀ w, 0 ≤ w → w < n.Nodes → (M y w ↔ Free_ n D w)) (by
      rintro ⟨i', y⟩ ⟨i, he, hi, hl, hy⟩
      simp only at he hl hy
      subst he
      unfold ref09_Order_L3
      by_cases hlt : i < n.Arcs.length
      · left
        have e : decide ((i : Int) < (n.Arcs.length : Int)) = true := by simpa using hlt
        simp only [e, cond_true]
        have ha := List.getElem?_eq_getElem hlt
        obtain ⟨a1, a2, a3, a4, _⟩ := hn.2.2.2 _ (List.getElem_mem hlt)
        have hmk := hx.mark _ a1 a2
        rw [idx_get ha, idx_Mi a1 (by omega)]
        by_cases b1 : M x (n.Arcs[i]).From
        · simp only [b1, decide_true, Bool.not_true, cond_false, bindJ_go]
          rw [w64 (by omega) (by omega)]
          refine ⟨_, rfl, ⟨i + 1, by simp, by omega, hl, fun w hw0 hw1 => ?_⟩, by simp; omega⟩
          simp only
          rw [hy w hw0 hw1]
          refine and_congr_right fun _ => ⟨fun h j a hj hja ht => ?_, fun h j a hj hja ht => h j a (by omega) hja ht⟩
          by_cases ej : j = i
          · subst ej; rw [ha] at hja; simp at hja; subst hja; exact hmk.1 b1
          · exact h j a (by omega) hja ht
        · simp only [b1, decide_false, Bool.not_false, cond_true]
          rw [idx_Mi a3 (by omega), bindJ_go, w64 (by omega) (by omega)]
          refine ⟨_, rfl, ⟨i + 1, by simp, by omega, by simp only [List.length_set]; exact hl, fun w hw0 hw1 => ?_⟩, by simp; omega⟩
          simp only
          rw [M_setv a3 hw0 (by omega)]
          by_cases ew : w = (n.Arcs[i]).To
          · rw [if_pos ew]
            constructor
            · intro h; cases h
            · rintro ⟨_, h⟩
              exact absurd (hmk.2 (h i _ (by omega) ha ew.symm)) b1
          · rw [if_neg ew, hy w hw0 hw1]
            refine and_congr_right fun _ => ⟨fun h j a hj hja ht => ?_, fun h j a hj hja ht => h j a (by omega) hja ht⟩
            by_cases ej : j = i
            · subst ej; rw [ha] at hja; simp at hja; subst hja; exact absurd ht.symm ew
            · exact h j a (by omega) hja ht
      · right
        have e : decide ((i : Int) < (n.Arcs.length : Int)) = false := by simp; omega
        simp only [e, cond_false]
        have : i = n.Arcs.length := by omega
        subst this
        refine ⟨_, rfl, y, rfl, hl, fun w hw0 hw1 => ?_⟩
        rw [hy w hw0 hw1]
        constructor
        · rintro ⟨h1, h2⟩
          refine ⟨hw0, hw1, h1, fun a ha ht => ?_⟩
          obtain ⟨j, hj⟩ := List.getElem?_of_mem ha
          exact h2 j a (List.getElem?_eq_some_iff.1 hj).1 hj ht
        · rintro ⟨_, _, h1, h2⟩
          exact ⟨h1, fun j a _ hja ht => h2 a (List.mem_of_getElem? hja) ht⟩)
    m (0, y0) ⟨0, rfl, Nat.zero_le _, hl0, fun w a b => by rw [hy0 w a b]; exact ⟨fun h => ⟨h, fun j a hj => by omega⟩, fun h => h.1⟩⟩ (by simp; omega)
  obtain ⟨r2, hr2, y, rfl, hl, hy⟩ := key2
  refine ⟨y, ?_, ⟨y0, hr, hr2⟩, hl, hy⟩
  rw [hr, bindJ_go, hr2]
theorem least_eq {n : S_api_Net} (hn : okNet n) {y : List Bool} (hl : (y.length : Int) = n.Nodes) (m : Nat) (hm : 3000 ≤ m) :
    ∃ v : Int, iter (ref09_Order_L4 y) m (-1, n.Nodes - 1) = some (.go v) ∧ ((v = -1 ∧ ∀ w, 0 ≤ w → w < n.Nodes → ¬ M y w) ∨ (0 ≤ v ∧ v < n.Nodes ∧ M y v ∧ ∀ w, 0 ≤ w → w < v → ¬ M y w)) := by
  have hN := hn.2.1
  have h00 := hn.1
  have key := iter_inv (step := ref09_Order_L4 y) (fun s => -1 ≤ s.2 ∧ s.2 < n.Nodes ∧ ((s.1 = -1 ∧ ∀ w, s.2 < w → w < n.Nodes → ¬ M y w) ∨ (s.2 < s.1 ∧ s.1 < n.Nodes ∧ M y s.1 ∧ ∀ w, s.2 < w → w < s.1 → ¬ M y w))) (fun s => (s.2 + 1).toNat)
    (fun r => ∃ v : Int, r = .go v ∧ ((v = -1 ∧ ∀ w, 0 ≤ w → w < n.Nodes → ¬ M y w) ∨ (0 ≤ v ∧ v < n.Nodes ∧ M y v ∧ ∀ w, 0 ≤ w → w < v → ¬ M y w))) (by
      rintro ⟨least, v⟩ ⟨h1, h2, h3⟩
      simp only at h1 h2 h3
      unfold ref09_Order_L4
      by_cases hv : 0 ≤ v
      · left
        have e : decide (0 ≤ v) = true := decide_eq_true hv
        simp only [e, cond_true]
        rw [idx_Mi hv (by omega), w64 (by omega) (by omega)]
        by_cases b : M y v
        · simp only [b, decide_true, cond_true, bindJ_go]
          exact ⟨_, rfl, ⟨by simp only; omega, by simp only; omega, .inr ⟨by simp only; omega, by simp only; omega, b, fun w a c => by simp only at a c; omega⟩⟩, by simp only; omega⟩
        · simp only [b, decide_false, cond_false, bindJ_go]
          refine ⟨_, rfl, ⟨by simp only; omega, by simp only; omega, ?_⟩, by simp only; omega⟩
          rcases h3 with ⟨h4, h5⟩ | ⟨h4, h5, h6, h7⟩
          · refine .inl ⟨h4, fun w a c => ?_⟩
            simp only at a
            by_cases ew : w = v
            · subst ew; exact b
            · exact h5 w (by omega) c
          · refine .inr ⟨by simp only; omega, h5, h6, fun w a c => ?_⟩
            simp only at a c
            by_cases ew : w = v
            · subst ew; exact b
            · exact h7 w (by omega) c
      · right
        have e : decide (0 ≤ v) = false := decide_eq_false hv
        simp only [e, cond_false]
        refine ⟨_, rfl, least, rfl, ?_⟩
        rcases h3 with ⟨h4, h5⟩ | ⟨h4, h5, h6, h7⟩
        · exact .inl ⟨h4, fun w a c => h5 w (by omega) c⟩
        · exact .inr ⟨by omega, h5, h6, fun w a c => h7 w (by omega) c⟩)
    m (-1, n.Nodes - 1) ⟨by simp only; omega, by simp only; omega, .inl ⟨rfl, fun w a c => by simp only at a; omega⟩⟩ (by simp only; omega)
  obtain ⟨r, hr, v, rfl, h⟩ := key
  exact ⟨v, hr, h⟩
theorem rOrder_ok {n : S_api_Net} (hn : okNet n) {D : List Int} (hD : Ord n D) (hfree : ∀ w, ¬ Free_ n D w) (m : Nat) (hm : 3000 ≤ m) :
    ref09_Order m n = some (if D.length = n.Nodes.toNat then ⟨D, true, 0⟩ else ⟨[], false, 0⟩) := by
  have hN := hn.2.1
  have h00 := hn.1
  have hA := hn.2.2.1
  unfold ref09_Order
  rw [rValid_eq n m (by omega)]
  simp only [hn, decide_true, obind, Option.bind_some, Bool.not_true, cond_false]
  rw [need_pos (by omega)]
  have key := iter_inv (step := ref09_Order_L1 m n) (fun s => s.2.1 = (s.1.length : Int) ∧ Ord n s.1 ∧ Marks n s.1 s.2.2) (fun s => n.Nodes.toNat - s.1.length) (fun r => (D.length = n.Nodes.toNat ∧ r = .go D) ∨ (D.length ≠ n.Nodes.toNat ∧ r = .stop ⟨[], false, 0⟩)) (by
    rintro ⟨E, k', x⟩ ⟨he, hE, hx⟩
    simp only at he hE hx
    subst he
    have hEl := hE.len hn
    unfold ref09_Order_L1
    by_cases hlt : E.length < n.Nodes.toNat
    · have e : decide ((E.length : Int) < n.Nodes) = true := by simp; omega
      simp only [e, cond_true]
      rw [need_pos (by omega)]
      obtain ⟨y, _, ⟨y0, q1, q2⟩, q3, q4⟩ := free_marks hn hx m hm
      obtain ⟨v, q5, q6⟩ := least_eq hn q3 m hm
      rw [q1, bindJ_go, q2, bindJ_go, w64 (x := n.Nodes - 1) (by omega) (by omega), q5, bindJ_go]
      rcases q6 with ⟨rfl, hno⟩ | ⟨v0, v1, hv, hno⟩
      · right
        refine ⟨_, rfl, .inr ⟨?_, rfl⟩⟩
        have hEf : ∀ w, ¬ Free_ n E w := fun w hw => hno w hw.1 hw.2.1 ((q4 w hw.1 hw.2.1).2 hw)
        have := hD.whole hE hfree hEf
        rw [this]; omega
      · left
        have e2 : decide (v < 0) = false := decide_eq_false (by omega)
        simp only [e2, cond_false]
        have hxl := hx.len
        rw [idx_Mi v0 (by omega), need_pos (by simp; omega), w64 (by omega) (by omega)]
        have hfr := (q4 v v0 v1).1 hv
        have hls : Least n E v := ⟨hfr, fun w hw => Classical.byContradiction fun h => hno w hw.1 (by omega) ((q4 w hw.1 hw.2.1).2 hw)⟩
        refine ⟨_, rfl, ⟨by simp, .snoc hE hls, by simp only [List.length_set]; exact hxl, fun w hw0 hw1 => ?_⟩, by simp; omega⟩
        simp only
        rw [M_set v0 hw0 (by omega), List.mem_append, List.mem_singleton, hx.mark w hw0 hw1]
        exact or_comm
    · right
      have e : decide ((E.length : Int) < n.Nodes) = false := by simp; omega
      simp only [e, cond_false]
      have hEN : E.length = n.Nodes.toNat := by omega
      have := hD.whole hE hfree (full_free hn hE hEN)
      exact ⟨_, rfl, .inl ⟨by rw [this]; exact hEN, by rw [this]⟩⟩)
    m ([], 0, List.replicate n.Nodes.toNat false) ⟨rfl, .nil, by simp; omega, fun w hw0 hw1 => by unfold M; simp [show w.toNat < n.Nodes.toNat by omega]⟩ (by simp; omega)
  obtain ⟨r, hr, h⟩ := key
  rw [hr]
  rcases h with ⟨h1, rfl⟩ | ⟨h1, rfl⟩
  · rw [if_pos h1]; rfl
  · rw [if_neg h1]; rfl
theorem rReach_eq (n : S_api_Net) (u : Int) (m : Nat) (hm : n.Arcs.length + 3000 ≤ m) : ∃ met, graph_Reach m n u = some (met, if okNet n ∧ 0 ≤ u ∧ u < n.Nodes then 0 else 1) ∧ ref09_Reach m n u = some ⟨met, if okNet n ∧ 0 ≤ u ∧ u < n.Nodes then 0 else 1⟩ ∧ met.length ≤ 256 := by
  by_cases h : okNet n ∧ 0 ≤ u ∧ u < n.Nodes
  · obtain ⟨hn, h0, h1⟩ := h
    obtain ⟨a, a1, a2, a3⟩ := Reach_eq hn h0 h1 m (by omega)
    obtain ⟨b, b1, b2, b3⟩ := reach_eq hn h0 h1 m (by omega)
    have := met_eq a2 b2 a3 b3
    subst this
    have hN := hn.2.1
    rw [if_pos ⟨hn, h0, h1⟩]
    refine ⟨a, a1, ?_, by omega⟩
    unfold ref09_Reach
    rw [rValid_eq n m (by omega)]
    have e : (decide (0 ≤ u) && decide (u < n.Nodes)) = true := by simp; omega
    simp only [hn, decide_true, obind, Option.bind_some, Bool.not_true, cond_false, ref09_node, e, bindJ_go, b1]
  · rw [if_neg h]
    refine ⟨[], Reach_bad h m (by omega), ?_, by simp⟩
    unfold ref09_Reach
    rw [rValid_eq n m (by omega)]
    by_cases hn : okNet n
    · have e : (decide (0 ≤ u) && decide (u < n.Nodes)) = false := by
        rw [Bool.eq_false_iff]; intro hh; simp at hh; exact h ⟨hn, hh⟩
      simp only [hn, decide_true, obind, Option.bind_some, Bool.not_true, cond_false, ref09_node, e, bindJ_go, Bool.not_false, cond_true]
    · simp [hn, obind]
end Go.Proofs.Ytgelifcckhemiaa
