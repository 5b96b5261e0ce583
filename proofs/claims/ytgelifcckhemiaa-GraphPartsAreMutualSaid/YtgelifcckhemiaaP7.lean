/-
  The plain law GraphPartsAreMutual.
-/
import Derived.Test.YtgelifcckhemiaaPp
import Derived.Test.YtgelifcckhemiaaOpn
import Derived.Test.YtgelifcckhemiaaSane
import Derived.Test.YtgelifcckhemiaaW7
namespace Go.Proofs.Ytgelifcckhemiaa
open Go.Abs
set_option linter.unusedSimpArgs false
set_option linter.unusedVariables false
/-- lists that are apart, of different numbers below N -/
structure Apart (N : Nat) (sets : List (List Int)) : Prop where
  dis : ∀ (i j : Nat) s t, i < j → sets[i]? = some s → sets[j]? = some t → ∀ w ∈ s, w ∉ t
  nod : ∀ s ∈ sets, s.Nodup
  inr : ∀ s ∈ sets, ∀ w ∈ s, 0 ≤ w ∧ w < N
structure XInv (N : Nat) (sets : List (List Int)) (i k : Nat) (x : List Int) : Prop where
  len : x.length = N
  val : ∀ w : Nat, w < N → ∃ val, x[w]? = some val ∧ ((val = 0 ∧ (∀ (j : Nat) s, j < i → sets[j]? = some s → (w : Int) ∉ s) ∧ (∀ s, sets[i]? = some s → (w : Int) ∉ s.take k)) ∨
    (∃ (j : Nat) (s : List Int), j < i ∧ sets[j]? = some s ∧ (w : Int) ∈ s ∧ val = j + 1) ∨ (∃ s : List Int, sets[i]? = some s ∧ (w : Int) ∈ s.take k ∧ val = i + 1))
theorem mutual_in {n : S_api_Net} (hn : okNet n) {sets : List (List Int)} (ha : Apart n.Nodes.toNat sets) (e : Int) {i : Nat} {s : List Int} (hs : sets[i]? = some s) (hi : i ≤ 1000) (hsl : s.length ≤ 1000) : ∀ (f k m : Nat) (count : Int) (x : List Int),
    k + f = s.length → f < m → 0 ≤ count → count + f ≤ 1000000 → XInv n.Nodes.toNat sets i k x → ∃ x', iter (law09_GraphPartsAreMutual_L2 n (sets, e) i) m (count, k, x) = some (.go (count + f, x')) ∧ XInv n.Nodes.toNat sets (i + 1) 0 x'
  | f, k, 0, _, _, _, h, _, _, _ => by omega
  | 0, k, m + 1, count, x, hk, _, h0, h1, hx => by
    have hst : law09_GraphPartsAreMutual_L2 n (sets, e) i (count, k, x) = some (.stop (.go (count, x))) := by
      unfold law09_GraphPartsAreMutual_L2
      simp only []
      rw [idx_get hs]
      have : decide ((k : Int) < (s.length : Int)) = false := by simp; omega
      simp only [this, cond_false]
    refine ⟨x, by rw [iter_stop hst]; simp, hx.len, fun w hw => ?_⟩
    obtain ⟨val, h2, h3⟩ := hx.val w hw
    refine ⟨val, h2, ?_⟩
    have hks : k = s.length := by omega
    rcases h3 with ⟨h4, h5, h6⟩ | ⟨j, t, h4, h5, h6, h7⟩ | ⟨t, h4, h5, h6⟩
    · refine .inl ⟨h4, fun j t hj ht => ?_, fun t _ => by simp⟩
      by_cases e2 : j = i
      · subst e2
        have := h6 t ht
        rw [hs] at ht; simp at ht; subst ht
        rwa [hks, List.take_length] at this
      · exact h5 j t (by omega) ht
    · exact .inr (.inl ⟨j, t, by omega, h5, h6, h7⟩)
    · exact .inr (.inl ⟨i, t, by omega, h4, List.mem_of_mem_take h5, h6⟩)
  | f + 1, k, m + 1, count, x, hk, hm, h0, h1, hx => by
    have hkl : k < s.length := by omega
    have hmem := List.mem_of_getElem? hs
    have hu := ha.inr s hmem s[k] (List.getElem_mem hkl)
    have hN := hn.2.1
    obtain ⟨val, hv, hval⟩ := hx.val s[k].toNat (by omega)
    have hcast : ((s[k].toNat : Nat) : Int) = s[k] := by omega
    have hxl := hx.len
    have hv0 : val = 0 := by
      rcases hval with ⟨h4, _⟩ | ⟨j, t, h4, h5, h6, h7⟩ | ⟨t, h4, h5, h6⟩
      · exact h4
      · rw [hcast] at h6
        exact absurd (List.getElem_mem hkl) (ha.dis j i t s h4 h5 hs _ h6)
      · exfalso
        rw [hs] at h4; simp at h4; subst h4
        rw [hcast] at h5
        obtain ⟨q, hq, he⟩ := List.getElem_of_mem h5
        rw [List.length_take] at hq
        rw [List.getElem_take] at he
        have := nodup_inj (ha.nod s hmem) (by omega) hkl he
        omega
    have hst : law09_GraphPartsAreMutual_L2 n (sets, e) i (count, k, x) = some (.go (count + 1, (k : Int) + 1, x.set s[k].toNat (i + 1))) := by
      unfold law09_GraphPartsAreMutual_L2
      simp only []
      rw [idx_get hs]
      have e1 : decide ((k : Int) < (s.length : Int)) = true := by simp; omega
      simp only [e1, cond_true]
      rw [idx_get' hkl]
      have e2 : (decide (s[k] < 0) || decide (n.Nodes ≤ s[k])) = false := by
        rw [decide_eq_false (Int.not_lt.2 hu.1), decide_eq_false (Int.not_le.2 ((Int.toNat_of_nonneg hn.1) ▸ hu.2))]; rfl
      simp only [e2, cond_false]
      have hxk : ∀ {β : Type} (q : Int → Option β), idx x s[k] q = q 0 := fun q => by
        rw [idx_int hu.1 (by omega)]
        have := hv
        rw [List.getElem?_eq_getElem (by omega)] at this
        simp at this
        rw [this, hv0]
      rw [hxk]
      simp only [ne_eq, not_true_eq_false, decide_false, bindJ_go, cond_false, hxk]
      rw [w64 (x := count + 1) (by omega) (by omega), w64 (x := (k : Int) + 1) (by omega) (by omega), w64 (x := (i : Int) + 1) (by omega) (by omega)]
    obtain ⟨x', h2, h3⟩ := mutual_in hn ha e hs hi hsl f (k + 1) m (count + 1) (x.set s[k].toNat (i + 1)) (by omega) (by omega) (by omega) (by omega) ⟨by simp [hxl], fun w hw => by
      rw [List.getElem?_set]
      by_cases ew : s[k].toNat = w
      · subst ew
        have hlt : s[k].toNat < x.length := by omega
        refine ⟨(i : Int) + 1, by simp [hlt], .inr (.inr ⟨s, hs, ?_, rfl⟩)⟩
        rw [hcast, List.take_add_one, List.getElem?_eq_getElem hkl]
        exact List.mem_append_right _ (by simp)
      · rw [if_neg ew]
        obtain ⟨val', h4, h5⟩ := hx.val w hw
        refine ⟨val', h4, ?_⟩
        rcases h5 with ⟨a1, a2, a3⟩ | a | ⟨t, a1, a2, a3⟩
        · refine .inl ⟨a1, a2, fun t ht hm' => ?_⟩
          rw [hs] at ht; simp at ht; subst ht
          rw [List.take_add_one, List.getElem?_eq_getElem hkl] at hm'
          rcases List.mem_append.1 hm' with h | h
          · exact a3 s hs h
          · simp at h; omega
        · exact .inr (.inl a)
        · refine .inr (.inr ⟨t, a1, ?_, a3⟩)
          rw [List.take_add_one]; exact List.mem_append_left _ a2⟩
    refine ⟨x', ?_, h3⟩
    rw [iter_go hst, show ((k : Int) + 1) = ((k + 1 : Nat) : Int) by omega, h2]
    congr 3; omega
theorem mutual_out {n : S_api_Net} (hn : okNet n) {sets : List (List Int)} (ha : Apart n.Nodes.toNat sets) (e : Int) (hsl : sets.length ≤ 256) (m : Nat) (hm : 3000 ≤ m) :
    ∃ x, iter (law09_GraphPartsAreMutual_L1 m n (sets, e)) m (0, 0, List.replicate n.Nodes.toNat 0) = some (.go ((sets.flatten.length : Int), x)) ∧ XInv n.Nodes.toNat sets sets.length 0 x := by
  have hN := hn.2.1
  have hel : ∀ s ∈ sets, s.length ≤ 256 := fun s hs => by
    have := nodup_range (ha.nod s hs) (ha.inr s hs); omega
  have key := iter_inv (step := law09_GraphPartsAreMutual_L1 m n (sets, e)) (fun s => ∃ i : Nat, s.2.1 = (i : Int) ∧ i ≤ sets.length ∧ s.1 = ((sets.take i).flatten.length : Int) ∧ XInv n.Nodes.toNat sets i 0 s.2.2 ∧ s.1 ≤ 256 * i) (fun s => sets.length - s.2.1.toNat)
    (fun r => ∃ x, r = .go ((sets.flatten.length : Int), x) ∧ XInv n.Nodes.toNat sets sets.length 0 x) (by
      rintro ⟨count, i', x⟩ ⟨i, hi', hi, hc, hx, hcb⟩
      simp only at hi' hc hx hcb
      subst hi'
      by_cases hlt : i < sets.length
      · left
        obtain ⟨s, hs⟩ : ∃ s, sets[i]? = some s := ⟨_, List.getElem?_eq_getElem hlt⟩
        have hsl' := hel s (List.mem_of_getElem? hs)
        obtain ⟨x', h1, h2⟩ := mutual_in hn ha e hs (by omega) (by omega) s.length 0 m count x (by omega) (by omega) (by omega) (by omega) hx
        unfold law09_GraphPartsAreMutual_L1
        have e1 : decide ((i : Int) < (sets.length : Int)) = true := by simp; omega
        simp only [e1, cond_true]
        rw [show ((0 : Nat) : Int) = (0 : Int) from rfl] at h1
        rw [h1, bindJ_go, w64 (by omega) (by omega)]
        refine ⟨_, rfl, ⟨i + 1, by simp, by omega, ?_, h2, by simp only; omega⟩, by simp; omega⟩
        simp only
        rw [hc, List.take_add_one, hs]
        simp
      · right
        unfold law09_GraphPartsAreMutual_L1
        have e1 : decide ((i : Int) < (sets.length : Int)) = false := by simp; omega
        simp only [e1, cond_false]
        have : i = sets.length := by omega
        subst this
        refine ⟨_, rfl, x, ?_, hx⟩
        rw [hc, List.take_length])
    m (0, 0, List.replicate n.Nodes.toNat 0) ⟨0, rfl, Nat.zero_le _, by simp, ⟨by simp, fun w hw => ⟨0, by simp [hw], .inl ⟨rfl, fun j s hj => by omega, fun s _ => by simp⟩⟩⟩, by simp⟩ (by simp; omega)
  obtain ⟨r, hr, x, rfl, hx⟩ := key
  exact ⟨x, hr, hx⟩
theorem apart_parts {n : S_api_Net} (hn : okNet n) : Apart n.Nodes.toNat ((reps n).map (cls n)) := by
  refine ⟨fun i j s t hij hs ht w hw hw' => ?_, fun s hs => ?_, fun s hs w hw => ?_⟩
  · obtain ⟨hi, rfl⟩ := List.getElem?_eq_some_iff.1 hs
    obtain ⟨hj, rfl⟩ := List.getElem?_eq_some_iff.1 ht
    exact (List.pairwise_iff_getElem.1 reps_pair i j hi hj hij) w hw w hw' rfl
  · obtain ⟨u, _, rfl⟩ := List.mem_map.1 hs; exact cls_nodup
  · obtain ⟨u, _, rfl⟩ := List.mem_map.1 hs
    obtain ⟨i, rfl, h1, _⟩ := mem_cls.1 hw
    omega
theorem parts_len {n : S_api_Net} (hn : okNet n) : ((reps n).map (cls n)).length ≤ 256 := by
  rw [List.length_map]
  have := List.length_filter_le (isrep n) (List.range n.Nodes.toNat)
  have h := hn.2.1
  unfold reps
  simp at this ⊢; omega
theorem parts_all {n : S_api_Net} (hn : okNet n) : (((reps n).map (cls n)).flatten.length : Int) = n.Nodes := by
  have h0 := hn.1
  have hnd : ((reps n).map (cls n)).flatten.Nodup := by
    refine List.pairwise_flatten.2 ⟨fun l hl => ?_, reps_pair⟩
    obtain ⟨u, _, rfl⟩ := List.mem_map.1 hl
    exact cls_nodup
  have h1 : ((reps n).map (cls n)).flatten.length ≤ n.Nodes.toNat := nodup_range hnd (fun x hx => by
    obtain ⟨s, hs, hx⟩ := List.mem_flatten.1 hx
    exact (apart_parts hn).inr s hs x hx)
  have h2 : n.Nodes.toNat ≤ ((reps n).map (cls n)).flatten.length := by
    have hr : ((List.range n.Nodes.toNat).map fun i : Nat => (i : Int)).Nodup := List.Pairwise.map _ (fun a b h e => h (by omega)) (List.nodup_range (n := n.Nodes.toNat))
    have := nodup_le ((List.range n.Nodes.toNat).map fun i : Nat => (i : Int)) ((reps n).map (cls n)).flatten hr (fun x hx => by
      obtain ⟨i, hi, rfl⟩ := List.mem_map.1 hx
      obtain ⟨s, h3, h4⟩ := cover (n := n) (v := i) (by simpa using hi)
      exact List.mem_flatten.2 ⟨s, h3, h4⟩)
    simpa using this
  omega
theorem same_part {n : S_api_Net} (hn : okNet n) {x : List Int} (hx : XInv n.Nodes.toNat ((reps n).map (cls n)) ((reps n).map (cls n)).length 0 x) {v w : Nat} (hv : v < n.Nodes.toNat) (hw : w < n.Nodes.toNat) :
    ∃ a b, x[v]? = some a ∧ x[w]? = some b ∧ (a = b ↔ rb n v w = true) := by
  have each : ∀ v, v < n.Nodes.toNat → ∃ (j u : Nat), x[v]? = some ((j : Int) + 1) ∧ (reps n)[j]? = some u ∧ rb n u v = true := by
    intro v hv
    obtain ⟨val, h1, h2⟩ := hx.val v hv
    rcases h2 with ⟨_, h3, _⟩ | ⟨j, s, h3, h4, h5, h6⟩ | ⟨s, h3, _⟩
    · obtain ⟨s, h4, h5⟩ := cover hv
      obtain ⟨j, hj, rfl⟩ := List.getElem_of_mem h4
      exact absurd h5 (h3 j _ hj (List.getElem?_eq_getElem hj))
    · rw [List.getElem?_map] at h4
      cases hu : (reps n)[j]? with
      | none => rw [hu] at h4; simp at h4
      | some u =>
        rw [hu] at h4; simp at h4; subst h4
        obtain ⟨i, hi, h7, h8⟩ := mem_cls.1 h5
        have : v = i := by omega
        subst this
        exact ⟨j, u, by rw [h1, h6], hu, h8⟩
    · rw [List.getElem?_eq_none (Nat.le_refl _)] at h3; cases h3
  obtain ⟨j, u, h1, h2, h3⟩ := each v hv
  obtain ⟨k, t, h4, h5, h6⟩ := each w hw
  refine ⟨_, _, h1, h4, ?_⟩
  constructor
  · intro h
    have : j = k := by omega
    subst this
    rw [h2] at h5; simp at h5; subst h5
    exact rb_trans (rb_symm h3) h6
  · intro h
    have hut : rb n u t = true := rb_trans (rb_trans h3 h) (rb_symm h6)
    have hru := (List.mem_filter.1 (List.mem_of_getElem? h2)).2
    have hrt := (List.mem_filter.1 (List.mem_of_getElem? h5)).2
    have : u = t := by
      rcases Nat.lt_trichotomy u t with h | h | h
      · exact absurd ⟨u, h, hut⟩ (isrep_iff.1 hrt)
      · exact h
      · exact absurd ⟨t, h, rb_symm hut⟩ (isrep_iff.1 hru)
    subst this
    have hnd : (reps n).Nodup := (List.nodup_range (n := n.Nodes.toNat)).sublist List.filter_sublist
    obtain ⟨hj, e1⟩ := List.getElem?_eq_some_iff.1 h2
    obtain ⟨hk, e2⟩ := List.getElem?_eq_some_iff.1 h5
    have := nodup_inj hnd hj hk (e1.trans e2.symm)
    omega
theorem mutual_arcs {n : S_api_Net} (hn : okNet n) {u : Int} {met : List Bool} (hl : (met.length : Int) = n.Nodes) (hM : ∀ w, 0 ≤ w → (M met w ↔ Pth n false u w)) (m : Nat) (hm : 3000 ≤ m) :
    iter (law09_GraphPartsAreMutual_L4 n (met, 0)) m 0 = some (.go ()) := by
  have hA := hn.2.2.1
  refine iter_allgo n.Arcs.length (Lp.go ()) (fun i hi => ?_) ?_ m (by omega)
  · unfold law09_GraphPartsAreMutual_L4
    have e : decide ((i : Int) < (n.Arcs.length : Int)) = true := by simpa using hi
    simp only [e, cond_true]
    have ho := hn.2.2.2 _ (List.getElem_mem hi)
    obtain ⟨h1, h2, h3, h4, _⟩ := ho
    rw [idx_get' hi, show (n.Arcs[i]).From = (((n.Arcs[i]).From.toNat : Nat) : Int) by omega, idx_M (by omega)]
    rw [show ((((n.Arcs[i]).From.toNat : Nat) : Int)) = (n.Arcs[i]).From by omega]
    by_cases a : M met (n.Arcs[i]).From
    · simp only [a, decide_true, cond_true]
      rw [show (n.Arcs[i]).To = (((n.Arcs[i]).To.toNat : Nat) : Int) by omega, idx_M (by omega)]
      have : M met (((n.Arcs[i]).To.toNat : Nat) : Int) := by
        rw [show ((((n.Arcs[i]).To.toNat : Nat) : Int)) = (n.Arcs[i]).To by omega]
        exact (hM _ h3).2 (.step ((hM _ h1).1 a) ⟨n.Arcs[i], List.getElem_mem hi, rfl, rfl⟩)
      simp only [this, decide_true, Bool.not_true, bindJ_go, cond_false]
      rw [w64 (by omega) (by omega)]; simp
    · simp only [a, decide_false, cond_false, bindJ_go]
      rw [w64 (by omega) (by omega)]; simp
  · unfold law09_GraphPartsAreMutual_L4; simp
structure AInv (n : S_api_Net) (i : Nat) (all : List (List Bool)) : Prop where
  len : all.length = i
  each : ∀ j : Nat, j < i → ∃ met : List Bool, all[j]? = some met ∧ (met.length : Int) = n.Nodes ∧ ∀ w, 0 ≤ w → (M met w ↔ Pth n false (j : Nat) w)
theorem mutual_reach {n : S_api_Net} (hn : okNet n) (m : Nat) (hm : 3000 ≤ m) : ∃ all, iter (law09_GraphPartsAreMutual_L3 m n) m ([], 0) = some (.go all) ∧ AInv n n.Nodes.toNat all := by
  have hN := hn.2.1
  have h00 := hn.1
  have key := iter_inv (step := law09_GraphPartsAreMutual_L3 m n) (fun s => ∃ i : Nat, s.2 = (i : Int) ∧ i ≤ n.Nodes.toNat ∧ AInv n i s.1) (fun s => n.Nodes.toNat - s.2.toNat) (fun r => ∃ all, r = .go all ∧ AInv n n.Nodes.toNat all) (by
    rintro ⟨all, i'⟩ ⟨i, hi', hi, hx⟩
    simp only at hi' hx
    subst hi'
    have hal := hx.len
    by_cases hlt : i < n.Nodes.toNat
    · left
      obtain ⟨met, h1, h2, h3⟩ := Reach_eq hn (u := (i : Nat)) (by omega) (by omega) m hm
      unfold law09_GraphPartsAreMutual_L3
      have e : decide ((i : Int) < n.Nodes) = true := by simp; omega
      simp only [e, cond_true, h1, obind, Option.bind_some]
      have e2 : (decide ((0 : Int) ≠ 0) || decide ((met.length : Int) ≠ n.Nodes)) = false := by simp [h2]
      simp only [e2, cond_false]
      rw [idx_M (by omega)]
      have hself : M met (i : Nat) := (h3 (i : Nat) (by omega)).2 .refl
      simp only [hself, decide_true, Bool.not_true, bindJ_go, cond_false, mutual_arcs hn h2 h3 m hm]
      rw [need_pos (by simp; omega), w64 (by omega) (by omega)]
      refine ⟨_, rfl, ⟨i + 1, by simp, by omega, by simp [hal], fun j hj => ?_⟩, by simp; omega⟩
      by_cases ej : j < i
      · obtain ⟨mt, g1, g2, g3⟩ := hx.each j ej
        exact ⟨mt, by simp only; rw [List.getElem?_append_left (by omega)]; exact g1, g2, g3⟩
      · have : j = i := by omega
        subst this
        exact ⟨met, by simp only; rw [List.getElem?_append_right (by omega)]; simp [hal], h2, h3⟩
    · right
      unfold law09_GraphPartsAreMutual_L3
      have e : decide ((i : Int) < n.Nodes) = false := by simp; omega
      simp only [e, cond_false]
      have : i = n.Nodes.toNat := by omega
      subst this
      exact ⟨_, rfl, all, rfl, hx⟩)
    m ([], 0) ⟨0, rfl, Nat.zero_le _, rfl, fun j hj => by omega⟩ (by simp; omega)
  obtain ⟨r, hr, all, rfl, hx⟩ := key
  exact ⟨all, hr, hx⟩
theorem mutual_check {n : S_api_Net} (hn : okNet n) {x : List Int} (hx : XInv n.Nodes.toNat ((reps n).map (cls n)) ((reps n).map (cls n)).length 0 x) {all : List (List Bool)} (ha : AInv n n.Nodes.toNat all) (m : Nat) (hm : 3000 ≤ m) :
    iter (law09_GraphPartsAreMutual_L5 m n x all) m 0 = some (.go ()) := by
  have hN := hn.2.1
  have h00 := hn.1
  have hin : ∀ v : Nat, v < n.Nodes.toNat → iter (law09_GraphPartsAreMutual_L6 n x all v) m 0 = some (.go ()) := by
    intro v hv
    refine iter_allgo n.Nodes.toNat (Lp.go ()) (fun w hw => ?_) ?_ m (by omega)
    · unfold law09_GraphPartsAreMutual_L6
      have e : decide ((w : Int) < n.Nodes) = true := by simp; omega
      simp only [e, cond_true]
      obtain ⟨a, b, h1, h2, h3⟩ := same_part hn hx hv hw
      obtain ⟨mv, g1, g2, g3⟩ := ha.each v hv
      obtain ⟨mw, g4, g5, g6⟩ := ha.each w hw
      rw [idx_get h1, idx_get h2, idx_get g1, idx_M (by omega), idx_get g4, idx_M (by omega)]
      have d1 := g3 (w : Nat) (by omega)
      have d2 := g6 (v : Nat) (by omega)
      have e3 : (decide (a = b)) = (decide (M mv (w : Nat)) && decide (M mw (v : Nat))) := by
        rw [Bool.eq_iff_iff]
        simp only [decide_eq_true_eq, Bool.and_eq_true]
        rw [h3, d1, d2, rb_iff]
      have e4 : (bif decide (M mv (w : Nat)) then some (Lp.go (R := Lp Int (Lp Unit (Lp Int (Lp Unit Bool)))) (decide (M mw (v : Nat)))) else some (.go false)) = some (.go (decide (a = b))) := by
        rw [e3]; cases decide (M mv (w : Nat)) <;> simp
      rw [e4, bindJ_go]
      simp only [beq_self_eq_true, Bool.not_true, cond_false]
      rw [w64 (by omega) (by omega)]; simp
    · unfold law09_GraphPartsAreMutual_L6
      have e : decide (((n.Nodes.toNat : Nat) : Int) < n.Nodes) = false := by simp; omega
      simp only [e, cond_false]
  refine iter_allgo n.Nodes.toNat (Lp.go ()) (fun v hv => ?_) ?_ m (by omega)
  · unfold law09_GraphPartsAreMutual_L5
    have e : decide ((v : Int) < n.Nodes) = true := by simp; omega
    simp only [e, cond_true, hin v hv, bindJ_go]
    rw [w64 (by omega) (by omega)]; simp
  · unfold law09_GraphPartsAreMutual_L5
    have e : decide (((n.Nodes.toNat : Nat) : Int) < n.Nodes) = false := by simp; omega
    simp only [e, cond_false]
theorem mutual_true (n : S_api_Net) (hn : S_api_Net.wf n) : ∃ m, law09_GraphPartsAreMutual m n = some true := by
  refine ⟨n.Arcs.length + 5000 + 40, ?_⟩
  have hs := sane (n.Arcs.length + 5000)
  unfold law09_GraphPartsAreMutual
  generalize hm : n.Arcs.length + 5000 + 40 = m at *
  unfold law09_few
  simp only [obind, Option.bind_some, hs]
  by_cases hf : ((decide (n.Nodes ≤ 12) || decide (256 < n.Nodes)) && decide ((n.Arcs.length : Int) ≤ 60)) = true
  · rw [hf]
    simp only [Bool.not_true, cond_false]
    rw [Valid_eq n m (by omega)]
    by_cases hok : okNet n
    · have h00 := hok.1
      have hN := hok.2.1
      simp only [hok, decide_true, Option.bind_some, Bool.not_true, bindJ_go, cond_false, Parts_ok hok m (by omega)]
      have e : decide ((0 : Int) ≠ 0) = false := by simp
      simp only [e, cond_false]
      rw [need_pos (by omega)]
      obtain ⟨x, h1, h2⟩ := mutual_out hok (apart_parts hok) 0 (parts_len hok) m (by omega)
      obtain ⟨all, h3, h4⟩ := mutual_reach hok m (by omega)
      simp only [h1, bindJ_go, h3, mutual_check hok h2 h4 m (by omega), parts_all hok]
      simp
    · simp [hok]
  · have hf' : ((decide (n.Nodes ≤ 12) || decide (256 < n.Nodes)) && decide ((n.Arcs.length : Int) ≤ 60)) = false := by simpa using hf
    rw [hf']; simp
end Go.Proofs.Ytgelifcckhemiaa
