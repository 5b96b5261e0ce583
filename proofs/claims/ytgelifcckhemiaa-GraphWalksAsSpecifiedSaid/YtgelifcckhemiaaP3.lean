/-
  The plain law GraphWalksAsSpecified.
-/
import Derived.Test.YtgelifcckhemiaaPr
import Derived.Test.YtgelifcckhemiaaOpn
import Derived.Test.YtgelifcckhemiaaSane
import Derived.Test.YtgelifcckhemiaaW3
namespace Go.Proofs.Ytgelifcckhemiaa
open Go.Abs
set_option linter.unusedSimpArgs false
set_option linter.unusedVariables false
theorem SameSets_refl {a : List (List Int)} (hl : a.length ≤ 1000) (hs : ∀ s ∈ a, s.length ≤ 1000) (m : Nat) (hm : 3000 ≤ m) : ref09_SameSets m a a = some true := by
  unfold ref09_SameSets
  have e : decide ((a.length : Int) ≠ (a.length : Int)) = false := by simp
  simp only [e, cond_false]
  have : iter (ref09_SameSets_L1 m a a) m 0 = some (.go ()) := by
    refine iter_allgo a.length (Lp.go ()) (fun i hi => ?_) ?_ m (by omega)
    · unfold ref09_SameSets_L1
      have e : decide ((i : Int) < (a.length : Int)) = true := by simpa using hi
      have hsi := hs _ (List.getElem_mem hi)
      simp only [e, cond_true]
      rw [idx_get' hi, idx_get' hi, Same_eq m (by omega) (by omega)]
      simp only [obind, Option.bind_some, decide_true, Bool.not_true, cond_false]
      rw [w64 (by omega) (by omega)]; simp
    · unfold ref09_SameSets_L1; simp
  rw [this, bindJ_go]
theorem walks_loop {a : List Bool} {e : Int} (hl : a.length ≤ 256) (m : Nat) (hm : 3000 ≤ m) : iter (law09_GraphWalksAsSpecified_L1 (a, e) ⟨a, e⟩) m 0 = some (.go ()) := by
  refine iter_allgo a.length (Lp.go ()) (fun i hi => ?_) ?_ m (by omega)
  · unfold law09_GraphWalksAsSpecified_L1
    have e : decide ((i : Int) < (a.length : Int)) = true := by simpa using hi
    simp only [e, cond_true]
    rw [idx_get' hi, idx_get' hi, w64 (by omega) (by omega)]
    simp
  · unfold law09_GraphWalksAsSpecified_L1; simp
theorem cyc_walk {n : S_api_Net} (hn : okNet n) {D cyc : List Int} {vf : Int → Nat} {pf : Int → Int} {v : Int} {k : Nat} (hc : Cyc n D cyc vf pf v k) (m : Nat) (hm : 3000 ≤ m) : ref09_Cycle m n cyc = some true := by
  have hN := hn.2.1
  have h00 := hn.1
  have hA := hn.2.2.1
  have k1 := hc.k1
  have kN := hc.kN
  have hin : ∀ i, 0 ≤ itp pf i v ∧ itp pf i v < n.Nodes ∧ itp pf i v ∉ D := by
    intro i
    induction i with
    | zero => exact hc.at_
    | succ i ih =>
      rw [itp_succ]
      obtain ⟨a, h1, h2, h3, h4⟩ := hc.arc _ ih.1 ih.2.1 ih.2.2
      have := hn.2.2.2 a (List.mem_of_getElem? h1)
      obtain ⟨q1, q2, _⟩ := this
      rw [h3] at q1 q2
      exact ⟨q1, q2, h4⟩
  have hlen : cyc.length = k := by rw [hc.eq]; simp
  have hget : ∀ i, i < k → cyc[i]? = some ((vf (itp pf (k - 1 - i) v) : Nat) : Int) := by
    intro i hi
    rw [hc.eq, List.getElem?_reverse (by simpa using hi)]
    simp only [List.length_map, List.length_range]
    rw [List.getElem?_map, List.getElem?_range (by omega)]; rfl
  have hdist : ∀ a b, 1 ≤ a → a < b → b ≤ k → itp pf a v ≠ itp pf b v := by
    intro a b h1 h2 h3 he
    have e1 : itp pf (k - b + a) v = v := by rw [itp_add, he, ← itp_add, show k - b + b = k by omega, hc.per]
    exact hc.min (k - b + a) (by omega) (by omega) e1
  unfold ref09_Cycle ref09_walk
  have e0 : decide ((cyc.length : Int) = 0) = false := decide_eq_false (by omega)
  simp only [e0, cond_false]
  rw [need_pos (by omega)]
  have key := iter_inv (step := ref09_walk_L1 n cyc) (fun s => ∃ i : Nat, s.1 = (i : Int) ∧ i ≤ k ∧ (s.2.length : Int) = n.Nodes ∧ ∀ w : Int, 0 ≤ w → (M s.2 w ↔ ∃ j, j < i ∧ w = itp pf (k - j) v)) (fun s => k - s.1.toNat) (fun r => r = .go ()) (by
    rintro ⟨i', x⟩ ⟨i, he, hi, hl, hx⟩
    simp only at he hl hx
    subst he
    unfold ref09_walk_L1
    by_cases hlt : i < k
    · left
      have e : decide ((i : Int) < (cyc.length : Int)) = true := by simp; omega
      simp only [e, cond_true]
      have hw := hin (k - 1 - i)
      obtain ⟨a, a1, a2, a3, a4⟩ := hc.arc _ hw.1 hw.2.1 hw.2.2
      have hfrom : a.From = itp pf (k - i) v := by
        have hs := itp_succ pf (k - 1 - i) v
        rw [show k - 1 - i + 1 = k - i by omega] at hs
        rw [a3, hs]
      have hvl := (List.getElem?_eq_some_iff.1 a1).1
      have hfin := hin (k - i)
      rw [idx_get (hget i hlt)]
      have e2 : (decide (((vf (itp pf (k - 1 - i) v) : Nat) : Int) < 0) || decide ((n.Arcs.length : Int) ≤ ((vf (itp pf (k - 1 - i) v) : Nat) : Int))) = false := by simp; omega
      simp only [e2, cond_false]
      rw [idx_get (hget i hlt), idx_get a1, need_pos (by omega), hlen]
      rw [w64 (x := (i : Int) + (k : Int)) (by omega) (by omega), w64 (x := (i : Int) + (k : Int) - 1) (by omega) (by omega), w64 (x := (i : Int) + 1) (by omega) (by omega)]
      have hlast : ∃ q, q < k ∧ ((i : Int) + (k : Int) - 1).tmod (k : Int) = (q : Int) ∧ itp pf (k - 1 - q) v = itp pf (k - i) v := by
        refine ⟨(i + k - 1) % k, Nat.mod_lt _ (by omega), ?_, ?_⟩
        · rw [show (i : Int) + (k : Int) - 1 = ((i + k - 1 : Nat) : Int) by omega]; rfl
        · by_cases h0 : i = 0
          · subst h0
            have : (0 + k - 1) % k = k - 1 := by rw [Nat.mod_eq_of_lt (show 0 + k - 1 < k by omega)]; omega
            rw [this, show k - 1 - (k - 1) = 0 by omega, show k - 0 = k by omega, hc.per]; rfl
          · have : (i + k - 1) % k = i - 1 := by
              rw [show i + k - 1 = (i - 1) + k by omega, Nat.add_mod_right, Nat.mod_eq_of_lt (by omega)]
            rw [this]; congr 1; omega
      obtain ⟨q, q1, q2, q3⟩ := hlast
      have hwq := hin (k - 1 - q)
      obtain ⟨b, b1, b2, b3, b4⟩ := hc.arc _ hwq.1 hwq.2.1 hwq.2.2
      have hbl := (List.getElem?_eq_some_iff.1 b1).1
      rw [q2, idx_get (hget q q1)]
      have e3 : (decide (((vf (itp pf (k - 1 - q) v) : Nat) : Int) < 0) || decide ((n.Arcs.length : Int) ≤ ((vf (itp pf (k - 1 - q) v) : Nat) : Int))) = false := by simp; omega
      simp only [e3, cond_false]
      rw [idx_get b1]
      have e4 : decide (b.To ≠ a.From) = false := by rw [b2, q3, hfrom]; simp
      simp only [e4, bindJ_go, cond_false]
      rw [hfrom, idx_Mi hfin.1 (by omega)]
      have hnm : ¬ M x (itp pf (k - i) v) := fun hm' => by
        obtain ⟨j, hj, he⟩ := (hx _ hfin.1).1 hm'
        exact hdist (k - i) (k - j) (by omega) (by omega) (by omega) he
      simp only [hnm, decide_false, bindJ_go, cond_false]
      rw [idx_Mi hfin.1 (by omega)]
      refine ⟨_, rfl, ⟨i + 1, by simp, by omega, by simp only [List.length_set]; exact hl, fun w hw0 => ?_⟩, by simp; omega⟩
      simp only
      rw [M_set hfin.1 hw0 (by omega), hx w hw0]
      constructor
      · rintro (rfl | ⟨j, hj, rfl⟩)
        · exact ⟨i, by omega, rfl⟩
        · exact ⟨j, by omega, rfl⟩
      · rintro ⟨j, hj, rfl⟩
        by_cases ej : j = i
        · subst ej; exact .inl rfl
        · exact .inr ⟨j, by omega, rfl⟩
    · right
      have e : decide ((i : Int) < (cyc.length : Int)) = false := by simp; omega
      simp only [e, cond_false]
      exact ⟨_, rfl, rfl⟩)
    m (0, List.replicate n.Nodes.toNat false) ⟨0, rfl, Nat.zero_le _, by simp; omega, fun w hw0 => by
      constructor
      · intro h; unfold M at h; rw [List.getElem?_replicate] at h; split at h <;> simp at h
      · rintro ⟨j, hj, _⟩; omega⟩ (by simp; omega)
  obtain ⟨r, hr, rfl⟩ := key
  rw [hr]; rfl
theorem rParts_bad {n : S_api_Net} (hn : ¬ okNet n) (m : Nat) (hm : n.Arcs.length < m) : ref09_Parts m n = some ⟨[], 1⟩ := by
  unfold ref09_Parts
  rw [rValid_eq n m hm]
  simp [hn, obind]
theorem rOrder_bad {n : S_api_Net} (hn : ¬ okNet n) (m : Nat) (hm : n.Arcs.length < m) : ref09_Order m n = some ⟨[], false, 1⟩ := by
  unfold ref09_Order
  rw [rValid_eq n m hm]
  simp [hn, obind]
theorem walks_true (n : S_api_Net) (u : Int) (hn : S_api_Net.wf n) (hu : wfI .i64 u) : ∃ m, law09_GraphWalksAsSpecified m n u = some true := by
  refine ⟨n.Arcs.length + 5000 + 40, ?_⟩
  have hs := sane (n.Arcs.length + 5000)
  unfold law09_GraphWalksAsSpecified
  generalize hm : n.Arcs.length + 5000 + 40 = m at *
  unfold law09_few
  simp only [obind, Option.bind_some, hs]
  by_cases hf : ((decide (n.Nodes ≤ 12) || decide (256 < n.Nodes)) && decide ((n.Arcs.length : Int) ≤ 60)) = true
  · rw [hf]
    simp only [Bool.not_true, cond_false]
    obtain ⟨met, r1, r2, r3⟩ := rReach_eq n u m (by omega)
    obtain ⟨E, hE⟩ : ∃ E : Int, (if okNet n ∧ 0 ≤ u ∧ u < n.Nodes then (0 : Int) else 1) = E := ⟨_, rfl⟩
    rw [hE] at r1 r2
    rw [r1, r2, Valid_eq n m (by omega), rValid_eq n m (by omega)]
    have hwl := walks_loop (a := met) (e := E) (by omega) m (by omega)
    by_cases hok : okNet n
    · have h00 := hok.1
      have hN := hok.2.1
      have hpl : ((reps n).map (cls n)).length ≤ 256 := by
        rw [List.length_map]
        have := List.length_filter_le (isrep n) (List.range n.Nodes.toNat)
        unfold reps
        simp at this ⊢; omega
      have hps : ∀ s ∈ (reps n).map (cls n), s.length ≤ 1000 := fun s hs => by
        obtain ⟨v, _, rfl⟩ := List.mem_map.1 hs
        unfold cls clsN
        have := List.length_filter_le (rb n v) (List.range n.Nodes.toNat)
        simp at this ⊢; omega
      have hss := SameSets_refl (by omega) hps m (by omega)
      obtain ⟨D, ho, hfree, hcase⟩ := Order_ok hok m (by omega)
      have hro := rOrder_ok hok ho hfree m (by omega)
      have hDl := ho.len hok
      rw [Parts_ok hok m (by omega), rParts_ok hok m (by omega), hro]
      rcases hcase with ⟨hD, hr⟩ | ⟨hD, cyc, vf, pf, v, k, hr, hc⟩
      · rw [hr, if_pos hD]
        simp only [Option.bind_some, beq_self_eq_true, Bool.not_true, hss]
        rw [Same_eq m (by omega) (by omega)]
        simp [hwl]
      · rw [hr, if_neg (by omega)]
        simp only [Option.bind_some, beq_self_eq_true, Bool.not_true, hss]
        rw [Same_eq m (by simp) (by simp; omega)]
        have hcw := cyc_walk hok hc m (by omega)
        simp [hwl, hcw]
    · have hss := SameSets_refl (a := []) (by simp) (by simp) m (by omega)
      rw [Parts_bad hok m (by omega), rParts_bad hok m (by omega), Order_bad hok m (by omega), rOrder_bad hok m (by omega)]
      simp only [Option.bind_some, beq_self_eq_true, Bool.not_true, hss]
      rw [Same_eq m (by simp) (by simp; omega)]
      simp [hwl]
  · have hf' : ((decide (n.Nodes ≤ 12) || decide (256 < n.Nodes)) && decide ((n.Arcs.length : Int) ≤ 60)) = false := by simpa using hf
    rw [hf']; simp
end Go.Proofs.Ytgelifcckhemiaa
