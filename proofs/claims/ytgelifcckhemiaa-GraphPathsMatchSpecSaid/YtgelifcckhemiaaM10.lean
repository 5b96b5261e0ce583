/-
  Texts that stand side by side: Pb, Pd, Pe, Pp, Pq, Pr, Py, Pz.
-/
import Derived.Test.YtgelifcckhemiaaM7
import Derived.Test.YtgelifcckhemiaaG4a
import Derived.Test.YtgelifcckhemiaaFe
import Derived.Test.YtgelifcckhemiaaG3a
namespace Go.Proofs.Ytgelifcckhemiaa
open Go.Abs
set_option linter.unusedSimpArgs false
set_option linter.unusedVariables false
theorem or_eq (x y : Int) (m : Nat) (hm : 3 ≤ m) : cmp_Or_int_65 m [x, y] = some (if x ≠ 0 then x else y) := by
  obtain ⟨m', rfl⟩ : ∃ m', m = m' + 3 := ⟨m - 3, by omega⟩
  unfold cmp_Or_int_65
  have i0 : ∀ {β : Type} (k : Int → Option β), idx [x, y] 0 k = k x := fun k => rfl
  have i1 : ∀ {β : Type} (k : Int → Option β), idx [x, y] 1 k = k y := fun k => rfl
  have s0 : cmp_Or_int_65_L1 [x, y] 0 = if x ≠ 0 then some (.stop (.stop x)) else some (.go 1) := by
    unfold cmp_Or_int_65_L1
    rw [show decide ((0 : Int) < (([x, y] : List Int).length : Int)) = true from rfl, cond_true, i0, w64 (by omega) (by omega)]
    by_cases hx : x = 0 <;> simp [hx]
  have s1 : cmp_Or_int_65_L1 [x, y] 1 = if y ≠ 0 then some (.stop (.stop y)) else some (.go 2) := by
    unfold cmp_Or_int_65_L1
    rw [show decide ((1 : Int) < (([x, y] : List Int).length : Int)) = true from rfl, cond_true, i1, w64 (by omega) (by omega)]
    by_cases hy : y = 0 <;> simp [hy]
  have s2 : cmp_Or_int_65_L1 [x, y] 2 = some (.stop (.go ())) := by unfold cmp_Or_int_65_L1; simp
  by_cases hx : x = 0
  · rw [if_neg (by simpa using hx)] at s0 ⊢
    rw [show m' + 3 = (m' + 2) + 1 by omega, iter_go s0]
    by_cases hy : y = 0
    · rw [if_neg (by simpa using hy)] at s1
      rw [show m' + 2 = (m' + 1) + 1 by omega, iter_go s1, iter_stop s2]
      simp [hy]
    · rw [if_pos hy] at s1
      rw [show m' + 2 = (m' + 1) + 1 by omega, iter_stop s1]
      simp
  · rw [if_pos hx] at s0 ⊢
    rw [show m' + 3 = (m' + 2) + 1 by omega, iter_stop s0]
    simp
theorem compare_eq (x y : Int) : cmp_Compare_int_66 x y = some (if x < y then -1 else if y < x then 1 else 0) := by
  unfold cmp_Compare_int_66 cmp_isNaN_int_71
  by_cases h1 : x < y
  · simp [obind, h1]
  · by_cases h2 : y < x <;> simp [obind, h1, h2]
theorem less_eq (a b : S_graph_reached) (m : Nat) (hm : 3 ≤ m) : weirgate_graph_reached_less_49 m a b = some (!b.is_ || decide (lt2 (a.sum_, a.arcs_) (b.sum_, b.arcs_))) := by
  unfold weirgate_graph_reached_less_49
  rw [compare_eq, compare_eq]
  simp only [obind, Option.bind_some]
  rw [or_eq _ _ m hm]
  simp only [Option.bind_some, lt2]
  cases b.is_ with
  | false => simp
  | true =>
    simp only [Bool.not_true, cond_false, bindJ_go, Bool.false_or]
    congr 1
    refine decide_eq_decide.2 ?_
    by_cases h1 : a.sum_ < b.sum_
    · simp [h1]
    · by_cases h2 : b.sum_ < a.sum_
      · rw [if_neg h1, if_pos h2]; simp; omega
      · rw [if_neg h1, if_neg h2]
        by_cases h3 : a.arcs_ < b.arcs_
        · simp [h3]; omega
        · by_cases h4 : b.arcs_ < a.arcs_ <;> simp [h3, h4] <;> omega
/-- the table that a row of what is reached stands for -/
def gp (b : List S_graph_reached) : Tab := fun w => if 0 ≤ w then (match b[w.toNat]? with | some x => if x.is_ = true then some (x.sum_, x.arcs_) else none | none => none) else none
theorem gp_el {b : List S_graph_reached} {w : Int} {x : S_graph_reached} (h0 : 0 ≤ w) (h : b[w.toNat]? = some x) : gp b w = if x.is_ = true then some (x.sum_, x.arcs_) else none := by
  unfold gp; rw [if_pos h0, h]
theorem gp_set {b : List S_graph_reached} {v : Int} (h0 : 0 ≤ v) (h : v.toNat < b.length) (x : Int × Int) (w : Int) : gp (b.set v.toNat ⟨true, x.1, x.2⟩) w = if w = v then some x else gp b w := by
  unfold gp
  by_cases hw : 0 ≤ w
  · rw [if_pos hw, if_pos hw]
    by_cases e : w = v
    · subst e
      rw [if_pos rfl, List.getElem?_set_self h]; rfl
    · rw [if_neg e, List.getElem?_set_ne (by omega)]
  · rw [if_neg hw, if_neg hw, if_neg (by omega)]
structure PI (n : S_api_Net) (u R T : Int) (b0 : List S_graph_reached) (i : Nat) (last : Int) (b : List S_graph_reached) (via : List Int) (r : Int → Int) : Prop where
  lb : (b.length : Int) = n.Nodes
  lv : (via.length : Int) = n.Nodes
  df : ∀ x ∈ b, x.is_ = false → x = ⟨false, 0, 0⟩
  snd : Snd n u (gp b)
  bnd : ∀ v x, gp b v = some x → x.2 ≤ T + i
  mono : ∀ v x, gp b0 v = some x → ∃ y, gp b v = some y ∧ ¬ lt2 x y
  cov : ∀ j a, j < i → n.Arcs[j]? = some a → ∀ x, gp b0 a.From = some x → ∃ y, gp b a.To = some y ∧ ¬ lt2 (ext x a) y
  same : last = -1 → b = b0
  vi : ∀ v, 0 ≤ v → v < n.Nodes → g via v.toNat = -1 ∨ ∃ (j : Nat) (a : S_api_Arc), g via v.toNat = j ∧ n.Arcs[j]? = some a ∧ a.To = v ∧ (∃ x y, gp b a.From = some x ∧ gp b v = some y ∧ ¬ lt2 y (ext x a)) ∧ r v ≤ r a.From + 1
  st : ∀ v, 0 ≤ v → v < n.Nodes → 0 ≤ r v ∧ r v ≤ R ∧ (1 ≤ r v → g via v.toNat ≠ -1)
  q1 : ∀ a ∈ n.Arcs, r a.From ≤ R - 2 → Rel (gp b) a
  q2 : ∀ j a, j < i → n.Arcs[j]? = some a → r a.From ≤ R - 1 → Rel (gp b) a
  lst : last = -1 ∨ (0 ≤ last ∧ last < n.Nodes ∧ r last = R)
  imp : last ≠ -1 → ∃ v y, gp b v = some y ∧ ∀ x, gp b0 v = some x → lt2 y x
theorem PI.keep {n : S_api_Net} {u R T : Int} {b0 b : List S_graph_reached} {i : Nat} {last : Int} {via : List Int} {r : Int → Int} (h : PI n u R T b0 i last b via r) {a : S_api_Arc} (ha : n.Arcs[i]? = some a) (hr : Rel (gp b) a) : PI n u R T b0 (i + 1) last b via r :=
  { h with
    bnd := fun v x hx => by have := h.bnd v x hx; omega
    cov := fun j a2 hj ha2 x hx => by
      by_cases e : j = i
      · subst e
        rw [ha] at ha2; cases ha2
        obtain ⟨y, h1, h2⟩ := h.mono _ _ hx
        obtain ⟨z, h3, h4⟩ := hr y h1
        exact ⟨z, h3, nlt_trans (ext_nlt a h2) h4⟩
      · exact h.cov j a2 (by omega) ha2 x hx
    q2 := fun j a2 hj ha2 hr2 => by
      by_cases e : j = i
      · subst e
        rw [ha] at ha2; cases ha2
        exact hr
      · exact h.q2 j a2 (by omega) ha2 hr2 }
theorem PI.upd {n : S_api_Net} (hn : okNet n) {u R T : Int} (hR : 1 ≤ R) {b0 b : List S_graph_reached} {i : Nat} {last : Int} {via : List Int} {r : Int → Int} (h : PI n u R T b0 i last b via r) {a : S_api_Arc} (ha : n.Arcs[i]? = some a) {x : Int × Int} (hx : gp b a.From = some x) (hb : ∀ y, gp b a.To = some y → lt2 (ext x a) y) :
    PI n u R T b0 (i + 1) a.To (b.set a.To.toNat ⟨true, (ext x a).1, (ext x a).2⟩) (via.set a.To.toNat (i : Int)) (fun w => if w = a.To then R else r w) := by
  have ham := List.mem_of_getElem? ha
  obtain ⟨f0, f1, t0, t1, _⟩ := hn.2.2.2 a ham
  have hlb := h.lb
  have hlv := h.lv
  have hset := gp_set (b := b) t0 (by omega) (ext x a)
  have dec : ∀ v y, gp b v = some y → ∃ z, gp (b.set a.To.toNat ⟨true, (ext x a).1, (ext x a).2⟩) v = some z ∧ ¬ lt2 y z := fun v y hy => by
    rw [hset]
    by_cases e : v = a.To
    · rw [if_pos e]; rw [e] at hy
      exact ⟨_, rfl, nlt_of_lt (hb y hy)⟩
    · rw [if_neg e]; exact ⟨y, hy, lt2_irr y⟩
  have relk : ∀ a2 : S_api_Arc, a2.From ≠ a.To → Rel (gp b) a2 → Rel (gp (b.set a.To.toNat ⟨true, (ext x a).1, (ext x a).2⟩)) a2 := fun a2 e hr y hy => by
    rw [hset, if_neg e] at hy
    obtain ⟨z, h1, h2⟩ := hr y hy
    obtain ⟨z', h3, h4⟩ := dec _ _ h1
    exact ⟨z', h3, nlt_trans h2 h4⟩
  refine ⟨by simpa using hlb, by simpa using hlv, fun y hy hf => ?_, fun v y hy => ?_, fun v y hy => ?_, fun v y hy => ?_, fun j a2 hj ha2 y hy => ?_, fun e => by omega, fun v v0 v1 => ?_, fun v v0 v1 => ?_, fun a2 ha2 hr2 => ?_, fun j a2 hj ha2 hr2 => ?_, .inr ⟨t0, t1, by simp⟩, fun _ => ?_⟩
  · rcases List.mem_or_eq_of_mem_set hy with h1 | h1
    · exact h.df y h1 hf
    · rw [h1] at hf; simp at hf
  · rw [hset] at hy
    by_cases e : v = a.To
    · rw [if_pos e] at hy; cases hy; rw [e]; exact snd_ext h.snd ham hx
    · rw [if_neg e] at hy; exact h.snd v y hy
  · rw [hset] at hy
    by_cases e : v = a.To
    · rw [if_pos e] at hy; cases hy
      have := h.bnd _ _ hx
      simp only [ext]; omega
    · rw [if_neg e] at hy; have := h.bnd v y hy; omega
  · obtain ⟨z, h1, h2⟩ := h.mono v y hy
    obtain ⟨z', h3, h4⟩ := dec v z h1
    exact ⟨z', h3, nlt_trans h2 h4⟩
  · by_cases e : j = i
    · subst e
      rw [ha] at ha2; cases ha2
      obtain ⟨z, h1, h2⟩ := h.mono _ _ hy
      rw [hx] at h1; cases h1
      exact ⟨ext x a, by rw [hset, if_pos rfl], ext_nlt a h2⟩
    · obtain ⟨z, h1, h2⟩ := h.cov j a2 (by omega) ha2 y hy
      obtain ⟨z', h3, h4⟩ := dec _ _ h1
      exact ⟨z', h3, nlt_trans h2 h4⟩
  · by_cases e : v = a.To
    · right
      refine ⟨i, a, by rw [e, g_set (by omega), if_pos rfl], ha, e.symm, ?_, ?_⟩
      · by_cases e2 : a.From = a.To
        · refine ⟨ext x a, ext x a, by rw [hset, if_pos e2], by rw [hset, if_pos e], nlt_of_lt (ext_lt a (hb x (by rw [← e2]; exact hx)))⟩
        · exact ⟨x, ext x a, by rw [hset, if_neg e2]; exact hx, by rw [hset, if_pos e], lt2_irr _⟩
      · simp only [if_pos e]
        by_cases e2 : a.From = a.To
        · rw [if_pos e2]; omega
        · rw [if_neg e2]
          refine Classical.byContradiction fun hc => ?_
          obtain ⟨y, h1, h2⟩ := h.q1 a ham (by omega) x hx
          exact h2 (hb y h1)
    · have hg : g (via.set a.To.toNat (i : Int)) v.toNat = g via v.toNat := by rw [g_set (by omega), if_neg (by omega)]
      rw [hg]
      rcases h.vi v v0 v1 with h1 | ⟨j, a2, h1, h2, h3, ⟨x2, y2, h4, h5, h6⟩, h7⟩
      · exact .inl h1
      · right
        obtain ⟨z, h8, h9⟩ := dec _ _ h4
        refine ⟨j, a2, h1, h2, h3, ⟨z, y2, h8, by rw [hset, if_neg e]; exact h5, nlt_trans h6 (ext_nlt a2 h9)⟩, ?_⟩
        simp only [if_neg e]
        have hin := hn.2.2.2 a2 (List.mem_of_getElem? h2)
        have := (h.st a2.From hin.1 hin.2.1).2.1
        split <;> omega
  · by_cases e : v = a.To
    · simp only [if_pos e]
      refine ⟨by omega, by omega, fun _ => ?_⟩
      rw [e, g_set (by omega), if_pos rfl]; omega
    · have hg : g (via.set a.To.toNat (i : Int)) v.toNat = g via v.toNat := by rw [g_set (by omega), if_neg (by omega)]
      simp only [if_neg e]
      rw [hg]; exact h.st v v0 v1
  · by_cases e : a2.From = a.To
    · rw [if_pos e] at hr2; omega
    · rw [if_neg e] at hr2
      exact relk a2 e (h.q1 a2 ha2 hr2)
  · by_cases e : a2.From = a.To
    · rw [if_pos e] at hr2; omega
    · rw [if_neg e] at hr2
      by_cases ej : j = i
      · subst ej
        rw [ha] at ha2; cases ha2
        intro y hy
        rw [hset, if_neg e, hx] at hy
        cases hy
        exact ⟨ext x a, by rw [hset, if_pos rfl], lt2_irr _⟩
      · exact relk a2 e (h.q2 j a2 (by omega) ha2 hr2)
  · refine ⟨a.To, ext x a, by rw [hset, if_pos rfl], fun y hy => ?_⟩
    obtain ⟨z, h1, h2⟩ := h.mono _ _ hy
    have := hb z h1
    exact Classical.byContradiction fun hc => by unfold lt2 at *; omega
end Go.Proofs.Ytgelifcckhemiaa
namespace Go.Proofs.Ytgelifcckhemiaa
open Go.Abs
set_option linter.unusedSimpArgs false
set_option linter.unusedVariables false
theorem PI.bounds {n : S_api_Net} (hn : okNet n) {u R T : Int} {b0 b : List S_graph_reached} {i : Nat} {last : Int} {via : List Int} {r : Int → Int} (h : PI n u R T b0 i last b via r) (hT : T + i ≤ 1000000) {v : Int} {x : Int × Int} (hx : gp b v = some x) : 0 ≤ x.2 ∧ x.2 ≤ 1000000 ∧ -1048576000000 ≤ x.1 ∧ x.1 ≤ 1048576000000 := by
  obtain ⟨k, h1, h2⟩ := h.snd v x hx
  have h3 := h.bnd v x hx
  have h4 := wk_sum hn h2
  omega
theorem round_in {n : S_api_Net} (hn : okNet n) {u R T : Int} (hR : 1 ≤ R) (hT : T ≤ 900000) {b : List S_graph_reached} {via : List Int} {r : Int → Int} (h : PI n u R T b 0 (-1) b via r) (m : Nat) (hm : 3000 ≤ m) :
    ∃ last' b' via' r', iter (graph_Paths_L2 m n) m (-1, 0, b, via) = some (.go (last', b', via')) ∧ PI n u R T b n.Arcs.length last' b' via' r' := by
  have hA := hn.2.2.1
  have key := iter_inv (step := graph_Paths_L2 m n) (fun s => ∃ (i : Nat) (r : Int → Int), s.2.1 = (i : Int) ∧ i ≤ n.Arcs.length ∧ PI n u R T b i s.1 s.2.2.1 s.2.2.2 r) (fun s => n.Arcs.length - s.2.1.toNat)
    (fun q => ∃ last' b' via' r', q = .go (last', b', via') ∧ PI n u R T b n.Arcs.length last' b' via' r') (by
      rintro ⟨last, i', c, vi⟩ ⟨i, r, he, hi, hp⟩
      simp only at he hp
      subst he
      unfold graph_Paths_L2
      by_cases hlt : i < n.Arcs.length
      · left
        have e : decide ((i : Int) < (n.Arcs.length : Int)) = true := by simpa using hlt
        simp only [e, cond_true]
        have ha := List.getElem?_eq_getElem hlt
        obtain ⟨f0, f1, t0, t1, c0, c1⟩ := hn.2.2.2 _ (List.getElem_mem hlt)
        generalize n.Arcs[i] = a at *
        have hlc := hp.lb
        have hlv := hp.lv
        rw [idx_get ha, idx_int f0 (by omega)]
        have hF := gp_el f0 (List.getElem?_eq_getElem (show a.From.toNat < c.length by omega))
        have hTo := gp_el t0 (List.getElem?_eq_getElem (show a.To.toNat < c.length by omega))
        have hw : IntKind.i64.wrap ((i : Int) + 1) = ((i + 1 : Nat) : Int) := by rw [w64 (by omega) (by omega)]; simp
        cases hfi : (c[a.From.toNat]'(by omega)).is_ with
        | false =>
          rw [hfi] at hF
          simp only [cond_false, bindJ_go, hw]
          exact ⟨_, rfl, ⟨i + 1, r, rfl, by omega, hp.keep ha (fun x hx => by rw [hF] at hx; simp at hx)⟩, by simp only; omega⟩
        | true =>
          rw [hfi, if_pos rfl] at hF
          obtain ⟨k0, k1, k2, k3⟩ := hp.bounds hn (by omega) hF
          simp only at k0 k1 k2 k3
          simp only [cond_true]
          rw [idx_int t0 (by omega), w64 (by omega) (by omega), w64 (by omega) (by omega), less_eq _ _ m (by omega)]
          simp only [obind, Option.bind_some]
          have hext : ext ((c[a.From.toNat]'(by omega)).sum_, (c[a.From.toNat]'(by omega)).arcs_) a = ((c[a.From.toNat]'(by omega)).sum_ + a.Cost, (c[a.From.toNat]'(by omega)).arcs_ + 1) := rfl
          rw [← hext]
          cases hb : (!(c[a.To.toNat]'(by omega)).is_ || decide (lt2 (ext ((c[a.From.toNat]'(by omega)).sum_, (c[a.From.toNat]'(by omega)).arcs_) a) ((c[a.To.toNat]'(by omega)).sum_, (c[a.To.toNat]'(by omega)).arcs_))) with
          | false =>
            simp only [cond_false, bindJ_go, hw]
            simp only [Bool.or_eq_false_iff, Bool.not_eq_false', decide_eq_false_iff_not] at hb
            rw [hb.1, if_pos rfl] at hTo
            exact ⟨_, rfl, ⟨i + 1, r, rfl, by omega, hp.keep ha (fun x hx => by rw [hF] at hx; cases hx; exact ⟨_, hTo, hb.2⟩)⟩, by simp only; omega⟩
          | true =>
            simp only [cond_true]
            rw [idx_int t0 (by omega)]
            simp only [bindJ_go, hw]
            simp only [Bool.or_eq_true, Bool.not_eq_true', decide_eq_true_eq] at hb
            refine ⟨_, rfl, ⟨i + 1, _, rfl, by omega, hp.upd hn hR ha hF (fun y hy => ?_)⟩, by simp only; omega⟩
            rw [hTo] at hy
            rcases hb with hb | hb
            · rw [hb] at hy; simp at hy
            · split at hy
              · cases hy; exact hb
              · simp at hy
      · right
        have e : decide ((i : Int) < (n.Arcs.length : Int)) = false := by simpa using hlt
        simp only [e, cond_false]
        have : i = n.Arcs.length := by omega
        exact ⟨_, rfl, last, c, vi, r, rfl, by rw [← this]; exact hp⟩) m (-1, 0, b, via) ⟨0, r, rfl, Nat.zero_le _, h⟩ (by simp; omega)
  obtain ⟨q, h1, l, b', v', r', rfl, h2⟩ := key
  exact ⟨l, b', v', r', h1, h2⟩
theorem PI.next {n : S_api_Net} {u R T : Int} {b0 b : List S_graph_reached} {last : Int} {via : List Int} {r : Int → Int} (h : PI n u R T b0 n.Arcs.length last b via r) : PI n u (R + 1) (T + n.Arcs.length) b 0 (-1) b via r where
  lb := h.lb
  lv := h.lv
  df := h.df
  snd := h.snd
  bnd := fun v x hx => by have := h.bnd v x hx; omega
  mono := fun v x hx => ⟨x, hx, lt2_irr x⟩
  cov := fun j a hj => by omega
  same := fun _ => rfl
  vi := h.vi
  st := fun v h0 h1 => by have := h.st v h0 h1; exact ⟨this.1, by omega, this.2.2⟩
  q1 := fun a ha hr => by
    obtain ⟨j, hj, rfl⟩ := List.getElem_of_mem ha
    exact h.q2 j _ hj (List.getElem?_eq_getElem hj) (by omega)
  q2 := fun j a hj => by omega
  lst := .inl rfl
  imp := fun e => absurd rfl e
theorem PI.cover {n : S_api_Net} {u R T : Int} {b0 b : List S_graph_reached} {last : Int} {via : List Int} {r : Int → Int} (h : PI n u R T b0 n.Arcs.length last b via r) {j : Nat} (hc : Cov n u j (gp b0)) : Cov n u (j + 1) (gp b) := by
  intro k v s hk hw
  cases hw with
  | nil =>
    obtain ⟨x, h1, h2⟩ := hc 0 u 0 (Nat.zero_le _) .nil
    obtain ⟨y, h3, h4⟩ := h.mono _ _ h1
    exact ⟨y, h3, nlt_trans h2 h4⟩
  | @snoc k s a hw ha =>
    obtain ⟨x, h1, h2⟩ := hc k _ _ (by omega) hw
    obtain ⟨i, hi, rfl⟩ := List.getElem_of_mem ha
    obtain ⟨y, h3, h4⟩ := h.cov i _ hi (List.getElem?_eq_getElem hi) x h1
    refine ⟨y, h3, nlt_trans ?_ h4⟩
    have := ext_nlt n.Arcs[i] h2
    simpa [ext] using this
/-- what is left when a round has changed nothing -/
theorem PI.done {n : S_api_Net} {u R T : Int} {b0 b : List S_graph_reached} {last : Int} {via : List Int} {r : Int → Int} (h : PI n u R T b0 n.Arcs.length last b via r) (hl : last = -1) {j : Nat} (hc : Cov n u j (gp b0)) : Opt n u (gp b) := by
  have e := h.same hl
  refine opt_fix h.snd ?_ (fun a ha x hx => ?_)
  · obtain ⟨x, h1, h2⟩ := hc 0 u 0 (Nat.zero_le _) .nil
    rw [e]; exact ⟨x, h1, h2⟩
  · obtain ⟨i, hi, rfl⟩ := List.getElem_of_mem ha
    exact h.cov i _ hi (List.getElem?_eq_getElem hi) x (by rw [← e]; exact hx)
/-- where there are least walks, they change nothing -/
theorem PI.rest {n : S_api_Net} {u R T : Int} {b0 b : List S_graph_reached} {i : Nat} {last : Int} {via : List Int} {r : Int → Int} (h : PI n u R T b0 i last b via r) (ho : Opt n u (gp b0)) : last = -1 := by
  refine Classical.byContradiction fun hc => ?_
  obtain ⟨v, y, h1, h2⟩ := h.imp hc
  obtain ⟨k, h3, h4⟩ := h.snd v y h1
  obtain ⟨x, h5, h6⟩ := ho.cov k v _ h4
  rw [← h3] at h6
  exact h6 (h2 x h5)
/-- the state before the first round -/
def b_0 (n : S_api_Net) (u : Int) : List S_graph_reached := (List.replicate n.Nodes.toNat ⟨false, 0, 0⟩).set u.toNat ⟨true, 0, 0⟩
theorem gp_0 {n : S_api_Net} {u : Int} (h0 : 0 ≤ u) (h1 : u < n.Nodes) (w : Int) : gp (b_0 n u) w = if w = u then some (0, 0) else none := by
  have := gp_set (b := List.replicate n.Nodes.toNat ⟨false, 0, 0⟩) h0 (by simp; omega) (0, 0) w
  unfold b_0
  rw [this]
  by_cases e : w = u
  · rw [if_pos e, if_pos e]
  · rw [if_neg e, if_neg e]
    unfold gp
    by_cases hw : 0 ≤ w
    · rw [if_pos hw]
      by_cases h : w.toNat < n.Nodes.toNat
      · simp [h]
      · simp [h]
    · rw [if_neg hw]
theorem start_pi {n : S_api_Net} {u : Int} (h0 : 0 ≤ u) (h1 : u < n.Nodes) : PI n u 1 0 (b_0 n u) 0 (-1) (b_0 n u) (List.replicate n.Nodes.toNat (-1)) (fun _ => 0) where
  lb := by simp [b_0]; omega
  lv := by simp; omega
  df := fun x hx hf => by
    rcases List.mem_or_eq_of_mem_set hx with h | h
    · exact (List.mem_replicate.1 h).2
    · rw [h] at hf; simp at hf
  snd := fun v x hx => by
    rw [gp_0 h0 h1] at hx
    by_cases e : v = u
    · rw [if_pos e] at hx; cases hx; rw [e]; exact ⟨0, rfl, .nil⟩
    · rw [if_neg e] at hx; simp at hx
  bnd := fun v x hx => by
    rw [gp_0 h0 h1] at hx
    by_cases e : v = u
    · rw [if_pos e] at hx; cases hx; simp
    · rw [if_neg e] at hx; simp at hx
  mono := fun v x hx => ⟨x, hx, lt2_irr x⟩
  cov := fun j a hj => by omega
  same := fun _ => rfl
  vi := fun v v0 v1 => .inl (by unfold g; rw [List.getD, List.getElem?_replicate, if_pos (by omega)]; rfl)
  st := fun v v0 v1 => ⟨by omega, by omega, fun h => by omega⟩
  q1 := fun a ha h => by omega
  q2 := fun j a hj => by omega
  lst := .inl rfl
  imp := fun e => absurd rfl e
theorem start_cov {n : S_api_Net} {u : Int} (h0 : 0 ≤ u) (h1 : u < n.Nodes) : Cov n u 0 (gp (b_0 n u)) := by
  intro k v s hk hw
  cases hw with
  | nil => exact ⟨(0, 0), by rw [gp_0 h0 h1, if_pos rfl], by simp [lt2]⟩
  | snoc => omega
/-- all the rounds: the least walks, or at last a node that is changed once more than there are nodes -/
theorem rounds_eq {n : S_api_Net} (hn : okNet n) {u : Int} (h0 : 0 ≤ u) (h1 : u < n.Nodes) (m : Nat) (hm : 3000 ≤ m) :
    (∃ b, iter (graph_Paths_L1 m n) m (0, b_0 n u, List.replicate n.Nodes.toNat (-1)) = some (.go b) ∧ Opt n u (gp b) ∧ (b.length : Int) = n.Nodes ∧ ∀ x ∈ b, x.is_ = false → x = ⟨false, 0, 0⟩) ∨
    ((∀ f, ¬ Opt n u f) ∧ ∃ last b via r T b0, PI n u (n.Nodes + 1) T b0 n.Arcs.length last b via r ∧ 0 ≤ last ∧ last < n.Nodes ∧ r last = n.Nodes + 1 ∧
      ∀ cyc, graph_around m n via last = some cyc → iter (graph_Paths_L1 m n) m (0, b_0 n u, List.replicate n.Nodes.toNat (-1)) = some (.stop (⟨[], [], cyc⟩, 0))) := by
  have hA := hn.2.2.1
  have hN := hn.2.1
  have key : ∀ (f n' k : Nat) (b : List S_graph_reached) (via : List Int) (r : Int → Int), k + f = n.Nodes.toNat + 1 → f ≠ 0 → f < n' → PI n u ((k : Int) + 1) (k * n.Arcs.length : Nat) b 0 (-1) b via r → Cov n u k (gp b) →
      (∃ b', iter (graph_Paths_L1 m n) n' ((k : Int), b, via) = some (.go b') ∧ Opt n u (gp b') ∧ (b'.length : Int) = n.Nodes ∧ ∀ x ∈ b', x.is_ = false → x = ⟨false, 0, 0⟩) ∨
      ((∀ f, ¬ Opt n u f) ∧ ∃ last b' via' r' T b0, PI n u (n.Nodes + 1) T b0 n.Arcs.length last b' via' r' ∧ 0 ≤ last ∧ last < n.Nodes ∧ r' last = n.Nodes + 1 ∧
      ∀ cyc, graph_around m n via' last = some cyc → iter (graph_Paths_L1 m n) n' ((k : Int), b, via) = some (.stop (⟨[], [], cyc⟩, 0))) := by
    intro f
    induction f with
    | zero => intro n' k b via r _ h; exact absurd rfl h
    | succ f ih =>
      intro n' k b via r hk _ hn' hp hc
      obtain ⟨n', rfl⟩ : ∃ q, n' = q + 1 := ⟨n' - 1, by omega⟩
      have hkl : k * n.Arcs.length ≤ 256 * 2048 := Nat.mul_le_mul (by omega) hA
      obtain ⟨last, b', via', r', e1, hp'⟩ := round_in hn (by omega) (by omega) hp m hm
      have hc' := hp'.cover hc
      rcases hp'.lst with hl | ⟨l0, l1, l2⟩
      · left
        refine ⟨b', ?_, hp'.done hl hc, hp'.lb, hp'.df⟩
        rw [iter_stop (r := .go b')]
        unfold graph_Paths_L1
        simp only [e1, bindJ_go, hl]
        rfl
      · have hd : decide (last < 0) = false := by simp; omega
        by_cases hkN : n.Nodes ≤ (k : Int)
        · right
          have hkE : (k : Int) = n.Nodes := by omega
          refine ⟨fun ff hf => ?_, last, b', via', r', _, b, by rw [← hkE]; exact hp', l0, l1, by rw [l2, hkE], fun cyc hcy => ?_⟩
          · have := hp'.rest (opt_of_eq hf (cov_opt hn h0 h1 hf hp.snd (by omega) hc))
            omega
          · rw [iter_stop (r := .stop (⟨[], [], cyc⟩, 0))]
            unfold graph_Paths_L1
            have e : decide (n.Nodes ≤ (k : Int)) = true := by simpa using hkN
            simp only [e1, bindJ_go, hd, cond_false, e, cond_true, hcy, obind, Option.bind_some]
        · have hst : graph_Paths_L1 m n ((k : Int), b, via) = some (.go (((k + 1 : Nat) : Int), b', via')) := by
            unfold graph_Paths_L1
            have e : decide (n.Nodes ≤ (k : Int)) = false := by simpa using hkN
            simp only [e1, bindJ_go, hd, cond_false, e]
            rw [w64 (by omega) (by omega)]; simp
          have hp2 := hp'.next
          have eT : (((k * n.Arcs.length : Nat) : Int) + (n.Arcs.length : Int)) = (((k + 1) * n.Arcs.length : Nat) : Int) := by rw [Nat.add_mul, Nat.one_mul]; simp
          rw [eT] at hp2
          rw [iter_go hst]
          exact ih n' (k + 1) b' via' r' (by omega) (by omega) (by omega) (by rw [show ((k + 1 : Nat) : Int) + 1 = (k : Int) + 1 + 1 by simp]; exact hp2) hc'
  exact key (n.Nodes.toNat + 1) m 0 _ _ (fun _ => 0) (by omega) (by omega) (by omega) (by simpa using start_pi h0 h1) (start_cov h0 h1)
end Go.Proofs.Ytgelifcckhemiaa
namespace Go.Proofs.Ytgelifcckhemiaa
open Go.Abs
set_option linter.unusedSimpArgs false
set_option linter.unusedVariables false
def rc (x : S_ref09_Step) : S_graph_reached := ⟨x.Is, x.Sum, x.Arcs⟩
def gq (l : List S_ref09_Step) : Tab := gp (l.map rc)
theorem gq_el {b : List S_ref09_Step} {w : Int} {x : S_ref09_Step} (h0 : 0 ≤ w) (h : b[w.toNat]? = some x) : gq b w = if x.Is = true then some (x.Sum, x.Arcs) else none := by
  unfold gq; rw [gp_el h0 (x := rc x) (by rw [List.getElem?_map, h]; rfl)]; rfl
theorem gq_set {b : List S_ref09_Step} {v : Int} (h0 : 0 ≤ v) (h : v.toNat < b.length) (x : Int × Int) (w : Int) : gq (b.set v.toNat ⟨true, x.1, x.2⟩) w = if w = v then some x else gq b w := by
  unfold gq
  rw [List.map_set]
  exact gp_set h0 (by simpa using h) x w
structure RI (n : S_api_Net) (u T : Int) (l : List S_ref09_Step) (i : Nat) (changed : Bool) (x : List S_ref09_Step) : Prop where
  lx : (x.length : Int) = n.Nodes
  df : ∀ y ∈ x, y.Is = false → y = ⟨false, 0, 0⟩
  snd : Snd n u (gq x)
  bnd : ∀ v y, gq x v = some y → y.2 ≤ T + 1
  mono : ∀ v y, gq l v = some y → ∃ z, gq x v = some z ∧ ¬ lt2 y z
  cov : ∀ j a, j < i → n.Arcs[j]? = some a → ∀ y, gq l a.From = some y → ∃ z, gq x a.To = some z ∧ ¬ lt2 (ext y a) z
  same : changed = false → x = l
  imp : changed = true → ∃ v y, gq x v = some y ∧ ∀ z, gq l v = some z → lt2 y z
structure LI (n : S_api_Net) (u T : Int) (l : List S_ref09_Step) : Prop where
  lx : (l.length : Int) = n.Nodes
  df : ∀ y ∈ l, y.Is = false → y = ⟨false, 0, 0⟩
  snd : Snd n u (gq l)
  bnd : ∀ v y, gq l v = some y → y.2 ≤ T
theorem RI.li {n : S_api_Net} {u T : Int} {l x : List S_ref09_Step} {i : Nat} {c : Bool} (h : RI n u T l i c x) : LI n u (T + 1) x := ⟨h.lx, h.df, h.snd, h.bnd⟩
theorem relaxed_eq {n : S_api_Net} (hn : okNet n) {u T : Int} (hT : T ≤ 900000) {l : List S_ref09_Step} (hl : LI n u T l) (m : Nat) (hm : 3000 ≤ m) : ∃ x c, ref09_relaxed m n l = some (x, c) ∧ RI n u T l n.Arcs.length c x := by
  have hA := hn.2.2.1
  have hN := hn.2.1
  have hlx := hl.lx
  have key := iter_inv (step := ref09_relaxed_L1 n l) (fun s => ∃ i : Nat, s.2.1 = (i : Int) ∧ i ≤ n.Arcs.length ∧ RI n u T l i s.1 s.2.2) (fun s => n.Arcs.length - s.2.1.toNat)
    (fun q => ∃ x c, q = .go (c, x) ∧ RI n u T l n.Arcs.length c x) (by
      rintro ⟨c, i', x⟩ ⟨i, he, hi, hp⟩
      simp only at he hp
      subst he
      unfold ref09_relaxed_L1
      by_cases hlt : i < n.Arcs.length
      · left
        have e : decide ((i : Int) < (n.Arcs.length : Int)) = true := by simpa using hlt
        simp only [e, cond_true]
        have ha := List.getElem?_eq_getElem hlt
        have ham := List.getElem_mem hlt
        obtain ⟨f0, f1, t0, t1, c0, c1⟩ := hn.2.2.2 _ ham
        generalize n.Arcs[i] = a at *
        have hpx := hp.lx
        rw [idx_get ha, idx_int f0 (by omega), idx_int t0 (by omega)]
        have hF := gq_el f0 (List.getElem?_eq_getElem (show a.From.toNat < l.length by omega))
        have hTo := gq_el t0 (List.getElem?_eq_getElem (show a.To.toNat < x.length by omega))
        have hw : IntKind.i64.wrap ((i : Int) + 1) = ((i + 1 : Nat) : Int) := by rw [w64 (by omega) (by omega)]; simp
        unfold ref09_better
        simp only [obind, Option.bind_some]
        have keep : ∀ (hr : ∀ y, gq l a.From = some y → ∃ z, gq x a.To = some z ∧ ¬ lt2 (ext y a) z), RI n u T l (i + 1) c x := fun hr => { hp with
          cov := fun j a2 hj ha2 => by
            by_cases ej : j = i
            · subst ej
              rw [ha] at ha2; cases ha2; exact hr
            · exact hp.cov j a2 (by omega) ha2 }
        cases hfi : (l[a.From.toNat]'(by omega)).Is with
        | false =>
          rw [hfi] at hF
          simp only [Bool.false_and, cond_false, bindJ_go, hw]
          exact ⟨_, rfl, ⟨i + 1, rfl, by omega, keep (fun y hy => by rw [hF] at hy; simp at hy)⟩, by simp only; omega⟩
        | true =>
          rw [hfi, if_pos rfl] at hF
          obtain ⟨k, h1, h2⟩ := hl.snd _ _ hF
          have h3 := hl.bnd _ _ hF
          have h4 := wk_sum hn h2
          simp only at h1 h3 h4
          rw [w64 (by omega) (by omega), w64 (by omega) (by omega)]
          simp only [Bool.true_and]
          have hext : ext ((l[a.From.toNat]'(by omega)).Sum, (l[a.From.toNat]'(by omega)).Arcs) a = ((l[a.From.toNat]'(by omega)).Sum + a.Cost, (l[a.From.toNat]'(by omega)).Arcs + 1) := rfl
          generalize hX : (l[a.From.toNat]'(by omega)).Sum = X at *
          generalize hY : (l[a.From.toNat]'(by omega)).Arcs = Y at *
          cases hb : ((!(x[a.To.toNat]'(by omega)).Is || decide (X + a.Cost < (x[a.To.toNat]'(by omega)).Sum)) || (decide (X + a.Cost = (x[a.To.toNat]'(by omega)).Sum) && decide (Y + 1 < (x[a.To.toNat]'(by omega)).Arcs))) with
          | false =>
            simp only [cond_false, bindJ_go, hw]
            simp only [Bool.or_eq_false_iff, Bool.not_eq_false', Bool.and_eq_false_iff, decide_eq_false_iff_not] at hb
            rw [hb.1.1, if_pos rfl] at hTo
            exact ⟨_, rfl, ⟨i + 1, rfl, by omega, keep (fun y hy => by rw [hF] at hy; cases hy; exact ⟨_, hTo, by unfold lt2; simp only [ext]; omega⟩)⟩, by simp only; omega⟩
          | true =>
            simp only [cond_true, bindJ_go, hw]
            have hbet : ∀ y, gq x a.To = some y → lt2 (ext (X, Y) a) y := fun y hy => by
              rw [hTo] at hy
              simp only [Bool.or_eq_true, Bool.not_eq_true', Bool.and_eq_true, decide_eq_true_eq] at hb
              split at hy
              · rename_i hh
                cases hy
                unfold lt2; simp only [ext]
                rw [hh] at hb
                simp at hb; omega
              · simp at hy
            have hset := gq_set (b := x) t0 (by omega) (ext (X, Y) a)
            have dec : ∀ v y, gq x v = some y → ∃ z, gq (x.set a.To.toNat ⟨true, (ext (X, Y) a).1, (ext (X, Y) a).2⟩) v = some z ∧ ¬ lt2 y z := fun v y hy => by
              rw [hset]
              by_cases e : v = a.To
              · rw [if_pos e]; rw [e] at hy
                exact ⟨_, rfl, nlt_of_lt (hbet y hy)⟩
              · rw [if_neg e]; exact ⟨y, hy, lt2_irr y⟩
            refine ⟨_, rfl, ⟨i + 1, rfl, by omega, ?_⟩, by simp only; omega⟩
            show RI n u T l (i + 1) true (x.set a.To.toNat ⟨true, (ext (X, Y) a).1, (ext (X, Y) a).2⟩)
            refine ⟨by simpa using hpx, fun y hy hf => ?_, fun v y hy => ?_, fun v y hy => ?_, fun v y hy => ?_, fun j a2 hj ha2 y hy => ?_, fun e => by simp at e, fun _ => ?_⟩
            · rcases List.mem_or_eq_of_mem_set hy with q | q
              · exact hp.df y q hf
              · rw [q] at hf; simp at hf
            · rw [hset] at hy
              by_cases e : v = a.To
              · rw [if_pos e] at hy; cases hy; rw [e]; exact snd_ext hl.snd ham hF
              · rw [if_neg e] at hy; exact hp.snd v y hy
            · rw [hset] at hy
              by_cases e : v = a.To
              · rw [if_pos e] at hy; cases hy
                simp only [ext]; omega
              · rw [if_neg e] at hy; exact hp.bnd v y hy
            · obtain ⟨z, g1, g2⟩ := hp.mono v y hy
              obtain ⟨z', g3, g4⟩ := dec v z g1
              exact ⟨z', g3, nlt_trans g2 g4⟩
            · by_cases ej : j = i
              · subst ej
                rw [ha] at ha2; cases ha2
                rw [hF] at hy; cases hy
                exact ⟨_, by rw [hset, if_pos rfl], lt2_irr _⟩
              · obtain ⟨z, g1, g2⟩ := hp.cov j a2 (by omega) ha2 y hy
                obtain ⟨z', g3, g4⟩ := dec _ _ g1
                exact ⟨z', g3, nlt_trans g2 g4⟩
            · refine ⟨a.To, ext (X, Y) a, by rw [hset, if_pos rfl], fun y hy => ?_⟩
              obtain ⟨z, g1, g2⟩ := hp.mono _ _ hy
              have := hbet z g1
              exact Classical.byContradiction fun hc => by unfold lt2 at *; omega
      · right
        have e : decide ((i : Int) < (n.Arcs.length : Int)) = false := by simpa using hlt
        simp only [e, cond_false]
        have : i = n.Arcs.length := by omega
        exact ⟨_, rfl, x, c, rfl, by rw [← this]; exact hp⟩) m (false, 0, l) ⟨0, rfl, Nat.zero_le _, ⟨hl.lx, hl.df, hl.snd, fun v y hy => by have := hl.bnd v y hy; omega, fun v y hy => ⟨y, hy, lt2_irr y⟩, fun j a hj => by omega, fun _ => rfl, fun e => by simp at e⟩⟩ (by simp; omega)
  obtain ⟨q, h1, x, c, rfl, h2⟩ := key
  refine ⟨x, c, ?_, h2⟩
  unfold ref09_relaxed
  rw [need_pos (by simp; omega), List.nil_append, h1]
  rfl
def l_0 (n : S_api_Net) (u : Int) : List S_ref09_Step := (List.replicate n.Nodes.toNat ⟨false, 0, 0⟩).set u.toNat ⟨true, 0, 0⟩
theorem l_b {n : S_api_Net} {u : Int} : (l_0 n u).map rc = b_0 n u := by unfold l_0 b_0; rw [List.map_set, List.map_replicate]; rfl
theorem RI.cover {n : S_api_Net} {u T : Int} {l x : List S_ref09_Step} {c : Bool} (h : RI n u T l n.Arcs.length c x) {j : Nat} (hc : Cov n u j (gq l)) : Cov n u (j + 1) (gq x) := by
  intro k v s hk hw
  cases hw with
  | nil =>
    obtain ⟨x, h1, h2⟩ := hc 0 u 0 (Nat.zero_le _) .nil
    obtain ⟨y, h3, h4⟩ := h.mono _ _ h1
    exact ⟨y, h3, nlt_trans h2 h4⟩
  | @snoc k s a hw ha =>
    obtain ⟨x, h1, h2⟩ := hc k _ _ (by omega) hw
    obtain ⟨i, hi, rfl⟩ := List.getElem_of_mem ha
    obtain ⟨y, h3, h4⟩ := h.cov i _ hi (List.getElem?_eq_getElem hi) x h1
    refine ⟨y, h3, nlt_trans ?_ h4⟩
    have := ext_nlt n.Arcs[i] h2
    simpa [ext] using this
theorem rrounds_eq {n : S_api_Net} (hn : okNet n) {u : Int} (h0 : 0 ≤ u) (h1 : u < n.Nodes) (m : Nat) (hm : 3000 ≤ m) :
    (∃ l, iter (ref09_Paths_L1 m n) m (l_0 n u, true, 0) = some (.go (l, false)) ∧ Opt n u (gq l) ∧ LI n u 900000 l) ∨
    ((∀ f, ¬ Opt n u f) ∧ ∃ l, iter (ref09_Paths_L1 m n) m (l_0 n u, true, 0) = some (.go (l, true))) := by
  have hN := hn.2.1
  have key : ∀ (f n' k : Nat) (l : List S_ref09_Step), k + f = n.Nodes.toNat → f + 1 < n' → LI n u k l → Cov n u k (gq l) → (f = 0 → ∀ f, ¬ Opt n u f) →
      (∃ l', iter (ref09_Paths_L1 m n) n' (l, true, (k : Int)) = some (.go (l', false)) ∧ Opt n u (gq l') ∧ LI n u 900000 l') ∨
      ((∀ f, ¬ Opt n u f) ∧ ∃ l', iter (ref09_Paths_L1 m n) n' (l, true, (k : Int)) = some (.go (l', true))) := by
    intro f
    induction f with
    | zero =>
      intro n' k l hk hn' hl hc hno
      obtain ⟨n', rfl⟩ : ∃ q, n' = q + 1 := ⟨n' - 1, by omega⟩
      right
      refine ⟨hno rfl, l, ?_⟩
      rw [iter_stop (r := .go (l, true))]
      unfold ref09_Paths_L1
      have e : decide ((k : Int) < n.Nodes) = false := by simp; omega
      simp only [e, Bool.false_and, cond_false]
    | succ f ih =>
      intro n' k l hk hn' hl hc _
      obtain ⟨n', rfl⟩ : ∃ q, n' = q + 2 := ⟨n' - 2, by omega⟩
      obtain ⟨x, c, e1, hr⟩ := relaxed_eq hn (by omega) hl m hm
      have hc' := hr.cover hc
      have hli := hr.li
      have hst : ref09_Paths_L1 m n (l, true, (k : Int)) = some (.go (x, c, ((k + 1 : Nat) : Int))) := by
        unfold ref09_Paths_L1
        have e : decide ((k : Int) < n.Nodes) = true := by simp; omega
        simp only [e, Bool.true_and, cond_true, e1, obind, Option.bind_some]
        rw [w64 (by omega) (by omega)]; simp
      rw [show n' + 2 = (n' + 1) + 1 by omega, iter_go hst]
      cases c with
      | false =>
        left
        refine ⟨x, ?_, ?_, hli.lx, hli.df, hli.snd, fun v y hy => by have := hli.bnd v y hy; omega⟩
        · rw [iter_stop (r := .go (x, false))]
          unfold ref09_Paths_L1
          simp only [Bool.and_false, cond_false]
        · have es := hr.same rfl
          refine opt_fix hr.snd ?_ (fun a ha y hy => ?_)
          · obtain ⟨y, g1, g2⟩ := hc 0 u 0 (Nat.zero_le _) .nil
            rw [es]; exact ⟨y, g1, g2⟩
          · obtain ⟨i, hi, rfl⟩ := List.getElem_of_mem ha
            exact hr.cov i _ hi (List.getElem?_eq_getElem hi) y (by rw [← es]; exact hy)
      | true =>
        refine ih (n' + 1) (k + 1) x (by omega) (by omega) (by simpa using hli) hc' (fun hf ff ho => ?_)
        have ho' := opt_of_eq ho (cov_opt hn h0 h1 ho hl.snd (by omega) hc)
        obtain ⟨v, y, g1, g2⟩ := hr.imp rfl
        obtain ⟨k', g3, g4⟩ := hr.snd v y g1
        obtain ⟨z, g5, g6⟩ := ho'.cov k' v _ g4
        rw [← g3] at g6
        exact g6 (g2 z g5)
  have h := start_pi h0 h1
  refine key n.Nodes.toNat m 0 _ (by omega) (by omega) ⟨by simp [l_0]; omega, fun y hy hf => ?_, ?_, ?_⟩ ?_ (fun e => by omega)
  · rcases List.mem_or_eq_of_mem_set hy with q | q
    · exact (List.mem_replicate.1 q).2
    · rw [q] at hf; simp at hf
  · unfold gq; rw [l_b]; exact h.snd
  · unfold gq; rw [l_b]; intro v y hy; have := h.bnd v y hy; simpa using this
  · unfold gq; rw [l_b]; exact start_cov h0 h1
end Go.Proofs.Ytgelifcckhemiaa
namespace Go.Proofs.Ytgelifcckhemiaa
open Go.Abs
set_option linter.unusedSimpArgs false
set_option linter.unusedVariables false
open Classical in
noncomputable def rb (n : S_api_Net) (v w : Nat) : Bool := decide (Pth n false v w ∧ Pth n false w v)
theorem rb_iff {n : S_api_Net} {v w : Nat} : rb n v w = true ↔ (Pth n false v w ∧ Pth n false w v) := by simp [rb]
theorem rb_refl {n : S_api_Net} {v : Nat} : rb n v v = true := rb_iff.2 ⟨.refl, .refl⟩
theorem rb_trans {n : S_api_Net} {u v w : Nat} (h : rb n u v = true) (k : rb n v w = true) : rb n u w = true := let ⟨a, b⟩ := rb_iff.1 h; let ⟨c, d⟩ := rb_iff.1 k; rb_iff.2 ⟨a.trans c, d.trans b⟩
noncomputable def clsN (n : S_api_Net) (v : Nat) : List Nat := (List.range n.Nodes.toNat).filter (rb n v)
noncomputable def cls (n : S_api_Net) (v : Nat) : List Int := (clsN n v).map fun i : Nat => (i : Int)
open Classical in
noncomputable def isrep (n : S_api_Net) (v : Nat) : Bool := decide (¬ ∃ u, u < v ∧ rb n u v = true)
noncomputable def reps (n : S_api_Net) : List Nat := (List.range n.Nodes.toNat).filter (isrep n)
theorem isrep_iff {n : S_api_Net} {v : Nat} : isrep n v = true ↔ ¬ ∃ u, u < v ∧ rb n u v = true := by simp [isrep]
theorem idx_M {met : List Bool} {i : Nat} {β : Type} (h : i < met.length) (k : Bool → Option β) : idx met (i : Int) k = k (decide (M met (i : Nat))) := by
  rw [idx_get' h]
  congr 1
  have hm : M met (i : Nat) ↔ met[i] = true := by unfold M; rw [Int.toNat_natCast, List.getElem?_eq_getElem h]; simp
  cases e : met[i] with
  | true => rw [e] at hm; exact (decide_eq_true (hm.2 rfl)).symm
  | false => rw [e] at hm; exact (decide_eq_false (fun h => by simpa using hm.1 h)).symm
open Classical in
open Classical in
open Classical in
/-! what is true of the sets -/
theorem mem_cls {n : S_api_Net} {v : Nat} {w : Int} : w ∈ cls n v ↔ ∃ i : Nat, w = i ∧ i < n.Nodes.toNat ∧ rb n v i = true := by
  unfold cls clsN
  simp only [List.mem_map, List.mem_filter, List.mem_range]
  constructor
  · rintro ⟨i, ⟨h1, h2⟩, rfl⟩; exact ⟨i, rfl, h1, h2⟩
  · rintro ⟨i, rfl, h1, h2⟩; exact ⟨i, ⟨h1, h2⟩, rfl⟩
theorem rep_of {n : S_api_Net} (v : Nat) : v < n.Nodes.toNat → ∃ u, u ≤ v ∧ isrep n u = true ∧ rb n u v = true := by
  induction v using Nat.strongRecOn with
  | ind v ih =>
    intro hv
    by_cases h : ∃ u, u < v ∧ rb n u v = true
    · obtain ⟨u, h1, h2⟩ := h
      obtain ⟨t, h3, h4, h5⟩ := ih u h1 (by omega)
      exact ⟨t, by omega, h4, rb_trans h5 h2⟩
    · exact ⟨v, Nat.le_refl _, isrep_iff.2 h, rb_refl⟩
theorem cover {n : S_api_Net} {v : Nat} (hv : v < n.Nodes.toNat) : ∃ s ∈ (reps n).map (cls n), (v : Int) ∈ s := by
  obtain ⟨u, h1, h2, h3⟩ := rep_of v hv
  exact ⟨cls n u, List.mem_map.2 ⟨u, by unfold reps; exact List.mem_filter.2 ⟨by simp; omega, h2⟩, rfl⟩, mem_cls.2 ⟨v, rfl, hv, h3⟩⟩
end Go.Proofs.Ytgelifcckhemiaa
namespace Go.Proofs.Ytgelifcckhemiaa
open Go.Abs
set_option linter.unusedSimpArgs false
set_option linter.unusedVariables false
theorem Same_eq {a b : List Int} (n : Nat) (hl : a.length ≤ 4294967296) (hn : a.length < n) : ref09_Same n a b = some (decide (a = b)) := by
  unfold ref09_Same
  by_cases he : a.length = b.length
  · have e : decide ((a.length : Int) ≠ (b.length : Int)) = false := by simp; omega
    simp only [e, cond_false]
    have k1 : iter (ref09_Same_L1 a b) n 0 = some (foldL (S := Unit) (R := Lp Unit Bool) (fun _ (i : Nat) => cond (decide (a[i]? = b[i]?)) (.go ()) (.stop (.stop false))) .go () (List.range a.length)) := by
      refine iter_range a.length (fun (i : Nat) (_ : Unit) => (i : Int)) (fun (_ : Unit) (i : Nat) => cond (decide (a[i]? = b[i]?)) (.go ()) (.stop (.stop false))) (.go : Unit → Lp Unit Bool) (fun _ _ => True) (fun i s _ hi => ?_) (fun s _ => ?_) n () trivial hn
      · refine ⟨?_, fun _ _ => trivial⟩
        unfold ref09_Same_L1
        have e : decide ((i : Int) < (a.length : Int)) = true := by simpa using hi
        simp only [e, cond_true]
        rw [idx_get (List.getElem?_eq_getElem hi), idx_get (List.getElem?_eq_getElem (show i < b.length by omega)), w64 (by omega) (by omega), List.getElem?_eq_getElem hi, List.getElem?_eq_getElem (show i < b.length by omega)]
        by_cases h : a[i] = b[i]'(by omega) <;> simp [h]
      · unfold ref09_Same_L1; simp
    rw [k1, foldL_all (fun i => decide (a[i]? = b[i]?)) (.stop false) _ (fun x _ => rfl)]
    by_cases h : a = b
    · subst h
      have : ((List.range a.length).all fun i => decide (a[i]? = a[i]?)) = true := by rw [List.all_eq_true]; intro i _; simp
      rw [this]; simp
    · have : ((List.range a.length).all fun i => decide (a[i]? = b[i]?)) = false := by
        rw [Bool.eq_false_iff]; intro hh
        refine h (List.ext_getElem? fun i => ?_)
        by_cases hi : i < a.length
        · have := List.all_eq_true.1 hh i (by simpa using hi); simpa using this
        · rw [List.getElem?_eq_none (by omega), List.getElem?_eq_none (by omega)]
      simp only [this, cond_false, bindJ_stop, h, decide_false]
  · have e : decide ((a.length : Int) ≠ (b.length : Int)) = true := by simp; omega
    have : a ≠ b := fun h => he (by rw [h])
    simp [e, this]
end Go.Proofs.Ytgelifcckhemiaa
namespace Go.Proofs.Ytgelifcckhemiaa
open Go.Abs
set_option linter.unusedSimpArgs false
set_option linter.unusedVariables false
theorem rValid_eq (n : S_api_Net) (m : Nat) (hm : n.Arcs.length < m) : ref09_Valid m n = some (decide (okNet n)) := by
  unfold ref09_Valid
  by_cases h : (decide (n.Nodes < 0) || decide (256 < n.Nodes)) || decide (2048 < (n.Arcs.length : Int))
  · have : ¬ okNet n := by intro hk; unfold okNet at hk; simp at h; omega
    simp [h, this]
  · have h' : ((decide (n.Nodes < 0) || decide (256 < n.Nodes)) || decide (2048 < (n.Arcs.length : Int))) = false := by simpa using h
    simp only [h', cond_false]
    simp at h'
    have k1 : iter (ref09_Valid_L1 n) m 0 = some (foldL (S := Unit) (R := Lp Unit Bool) (fun _ a => cond (decide (okArc n a)) (.go ()) (.stop (.stop false))) .go () n.Arcs) := by
      have := iter_fold (step := ref09_Valid_L1 n) (l := n.Arcs) (fun (i : Nat) (_ : Unit) => (i : Int)) (fun (_ : Unit) (a : S_api_Arc) => cond (decide (okArc n a)) (.go ()) (.stop (.stop false))) (.go : Unit → Lp Unit Bool) (fun _ _ => True) (fun i s a _ hx => by
        have hlt := (List.getElem?_eq_some_iff.1 hx).1
        refine ⟨?_, fun _ _ => trivial⟩
        unfold ref09_Valid_L1
        have e : decide ((i : Int) < (n.Arcs.length : Int)) = true := by simpa using hlt
        simp only [e, cond_true]
        rw [idx_get hx, w64 (by omega) (by omega)]
        have e2 : ((((((decide (a.From < 0) || decide (n.Nodes ≤ a.From)) || decide (a.To < 0)) || decide (n.Nodes ≤ a.To)) || decide (1048576 < a.Cost)) || decide (a.Cost < (-1048576)))) = !decide (okArc n a) := by
          rw [Bool.eq_iff_iff]
          simp only [Bool.or_eq_true, decide_eq_true_eq, Bool.not_eq_true', decide_eq_false_iff_not]
          unfold okArc; omega
        rw [e2]
        by_cases hk : okArc n a <;> simp [hk]) (fun s _ => by unfold ref09_Valid_L1; simp) m 0 () trivial (by omega) (by omega)
      simpa using this
    rw [k1, foldL_all (fun a => decide (okArc n a)) (.stop false) n.Arcs (fun x _ => rfl)]
    by_cases ho : okNet n
    · have : (n.Arcs.all fun a => decide (okArc n a)) = true := by rw [List.all_eq_true]; intro a ha; exact decide_eq_true (ho.2.2.2 a ha)
      rw [this]; simp [ho]
    · have : (n.Arcs.all fun a => decide (okArc n a)) = false := by
        rw [Bool.eq_false_iff]; intro hh
        refine ho ⟨by omega, by omega, by omega, fun a ha => ?_⟩
        have := List.all_eq_true.1 hh a ha
        simpa using this
      rw [this]; simp [ho]
structure P2 (n : S_api_Net) (x0 : List Bool) (u : Int) (changed : Bool) (i : Nat) (x : List Bool) : Prop where
  len : (x.length : Int) = n.Nodes
  from_ : M x u
  sound : ∀ w, 0 ≤ w → M x w → Pth n false u w
  le : x.count false ≤ x0.count false
  ch : changed = true → x.count false < x0.count false
  no : changed = false → ∀ (j : Nat) a, j < i → n.Arcs[j]? = some a → M x a.From → M x a.To
theorem reach_pass {n : S_api_Net} (hn : okNet n) {u : Int} (x0 : List Bool) (hl : (x0.length : Int) = n.Nodes) (h1 : M x0 u) (h2 : ∀ w, 0 ≤ w → M x0 w → Pth n false u w) (m : Nat) (hm : 3000 ≤ m) :
    ∃ changed x, iter (ref09_reach_L2 n) m (false, 0, x0) = some (.go (changed, x)) ∧ P2 n x0 u changed n.Arcs.length x := by
  have hA := hn.2.2.1
  have key := iter_inv (step := ref09_reach_L2 n) (fun s => ∃ i : Nat, s.2.1 = (i : Int) ∧ i ≤ n.Arcs.length ∧ P2 n x0 u s.1 i s.2.2) (fun s => n.Arcs.length - s.2.1.toNat) (fun r => ∃ changed x, r = .go (changed, x) ∧ P2 n x0 u changed n.Arcs.length x) (by
    rintro ⟨c, i', x⟩ ⟨i, he, hi, hp⟩
    simp only at he hp
    subst he
    unfold ref09_reach_L2
    by_cases hlt : i < n.Arcs.length
    · left
      have e : decide ((i : Int) < (n.Arcs.length : Int)) = true := by simpa using hlt
      simp only [e, cond_true]
      have ha := List.getElem?_eq_getElem hlt
      obtain ⟨a1, a2, a3, a4, _⟩ := hn.2.2.2 _ (List.getElem_mem hlt)
      have hxl := hp.len
      have hf : ∀ {β : Type} (q : Bool → Option β), idx x (n.Arcs[i]).From q = q (decide (M x (n.Arcs[i]).From)) := fun q => by
        have := idx_M (met := x) (i := (n.Arcs[i]).From.toNat) (by omega) q
        rwa [Int.toNat_of_nonneg a1] at this
      have ht : ∀ {β : Type} (q : Bool → Option β), idx x (n.Arcs[i]).To q = q (decide (M x (n.Arcs[i]).To)) := fun q => by
        have := idx_M (met := x) (i := (n.Arcs[i]).To.toNat) (by omega) q
        rwa [Int.toNat_of_nonneg a3] at this
      rw [idx_get ha, hf]
      have hn' : ∀ (c' : Bool) (x' : List Bool), P2 n x0 u c' (i + 1) x' → (∃ s', (some (Lp.go (R := Lp (Bool × List Bool) (Lp (Int × List Bool) (Lp (List Bool) (List Bool)))) (c', IntKind.i64.wrap ((i : Int) + 1), x')) : Option _) = some (.go s') ∧ (∃ q : Nat, s'.2.1 = (q : Int) ∧ q ≤ n.Arcs.length ∧ P2 n x0 u s'.1 q s'.2.2) ∧ n.Arcs.length - s'.2.1.toNat < n.Arcs.length - ((i : Int)).toNat) := fun c' x' h => by
        rw [w64 (by omega) (by omega)]
        exact ⟨_, rfl, ⟨i + 1, by simp, by omega, h⟩, by simp; omega⟩
      by_cases b1 : M x (n.Arcs[i]).From
      · simp only [b1, decide_true, cond_true, ht]
        by_cases b2 : M x (n.Arcs[i]).To
        · simp only [b2, decide_true, Bool.not_true, bindJ_go, cond_false]
          refine hn' c x ⟨hp.len, hp.from_, hp.sound, hp.le, hp.ch, fun hc j a hj hja hm' => ?_⟩
          by_cases ej : j = i
          · subst ej; rw [ha] at hja; simp at hja; subst hja; exact b2
          · exact hp.no hc j a (by omega) hja hm'
        · simp only [b2, decide_false, Bool.not_false, bindJ_go, cond_true, ht]
          have hwl : (n.Arcs[i]).To.toNat < x.length := by omega
          have hfalse := not_M hwl b2
          have hmem : false ∈ x := List.mem_of_getElem? hfalse
          have hc : 0 < x.count false := List.count_pos_iff.2 hmem
          have hcs : (x.set (n.Arcs[i]).To.toNat true).count false < x.count false := by
            rw [List.getElem?_eq_getElem hwl] at hfalse
            simp only [Option.some.injEq] at hfalse
            rw [List.count_set hwl, hfalse]
            simp; omega
          have hle := hp.le
          refine hn' true _ ⟨by simp only [List.length_set]; exact hp.len, M_set' hwl hp.from_, fun w hw hm' => ?_, by omega, fun _ => by omega, fun h => by cases h⟩
          rcases (M_set a3 hw hwl).1 hm' with rfl | h
          · exact .step (hp.sound _ a1 b1) ⟨_, List.getElem_mem hlt, rfl, rfl⟩
          · exact hp.sound w hw h
      · simp only [b1, decide_false, cond_false, bindJ_go]
        refine hn' c x ⟨hp.len, hp.from_, hp.sound, hp.le, hp.ch, fun hc j a hj hja hm' => ?_⟩
        by_cases ej : j = i
        · subst ej; rw [ha] at hja; simp at hja; subst hja; exact absurd hm' b1
        · exact hp.no hc j a (by omega) hja hm'
    · right
      have e : decide ((i : Int) < (n.Arcs.length : Int)) = false := by simp; omega
      simp only [e, cond_false]
      have : i = n.Arcs.length := by omega
      subst this
      exact ⟨_, rfl, c, x, rfl, hp⟩)
    m (false, 0, x0) ⟨0, rfl, Nat.zero_le _, hl, h1, h2, Nat.le_refl _, (fun h => by cases h), fun _ j a hj => by omega⟩ (by simp; omega)
  obtain ⟨r, hr, c, x, rfl, hp⟩ := key
  exact ⟨c, x, hr, hp⟩
theorem reach_eq {n : S_api_Net} (hn : okNet n) {u : Int} (h0 : 0 ≤ u) (h1 : u < n.Nodes) (m : Nat) (hm : 3000 ≤ m) :
    ∃ met : List Bool, ref09_reach m n u = some met ∧ (met.length : Int) = n.Nodes ∧ ∀ w, 0 ≤ w → (M met w ↔ Pth n false u w) := by
  have hN := hn.2.1
  have hul : u.toNat < (List.replicate n.Nodes.toNat false).length := by simp; omega
  unfold ref09_reach
  rw [need_pos (by omega), idx_int h0 hul]
  have key := iter_inv (step := ref09_reach_L1 m n) (fun s => ∃ k : Nat, s.1 = (k : Int) ∧ (s.2.length : Int) = n.Nodes ∧ M s.2 u ∧ (∀ w, 0 ≤ w → M s.2 w → Pth n false u w) ∧ s.2.count false + k + 1 ≤ n.Nodes.toNat) (fun s => n.Nodes.toNat - s.1.toNat)
    (fun r => ∃ met : List Bool, r = .stop met ∧ (met.length : Int) = n.Nodes ∧ ∀ w, 0 ≤ w → (M met w ↔ Pth n false u w)) (by
      rintro ⟨k', x⟩ ⟨k, he, hl, h1', h2', hc⟩
      simp only at he hl h1' h2' hc
      subst he
      unfold ref09_reach_L1
      have e : decide ((k : Int) < n.Nodes) = true := by simp; omega
      simp only [e, cond_true]
      obtain ⟨c, x', q1, q2⟩ := reach_pass hn x hl h1' h2' m hm
      rw [q1, bindJ_go]
      cases c with
      | false =>
        right
        refine ⟨_, rfl, x', rfl, q2.len, fun w hw => ⟨q2.sound w hw, fun hp => ?_⟩⟩
        induction hp with
        | refl => exact q2.from_
        | @step a b hp e ih =>
          have hin := edge_in hn e
          obtain ⟨arc, e1, e2, e3⟩ := e
          obtain ⟨j, hj⟩ := List.getElem?_of_mem e1
          have := q2.no rfl j arc (List.getElem?_eq_some_iff.1 hj).1 hj
          have e2' : arc.From = a := e2
          have e3' : arc.To = b := e3
          rw [e2', e3'] at this
          exact this (ih hin.1)
      | true =>
        left
        simp only [Bool.not_true, cond_false]
        have := q2.ch rfl
        rw [w64 (by omega) (by omega)]
        exact ⟨_, rfl, ⟨k + 1, by simp, q2.len, q2.from_, q2.sound, by simp only; omega⟩, by simp; omega⟩)
    m (0, (List.replicate n.Nodes.toNat false).set u.toNat true) ⟨0, rfl, by simp; omega, (M_set h0 h0 hul).2 (.inl rfl), (fun w hw hm' => by
      rcases (M_set h0 hw hul).1 hm' with rfl | h
      · exact .refl
      · unfold M at h; rw [List.getElem?_replicate] at h; split at h <;> simp at h), by
      simp only
      rw [List.count_set hul]
      simp
      omega⟩ (by simp; omega)
  obtain ⟨r, hr, met, rfl, q1, q2⟩ := key
  refine ⟨met, ?_, q1, q2⟩
  rw [hr]; rfl
theorem met_eq {n : S_api_Net} {a b : List Bool} {u : Int} (h1 : (a.length : Int) = n.Nodes) (h2 : (b.length : Int) = n.Nodes) (k1 : ∀ w, 0 ≤ w → (M a w ↔ Pth n false u w)) (k2 : ∀ w, 0 ≤ w → (M b w ↔ Pth n false u w)) : a = b := by
  apply List.ext_getElem (by omega)
  intro i hi hi'
  have := (k1 (i : Nat) (by omega)).trans (k2 (i : Nat) (by omega)).symm
  unfold M at this
  rw [Int.toNat_natCast, List.getElem?_eq_getElem hi, List.getElem?_eq_getElem hi'] at this
  simp only [Option.some.injEq] at this
  exact Bool.eq_iff_iff.2 this
/-! the order of the specification -/
theorem Ord.take {n : S_api_Net} {D : List Int} (h : Ord n D) : ∀ i, i ≤ D.length → Ord n (D.take i) := by
  induction h with
  | nil => intro i _; simp; exact .nil
  | @snoc D v ho hl ih =>
    intro i hi
    by_cases e : i ≤ D.length
    · rw [List.take_append_of_le_length e]; exact ih i e
    · rw [List.take_of_length_le (by simp at hi ⊢; omega)]; exact .snoc ho hl
theorem Ord.next {n : S_api_Net} {D : List Int} (h : Ord n D) : ∀ (i : Nat) (hi : i < D.length), Least n (D.take i) D[i] := by
  induction h with
  | nil => intro i hi; simp at hi
  | @snoc D v ho hl ih =>
    intro i hi
    by_cases e : i < D.length
    · rw [List.take_append_of_le_length (by omega), List.getElem_append_left e]; exact ih i e
    · have : i = D.length := by simp at hi; omega
      subst this
      rw [List.take_append_of_le_length (Nat.le_refl _), List.take_length, List.getElem_append_right (Nat.le_refl _)]
      simpa using hl
theorem idx_Mi {met : List Bool} {w : Int} {β : Type} (h0 : 0 ≤ w) (h : w.toNat < met.length) (k : Bool → Option β) : idx met w k = k (decide (M met w)) := by
  have := idx_M (met := met) (i := w.toNat) h k
  rwa [Int.toNat_of_nonneg h0] at this
end Go.Proofs.Ytgelifcckhemiaa
namespace Go.Proofs.Ytgelifcckhemiaa
open Go.Abs
set_option linter.unusedSimpArgs false
set_option linter.unusedVariables false
theorem iter_skip2 {T R : Type} {step : T → Option (Lp T R)} (mk : Nat → T) : ∀ (i n : Nat), (∀ j : Nat, j < i → step (mk j) = some (.go (mk (j + 1)))) → i ≤ n → iter step n (mk 0) = iter step (n - i) (mk i)
  | 0, n, _, _ => rfl
  | i + 1, n, h, hn => by
    rw [iter_skip2 mk i n (fun j hj => h j (by omega)) (by omega), show n - i = (n - (i + 1)) + 1 by omega, iter_go (h i (by omega))]
/-- a loop that looks for the first that is so -/
theorem iter_find2 {α T R : Type} {step : T → Option (Lp T R)} (mk : Nat → T) (l : List α) (p : α → Bool) (f : Nat → R) (q : R)
    (h : ∀ (i : Nat) (x : α), l[i]? = some x → i < l.length → step (mk i) = some (cond (p x) (.stop (f i)) (.go (mk (i + 1))))) (he : step (mk l.length) = some (.stop q)) (n : Nat) (hn : l.length < n) :
    iter step n (mk 0) = some (match l.findIdx? p with | some i => f i | none => q) := by
  cases hfi : l.findIdx? p with
  | none =>
    have hp := List.findIdx?_eq_none_iff.1 hfi
    rw [iter_skip2 mk l.length n (fun j hj => by
      have hx := List.getElem?_eq_getElem hj
      rw [h j _ hx hj, hp _ (List.getElem_mem hj)]; rfl) (by omega), show n - l.length = (n - l.length - 1) + 1 by omega, iter_stop he]
  | some i =>
    obtain ⟨hi, hp, hj⟩ := List.findIdx?_eq_some_iff_getElem.1 hfi
    rw [iter_skip2 mk i n (fun j hj' => by
      have hlt : j < l.length := by omega
      have hx := List.getElem?_eq_getElem hlt
      rw [h j _ hx hlt, Bool.eq_false_iff.2 (hj j hj')]; rfl) (by omega), show n - i = (n - i - 1) + 1 by omega, iter_stop (r := f i)]
    rw [h i _ (List.getElem?_eq_getElem hi) hi, hp]; rfl
def fx {α : Type} (p : α → Bool) (l : List α) : Int := match l.findIdx? p with | some i => (i : Int) | none => -1
theorem fx_cases {α : Type} (p : α → Bool) (l : List α) : (fx p l = -1 ∧ ∀ x ∈ l, p x = false) ∨ ∃ (i : Nat) (hi : i < l.length), fx p l = i ∧ p l[i] = true ∧ ∀ j (hj : j < i), p (l[j]'(by omega)) = false := by
  unfold fx
  cases hfi : l.findIdx? p with
  | none => exact .inl ⟨rfl, List.findIdx?_eq_none_iff.1 hfi⟩
  | some i =>
    obtain ⟨hi, hp, hj⟩ := List.findIdx?_eq_some_iff_getElem.1 hfi
    exact .inr ⟨i, hi, rfl, hp, fun j h => Bool.eq_false_iff.2 (hj j h)⟩
/-! a row of -1 -/
theorem mul_small : ∀ k : Fin 257, math_bits_Mul_64 (IntKind.u64.wrap 1) (IntKind.u64.wrap (k.1 : Int)) = some (0, (k.1 : Int)) ∧ IntKind.i64.wrap (k.1 : Int) = (k.1 : Int) := by decide +kernel
theorem Repeat_eq {N : Int} (h0 : 1 ≤ N) (h1 : N ≤ 256) (m : Nat) (hm : 300 ≤ m) : slices_Repeat_int_int_48 m [-1] N = some (List.replicate N.toNat (-1)) := by
  unfold slices_Repeat_int_int_48
  have e : decide (N < 0) = false := by simp; omega
  have hk := mul_small ⟨N.toNat, by omega⟩
  simp only [show ((N.toNat : Nat) : Int) = N by omega] at hk
  simp only [e, cond_false]
  rw [show (([-1] : List Int).length : Int) = 1 from rfl, hk.1]
  simp only [obind, Option.bind_some]
  have e2 : (decide ((0 : Int) < 0) || decide (9223372036854775807 < N)) = false := by simp; omega
  rw [e2, cond_false, hk.2, need_pos (by omega)]
  have key := iter_inv (step := slices_Repeat_int_int_48_L1) (fun s => ∃ i : Nat, s.1 = (i : Int) ∧ 1 ≤ i ∧ i ≤ N.toNat ∧ s.2 = List.replicate i (-1) ++ List.replicate (N.toNat - i) 0) (fun s => N.toNat - s.1.toNat) (fun r => r = .go (List.replicate N.toNat (-1))) (by
    rintro ⟨i', x⟩ ⟨i, he, hi, hi2, hx⟩
    simp only at he hx
    subst he hx
    unfold slices_Repeat_int_int_48_L1
    have hl : (List.replicate i (-1 : Int) ++ List.replicate (N.toNat - i) 0).length = N.toNat := by simp; omega
    simp only [hl]
    by_cases hlt : i < N.toNat
    · left
      have e : decide ((i : Int) < (N.toNat : Int)) = true := by rw [decide_eq_true_iff]; omega
      simp only [e, cond_true]
      rw [need_pos (by omega), need_pos (by omega)]
      have ht : (((List.replicate i (-1 : Int) ++ List.replicate (N.toNat - i) 0).take ((i : Int)).toNat).drop (0 : Int).toNat) = List.replicate i (-1) := by
        rw [show ((i : Int)).toNat = i by omega, show (0 : Int).toNat = 0 from rfl, List.drop_zero]
        rw [List.take_append_of_le_length (by simp), List.take_of_length_le (by simp)]
      rw [ht]
      simp only [List.length_replicate, Int.toNat_natCast]
      rw [w64 (by omega) (by omega)]
      refine ⟨_, rfl, ⟨i + min i (N.toNat - i), by simp, by omega, by omega, ?_⟩, by simp only; omega⟩
      simp only [cpy, List.length_replicate]
      rw [List.take_append_of_le_length (by simp), List.take_of_length_le (by simp), List.take_replicate, List.drop_append, List.drop_of_length_le (by simp), List.nil_append, List.drop_replicate, ← List.append_assoc, List.replicate_append_replicate]
      simp only [List.length_replicate]
      congr 2
      · omega
      · omega
    · right
      have e : decide ((i : Int) < (N.toNat : Int)) = false := by rw [decide_eq_false_iff_not]; omega
      simp only [e, cond_false]
      have : i = N.toNat := by omega
      subst this
      exact ⟨_, rfl, by simp⟩) m (1, List.replicate 1 (-1) ++ List.replicate (N.toNat - 1) 0) ⟨1, rfl, by omega, by omega, rfl⟩ (by simp; omega)
  obtain ⟨r, hr, rfl⟩ := key
  have hst : (((min ([-1] : List Int).length ((List.replicate N.toNat (0 : Int)).length - 0) : Nat) : Int), cpy (List.replicate N.toNat (0 : Int)) 0 (List.replicate N.toNat (0 : Int)).length [-1]) = (1, List.replicate 1 (-1) ++ List.replicate (N.toNat - 1) 0) := by
    obtain ⟨q, hq⟩ : ∃ q, N.toNat = q + 1 := ⟨N.toNat - 1, by omega⟩
    rw [hq]
    simp [cpy, List.replicate_succ]
  rw [hst, hr]
  rfl
/-! what is written down -/
def pv (f : Tab) (v : Int) (a : S_api_Arc) : Bool := decide (a.To = v) && (match f a.From, f v with | some y, some x => decide (y.2 + 1 = x.2) && decide (y.1 + a.Cost = x.1) | _, _ => false)
def vo (n : S_api_Net) (u : Int) (f : Tab) (v : Nat) : Int := if (v : Int) = u then -1 else fx (pv f v) n.Arcs
def dd (f : Tab) (v : Nat) : Int := match f v with | some x => x.1 | none => 0
def dist (n : S_api_Net) (f : Tab) : List Int := (List.range n.Nodes.toNat).map (dd f)
def vias (n : S_api_Net) (u : Int) (f : Tab) : List Int := (List.range n.Nodes.toNat).map (vo n u f)
theorem out_eq {n : S_api_Net} (hn : okNet n) {u : Int} {b : List S_graph_reached} (hl : (b.length : Int) = n.Nodes) (hdf : ∀ x ∈ b, x.is_ = false → x = ⟨false, 0, 0⟩) (hbd : ∀ v x, gp b v = some x → 0 ≤ x.2 ∧ x.2 ≤ 1000 ∧ -2000000000 ≤ x.1 ∧ x.1 ≤ 2000000000) (m : Nat) (hm : 3000 ≤ m) :
    iter (graph_Paths_L3 m n u b) m (0, [], []) = some (.go (dist n (gp b), vias n u (gp b))) := by
  have hA := hn.2.2.1
  have hN := hn.2.1
  have key := iter_inv (step := graph_Paths_L3 m n u b) (fun s => ∃ i : Nat, s.1 = (i : Int) ∧ i ≤ n.Nodes.toNat ∧ s.2.1 = (List.range i).map (dd (gp b)) ∧ s.2.2 = (List.range i).map (vo n u (gp b))) (fun s => n.Nodes.toNat - s.1.toNat) (fun r => r = .go (dist n (gp b), vias n u (gp b))) (by
    rintro ⟨i', d, w⟩ ⟨i, he, hi, hd, hw⟩
    simp only at he hd hw
    subst he hd hw
    unfold graph_Paths_L3
    have hbl : b.length = n.Nodes.toNat := by omega
    by_cases hlt : i < n.Nodes.toNat
    · left
      have e : decide ((i : Int) < (b.length : Int)) = true := by simp; omega
      simp only [e, cond_true]
      have hx := List.getElem?_eq_getElem (show i < b.length by omega)
      have hxm := List.getElem_mem (show i < b.length by omega)
      have hgx := gp_el (w := (i : Int)) (by omega) (by rw [show ((i : Int)).toNat = i by omega]; exact hx)
      rw [idx_get hx]
      generalize b[i]'(by omega) = x at *
      rw [need_pos (by simp; omega), need_pos (by simp; omega)]
      have hdd : dd (gp b) i = x.sum_ := by
        unfold dd; rw [hgx]
        cases hf : x.is_ with
        | true => simp
        | false => rw [hdf x hxm hf]; simp
      have hw1 : IntKind.i64.wrap ((i : Int) + 1) = ((i + 1 : Nat) : Int) := by rw [w64 (by omega) (by omega)]; simp
      have fin : ∀ q : Int, q = vo n u (gp b) i → ∃ s', (some (Lp.go (R := Lp (List Int × List Int) (S_api_Routes × Int)) (((i + 1 : Nat) : Int), (List.range i).map (dd (gp b)) ++ [x.sum_], (List.range i).map (vo n u (gp b)) ++ [q])) : Option _) = some (.go s') ∧ (∃ j : Nat, s'.1 = (j : Int) ∧ j ≤ n.Nodes.toNat ∧ s'.2.1 = (List.range j).map (dd (gp b)) ∧ s'.2.2 = (List.range j).map (vo n u (gp b))) ∧ n.Nodes.toNat - s'.1.toNat < n.Nodes.toNat - ((i : Int)).toNat := fun q hq =>
        ⟨_, rfl, ⟨i + 1, rfl, by omega, by simp only [List.range_succ, List.map_append, List.map_cons, List.map_nil, hdd], by simp only [List.range_succ, List.map_append, List.map_cons, List.map_nil, hq]⟩, by simp only; omega⟩
      by_cases hu : (i : Int) = u
      · have ed : decide ((i : Int) = u) = true := by simpa using hu
        simp only [ed, Bool.true_or, cond_true, bindJ_go, hw1]
        exact fin (-1) (by unfold vo; rw [if_pos hu])
      · simp only [hu, decide_false, Bool.false_or]
        cases hf : x.is_ with
        | false =>
          simp only [Bool.not_false, cond_true, bindJ_go, hw1]
          refine fin (-1) ?_
          unfold vo
          rw [if_neg hu]
          rcases fx_cases (pv (gp b) i) n.Arcs with ⟨h1, _⟩ | ⟨j, hj, _, h2, _⟩
          · exact h1.symm
          · unfold pv at h2
            rw [hgx, hf] at h2
            simp at h2
        | true =>
          simp only [Bool.not_true, cond_false]
          unfold graph_arcs graph_arcs_1_61
          simp only [obind, Option.bind_some]
          have hgx' : gp b (i : Int) = some (x.sum_, x.arcs_) := by rw [hgx, hf]; simp
          have hlen : i < ((List.range i).map (vo n u (gp b)) ++ [-1]).length := by simp
          have hset : ∀ q : Int, (((List.range i).map (vo n u (gp b)) ++ [-1]).set i q) = (List.range i).map (vo n u (gp b)) ++ [q] := fun q => by
            rw [List.set_append_right _ _ (by simp)]; simp
          have hfd := iter_find2 (step := graph_arcs_1_61_L1 (yieldOf (graph_Paths_R4 n b (i : Int) x)) n true (i : Int)) (R := List Int × Option Nat) (fun j => ((j : Int), ((List.range i).map (vo n u (gp b)) ++ [-1], none))) n.Arcs (pv (gp b) i) (fun j => ((List.range i).map (vo n u (gp b)) ++ [(j : Int)], some 0)) ((List.range i).map (vo n u (gp b)) ++ [-1], none) (fun j a ha hj => by
            obtain ⟨f0, f1, t0, t1, c0, c1⟩ := hn.2.2.2 _ (List.mem_of_getElem? ha)
            unfold graph_arcs_1_61_L1
            have e : decide ((j : Int) < (n.Arcs.length : Int)) = true := by simpa using hj
            have hwj : IntKind.i64.wrap ((j : Int) + 1) = ((j + 1 : Nat) : Int) := by rw [w64 (by omega) (by omega)]; simp
            simp only [e, cond_true]
            rw [idx_get ha]
            simp only [bindJ_go, hwj]
            unfold pv
            by_cases ht : a.To = (i : Int)
            · simp only [ht, decide_true, cond_true, Bool.true_and]
              unfold yieldOf graph_Paths_R4
              simp only
              rw [idx_int f0 (by omega)]
              have hgy := gp_el f0 (List.getElem?_eq_getElem (show a.From.toNat < b.length by omega))
              rw [hgx', hgy]
              cases hyf : (b[a.From.toNat]'(by omega)).is_ with
              | false => simp [obind]
              | true =>
                rw [hyf, if_pos rfl] at hgy
                obtain ⟨g0, g1, g2, g3⟩ := hbd _ _ hgy
                simp only at g0 g1 g2 g3
                rw [w64 (by omega) (by omega)]
                simp only [Bool.true_and, if_true]
                by_cases ea : (b[a.From.toNat]'(by omega)).arcs_ + 1 = x.arcs_
                · simp only [ea, decide_true, cond_true, Bool.true_and]
                  rw [idx_get ha, w64 (by omega) (by omega)]
                  by_cases es : (b[a.From.toNat]'(by omega)).sum_ + a.Cost = x.sum_
                  · simp only [es, decide_true, bindJ_go, cond_true]
                    rw [idx_get (List.getElem?_eq_getElem hlen)]
                    simp [obind, hset]
                  · simp [es, obind]
                · simp [ea, obind]
            · simp [ht]) (by unfold graph_arcs_1_61_L1; simp) m (by omega)
          have hfd' : iter (graph_arcs_1_61_L1 (yieldOf (graph_Paths_R4 n b (i : Int) x)) n true (i : Int)) m (0, ((List.range i).map (vo n u (gp b)) ++ [-1], none)) = _ := hfd
          rw [hfd']
          have hvo : vo n u (gp b) i = fx (pv (gp b) i) n.Arcs := by unfold vo; rw [if_neg hu]
          unfold fx at hvo
          cases hfi : n.Arcs.findIdx? (pv (gp b) i) with
          | none =>
            rw [hfi] at hvo
            simp only [Option.bind_some, onJump, bindJ_go, hw1]
            exact fin (-1) hvo.symm
          | some j =>
            rw [hfi] at hvo
            simp only [Option.bind_some, onJump, List.getElem?_cons_zero, bindJ_go, hw1]
            exact fin j hvo.symm
    · right
      have e : decide ((i : Int) < (b.length : Int)) = false := by simp; omega
      simp only [e, cond_false]
      have : i = n.Nodes.toNat := by omega
      subst this
      exact ⟨_, rfl, rfl⟩) m (0, [], []) ⟨0, rfl, Nat.zero_le _, rfl, rfl⟩ (by simp; omega)
  obtain ⟨r, hr, rfl⟩ := key
  exact hr
end Go.Proofs.Ytgelifcckhemiaa
namespace Go.Proofs.Ytgelifcckhemiaa
open Go.Abs
set_option linter.unusedSimpArgs false
set_option linter.unusedVariables false
theorem fx_take {α : Type} (p : α → Bool) {l : List α} {i : Nat} {a : α} (h : l[i]? = some a) : fx p (l.take (i + 1)) = if fx p (l.take i) < 0 then (if p a = true then (i : Int) else -1) else fx p (l.take i) := by
  have hi := (List.getElem?_eq_some_iff.1 h).1
  have e : l.take (i + 1) = l.take i ++ [a] := by rw [List.take_add_one, h]; rfl
  unfold fx
  rw [e, List.findIdx?_append]
  cases hf : (l.take i).findIdx? p with
  | some j => simp; omega
  | none =>
    cases hp : p a with
    | true => simp [List.findIdx?_cons, hp]; omega
    | false => simp [List.findIdx?_cons, hp]
theorem rvia_eq {n : S_api_Net} (hn : okNet n) {u : Int} {b : List S_ref09_Step} (hl : (b.length : Int) = n.Nodes) (hbd : ∀ v x, gq b v = some x → 0 ≤ x.2 ∧ x.2 ≤ 1000 ∧ -2000000000 ≤ x.1 ∧ x.1 ≤ 2000000000) {i : Nat} (hlt : i < n.Nodes.toNat) (m : Nat) (hm : 3000 ≤ m) :
    iter (ref09_Paths_L3 n u b (i : Int)) m (-1, 0) = some (.go (vo n u (gq b) i)) := by
  have hA := hn.2.2.1
  have hN := hn.2.1
  have hx := List.getElem?_eq_getElem (show i < b.length by omega)
  have hgx := gq_el (w := (i : Int)) (by omega) (by rw [show ((i : Int)).toNat = i by omega]; exact hx)
  generalize b[i]'(by omega) = x at *
  obtain ⟨m', rfl⟩ : ∃ q, m = q + 1 := ⟨m - 1, by omega⟩
  by_cases hu : (i : Int) = u
  · rw [iter_stop (r := .go (-1))]
    · unfold vo; rw [if_pos hu]
    · unfold ref09_Paths_L3
      have ed : decide ((i : Int) ≠ u) = false := by simpa using hu
      simp only [ed, Bool.and_false, cond_false, bindJ_go]
  · have ed : decide ((i : Int) ≠ u) = true := by simpa using hu
    cases hf : x.Is with
    | false =>
      rw [iter_stop (r := .go (-1))]
      · unfold vo
        rw [if_neg hu]
        rcases fx_cases (pv (gq b) i) n.Arcs with ⟨h1, _⟩ | ⟨j, hj, _, h2, _⟩
        · rw [h1]
        · unfold pv at h2
          rw [hgx, hf] at h2
          simp at h2
      · unfold ref09_Paths_L3
        by_cases h : (0 : Int) < (n.Arcs.length : Int)
        · simp only [ed, Bool.and_true, h, decide_true, cond_true]
          rw [idx_get hx, hf]; rfl
        · simp only [ed, Bool.and_true, h, decide_false, cond_false, bindJ_go]
    | true =>
      have hgx' : gq b (i : Int) = some (x.Sum, x.Arcs) := by rw [hgx, hf]; simp
      obtain ⟨x0, x1, x2, x3⟩ := hbd _ _ hgx'
      have key := iter_inv (step := ref09_Paths_L3 n u b (i : Int)) (fun s => ∃ j : Nat, s.2 = (j : Int) ∧ j ≤ n.Arcs.length ∧ s.1 = fx (pv (gq b) i) (n.Arcs.take j)) (fun s => n.Arcs.length - s.2.toNat) (fun r => r = .go (fx (pv (gq b) i) n.Arcs)) (by
        rintro ⟨w, j'⟩ ⟨j, he, hj, hw⟩
        simp only at he hw
        subst he hw
        unfold ref09_Paths_L3
        by_cases hjl : j < n.Arcs.length
        · left
          have e : decide ((j : Int) < (n.Arcs.length : Int)) = true := by simpa using hjl
          simp only [e, ed, Bool.true_and, cond_true]
          rw [idx_get hx, hf]
          simp only [bindJ_go, cond_true]
          have ha := List.getElem?_eq_getElem hjl
          obtain ⟨f0, f1, t0, t1, c0, c1⟩ := hn.2.2.2 _ (List.getElem_mem hjl)
          have hft := fx_take (pv (gq b) i) ha
          generalize n.Arcs[j] = a at *
          rw [idx_get ha, idx_int f0 (by omega), idx_get hx, idx_get hx]
          have hgy := gq_el f0 (List.getElem?_eq_getElem (show a.From.toNat < b.length by omega))
          have hwj : IntKind.i64.wrap ((j : Int) + 1) = ((j + 1 : Nat) : Int) := by rw [w64 (by omega) (by omega)]; simp
          have fin : ∀ q : Int, q = fx (pv (gq b) i) (n.Arcs.take (j + 1)) → ∃ s', (some (Lp.go (R := Lp Int (Lp (Int × List Int × List Int) (Lp (List Int × List Int) S_ref09_Found))) (q, ((j + 1 : Nat) : Int))) : Option _) = some (.go s') ∧ (∃ k : Nat, s'.2 = (k : Int) ∧ k ≤ n.Arcs.length ∧ s'.1 = fx (pv (gq b) i) (n.Arcs.take k)) ∧ n.Arcs.length - s'.2.toNat < n.Arcs.length - ((j : Int)).toNat := fun q hq =>
            ⟨_, rfl, ⟨j + 1, rfl, by omega, hq⟩, by simp only; omega⟩
          have hneg : fx (pv (gq b) i) (n.Arcs.take j) < 0 → fx (pv (gq b) i) (n.Arcs.take j) = -1 := fun h => by
            rcases fx_cases (pv (gq b) i) (n.Arcs.take j) with ⟨h1, _⟩ | ⟨q, _, h1, _⟩ <;> omega
          have hpv : pv (gq b) i a = (decide (a.To = (i : Int)) && ((b[a.From.toNat]'(by omega)).Is && (decide ((b[a.From.toNat]'(by omega)).Arcs + 1 = x.Arcs) && decide ((b[a.From.toNat]'(by omega)).Sum + a.Cost = x.Sum)))) := by
            unfold pv
            rw [hgx', hgy]
            cases (b[a.From.toNat]'(by omega)).Is <;> simp
          generalize fx (pv (gq b) i) (n.Arcs.take j) = F at *
          by_cases q1 : F < 0
          · rw [if_pos q1, hpv] at hft
            have hF := hneg q1
            by_cases q2 : a.To = (i : Int)
            · cases hyf : (b[a.From.toNat]'(by omega)).Is with
              | false =>
                rw [hyf] at hft
                simp only [q1, q2, decide_true, Bool.true_and, cond_false, bindJ_go, hwj]
                exact fin _ (by rw [hft, hF]; simp)
              | true =>
                rw [hyf] at hft
                rw [hyf, if_pos rfl] at hgy
                obtain ⟨g0, g1, g2, g3⟩ := hbd _ _ hgy
                simp only at g0 g1 g2 g3
                rw [w64 (by omega) (by omega), w64 (by omega) (by omega)]
                by_cases q3 : (b[a.From.toNat]'(by omega)).Arcs + 1 = x.Arcs
                · by_cases q4 : (b[a.From.toNat]'(by omega)).Sum + a.Cost = x.Sum
                  · simp only [q1, q2, q3, q4, decide_true, Bool.true_and, cond_true, bindJ_go, hwj]
                    exact fin _ (by rw [hft]; simp [q2, q3, q4])
                  · simp only [q1, q2, q3, q4, decide_true, decide_false, Bool.true_and, cond_true, cond_false, bindJ_go, hwj]
                    exact fin _ (by rw [hft, hF]; simp [q4])
                · simp only [q1, q2, q3, decide_true, decide_false, Bool.true_and, cond_true, cond_false, bindJ_go, hwj]
                  exact fin _ (by rw [hft, hF]; simp [q3])
            · simp only [q1, q2, decide_true, decide_false, Bool.true_and, Bool.false_and, cond_false, bindJ_go, hwj]
              exact fin _ (by rw [hft, hF]; simp [q2])
          · rw [if_neg q1] at hft
            simp only [q1, decide_false, Bool.false_and, cond_false, bindJ_go, hwj]
            exact fin _ hft.symm
        · right
          have e : decide ((j : Int) < (n.Arcs.length : Int)) = false := by simpa using hjl
          simp only [e, Bool.false_and, cond_false, bindJ_go]
          have : j = n.Arcs.length := by omega
          subst this
          exact ⟨_, rfl, by rw [List.take_length]⟩) (m' + 1) (-1, 0) ⟨0, rfl, Nat.zero_le _, rfl⟩ (by simp; omega)
      obtain ⟨r, hr, rfl⟩ := key
      rw [hr]
      unfold vo; rw [if_neg hu]
theorem rout_eq {n : S_api_Net} (hn : okNet n) {u : Int} {b : List S_ref09_Step} (hl : (b.length : Int) = n.Nodes) (hdf : ∀ x ∈ b, x.Is = false → x = ⟨false, 0, 0⟩) (hbd : ∀ v x, gq b v = some x → 0 ≤ x.2 ∧ x.2 ≤ 1000 ∧ -2000000000 ≤ x.1 ∧ x.1 ≤ 2000000000) (m : Nat) (hm : 3000 ≤ m) :
    iter (ref09_Paths_L2 m n u b) m (0, [], []) = some (.go (dist n (gq b), vias n u (gq b))) := by
  have hN := hn.2.1
  have key := iter_inv (step := ref09_Paths_L2 m n u b) (fun s => ∃ i : Nat, s.1 = (i : Int) ∧ i ≤ n.Nodes.toNat ∧ s.2.1 = (List.range i).map (dd (gq b)) ∧ s.2.2 = (List.range i).map (vo n u (gq b))) (fun s => n.Nodes.toNat - s.1.toNat) (fun r => r = .go (dist n (gq b), vias n u (gq b))) (by
    rintro ⟨i', d, w⟩ ⟨i, he, hi, hd, hw⟩
    simp only at he hd hw
    subst he hd hw
    unfold ref09_Paths_L2
    by_cases hlt : i < n.Nodes.toNat
    · left
      have e : decide ((i : Int) < n.Nodes) = true := by rw [decide_eq_true_iff]; omega
      simp only [e, cond_true]
      have hx := List.getElem?_eq_getElem (show i < b.length by omega)
      have hxm := List.getElem_mem (show i < b.length by omega)
      have hgx := gq_el (w := (i : Int)) (by omega) (by rw [show ((i : Int)).toNat = i by omega]; exact hx)
      rw [rvia_eq hn hl hbd hlt m hm]
      simp only [bindJ_go]
      rw [idx_get hx]
      generalize b[i]'(by omega) = x at *
      have hdd : dd (gq b) i = x.Sum := by
        unfold dd; rw [hgx]
        cases hf : x.Is with
        | true => simp
        | false => rw [hdf x hxm hf]; simp
      rw [need_pos (by simp; omega), need_pos (by simp; omega), w64 (by omega) (by omega)]
      exact ⟨_, rfl, ⟨i + 1, by simp, by omega, by simp only [List.range_succ, List.map_append, List.map_cons, List.map_nil, hdd], by simp only [List.range_succ, List.map_append, List.map_cons, List.map_nil]⟩, by simp only; omega⟩
    · right
      have e : decide ((i : Int) < n.Nodes) = false := by rw [decide_eq_false_iff_not]; omega
      simp only [e, cond_false]
      have : i = n.Nodes.toNat := by omega
      subst this
      exact ⟨_, rfl, rfl⟩) m (0, [], []) ⟨0, rfl, Nat.zero_le _, rfl, rfl⟩ (by simp; omega)
  obtain ⟨r, hr, rfl⟩ := key
  exact hr
theorem opt_bd {n : S_api_Net} (hn : okNet n) {u : Int} (h0 : 0 ≤ u) (h1 : u < n.Nodes) {f : Tab} (h : Opt n u f) (v : Int) (x : Int × Int) (hx : f v = some x) : 0 ≤ x.2 ∧ x.2 ≤ 1000 ∧ -2000000000 ≤ x.1 ∧ x.1 ≤ 2000000000 := by
  have hN := hn.2.1
  obtain ⟨k, h2, h3⟩ := h.snd v x hx
  have h4 := opt_short hn h0 h1 h (v := v) (s := x.1) (k := k) (by rw [hx, ← h2])
  have h5 := wk_sum hn h3
  omega
theorem idx_rep {α β : Type} {N : Nat} {z : α} {u : Int} (h0 : 0 ≤ u) (h1 : u.toNat < N) (k : α → Option β) : idx (List.replicate N z) u k = k z := by
  rw [idx_int h0 (by simpa using h1)]; simp
theorem paths_good {n : S_api_Net} (hn : okNet n) {u : Int} (h0 : 0 ≤ u) (h1 : u < n.Nodes) {f : Tab} (hf : Opt n u f) (m : Nat) (hm : 3000 ≤ m) :
    graph_Paths m n u = some (⟨dist n f, vias n u f, []⟩, 0) ∧ ref09_Paths m n u = some ⟨⟨dist n f, vias n u f, []⟩, false, 0⟩ := by
  have hA := hn.2.2.1
  have hN := hn.2.1
  have cov_of : ∀ g : Tab, Opt n u g → g = f := fun g hg => funext fun v => opt_uniq hf hg.snd (fun w x hx => by
    obtain ⟨k, q1, q2⟩ := hf.snd w x hx
    obtain ⟨y, q3, q4⟩ := hg.cov k w x.1 q2
    exact ⟨y, q3, by rw [← q1] at q4; exact q4⟩) v
  constructor
  · rcases rounds_eq hn h0 h1 m hm with ⟨b, e1, e2, e3, e4⟩ | ⟨hno, _⟩
    · have hb := cov_of _ e2
      unfold graph_Paths graph_isNode
      rw [Valid_eq n m (by omega)]
      have ev : (decide (0 ≤ u) && decide (u < n.Nodes)) = true := by simp; omega
      simp only [hn, decide_true, obind, Option.bind_some, Bool.not_true, cond_false, ev, bindJ_go]
      rw [need_pos (by omega), Repeat_eq (by omega) hN m (by omega)]
      simp only [Option.bind_some]
      rw [idx_rep h0 (by omega)]
      have e1' : iter (graph_Paths_L1 m n) m (0, (List.replicate n.Nodes.toNat (⟨false, 0, 0⟩ : S_graph_reached)).set u.toNat ⟨true, 0, 0⟩, List.replicate n.Nodes.toNat (-1)) = some (.go b) := e1
      rw [e1', bindJ_go, out_eq hn e3 e4 (opt_bd hn h0 h1 e2) m hm, bindJ_go, hb]
    · exact absurd hf (hno f)
  · rcases rrounds_eq hn h0 h1 m hm with ⟨l, e1, e2, e3⟩ | ⟨hno, _⟩
    · have hb := cov_of _ e2
      unfold ref09_Paths ref09_node
      rw [rValid_eq n m (by omega)]
      have ev : (decide (0 ≤ u) && decide (u < n.Nodes)) = true := by simp; omega
      simp only [hn, decide_true, obind, Option.bind_some, Bool.not_true, cond_false, ev, bindJ_go]
      rw [need_pos (by omega), idx_rep h0 (by omega)]
      have e1' : iter (ref09_Paths_L1 m n) m ((List.replicate n.Nodes.toNat (⟨false, 0, 0⟩ : S_ref09_Step)).set u.toNat ⟨true, 0, 0⟩, true, 0) = some (.go (l, false)) := e1
      rw [e1', bindJ_go, cond_false, rout_eq hn e3.lx e3.df (opt_bd hn h0 h1 e2) m hm, bindJ_go, hb]
    · exact absurd hf (hno f)
end Go.Proofs.Ytgelifcckhemiaa
