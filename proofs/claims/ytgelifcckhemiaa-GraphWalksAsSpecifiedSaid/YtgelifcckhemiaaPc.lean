/-
  The order of the nodes, or a cycle, in plain words.
-/
import Derived.Test.YtgelifcckhemiaaPo
namespace Go.Proofs.Ytgelifcckhemiaa
open Go.Abs
set_option linter.unusedSimpArgs false
set_option linter.unusedVariables false
def itp (f : Int → Int) : Nat → Int → Int
  | 0, w => w
  | k + 1, w => itp f k (f w)
theorem itp_succ (f : Int → Int) : ∀ (k : Nat) (w : Int), itp f (k + 1) w = f (itp f k w)
  | 0, w => rfl
  | k + 1, w => by rw [itp, itp_succ f k, itp]
theorem itp_add (f : Int → Int) : ∀ (a b : Nat) (w : Int), itp f (a + b) w = itp f a (itp f b w)
  | a, 0, w => rfl
  | a, b + 1, w => by rw [show a + (b + 1) = (a + b) + 1 by omega, itp, itp_add f a b, itp]
theorem least_nat {P : Nat → Prop} : ∀ (k : Nat), P k → ∃ m, m ≤ k ∧ P m ∧ ∀ j, j < m → ¬ P j := by
  intro k
  induction k using Nat.strongRecOn with
  | ind k ih =>
    intro h
    by_cases hj : ∃ j, j < k ∧ P j
    · obtain ⟨j, h1, h2⟩ := hj
      obtain ⟨m, h3, h4, h5⟩ := ih j h1 h2
      exact ⟨m, by omega, h4, h5⟩
    · exact ⟨k, Nat.le_refl _, h, fun j h1 h2 => hj ⟨j, h1, h2⟩⟩
theorem not_nodup {α : Type} {l : List α} (h : ¬ l.Nodup) : ∃ (i j : Nat) (hi : i < l.length) (hj : j < l.length), i < j ∧ l[i] = l[j] := by
  refine Classical.byContradiction fun hc => h (List.pairwise_iff_getElem.2 fun i j hi hj hij e => hc ⟨i, j, hi, hj, hij, e⟩)
/-- going back N steps, one is on a cycle of at most N nodes -/
theorem period {N : Nat} {f : Int → Int} {v : Int} (h : ∀ i, 0 ≤ itp f i v ∧ itp f i v < N) : ∃ k, 1 ≤ k ∧ k ≤ N ∧ itp f k (itp f N v) = itp f N v ∧ ∀ j, 1 ≤ j → j < k → itp f j (itp f N v) ≠ itp f N v := by
  obtain ⟨k, h1, h2, h3⟩ : ∃ k, 1 ≤ k ∧ k ≤ N ∧ itp f k (itp f N v) = itp f N v := by
    have hn : ¬ ((List.range (N + 1)).map fun i => itp f i v).Nodup := fun hd => by
      have := nodup_range (n := N) hd (fun x hx => by obtain ⟨i, _, rfl⟩ := List.mem_map.1 hx; exact h i)
      simp at this; omega
    obtain ⟨i, j, hi, hj, hij, e⟩ := not_nodup hn
    simp at hi hj e
    refine ⟨j - i, by omega, by omega, ?_⟩
    have e1 : itp f N v = itp f (N - i) (itp f i v) := by rw [← itp_add]; congr 1; omega
    rw [← itp_add, show j - i + N = (N - i) + j by omega, itp_add, ← e, ← e1]
  obtain ⟨m, g1, ⟨g2, g3⟩, g4⟩ := least_nat (P := fun k => 1 ≤ k ∧ itp f k (itp f N v) = itp f N v) k ⟨h1, h3⟩
  exact ⟨m, g2, by omega, g3, fun j hj hjm he => g4 j hjm ⟨hj, he⟩⟩
theorem pos_iff {n : S_api_Net} {D x : List Int} (h : OInv n (D, x, [])) {w : Int} (h0 : 0 ≤ w) (h1 : w < n.Nodes) : 0 < g x w.toNat ↔ w ∉ D := by
  have hv := h.val w h0 h1
  simp only at hv
  rw [hv]
  constructor
  · intro hp hm
    have : cnt n D w = 0 := cnt_zero.2 fun a ha ht => h.ord.closed a ha (ht ▸ hm)
    omega
  · intro hm
    have : cnt n D w ≠ 0 := fun hc => no_free h w ⟨h0, h1, hm, cnt_zero.1 hc⟩
    omega
/-- an arc from a node that is left to w -/
def Into (n : S_api_Net) (D : List Int) (w : Int) (j : Nat) : Prop := ∃ a, n.Arcs[j]? = some a ∧ a.To = w ∧ a.From ∉ D
theorem via_eq {n : S_api_Net} (hn : okNet n) {D x : List Int} (h : OInv n (D, x, [])) (m : Nat) (hm : 3000 ≤ m) :
    ∃ via : List Int, iter (graph_Order_L5 n x) m (0, List.replicate n.Nodes.toNat 0) = some (.go via) ∧ (via.length : Int) = n.Nodes ∧ ∀ w, 0 ≤ w → w < n.Nodes → w ∉ D → ∃ j : Nat, g via w.toNat = (j : Int) ∧ Into n D w j := by
  have hA := hn.2.2.1
  have h00 := hn.1
  have hxl := h.len
  simp only at hxl
  have key := iter_inv (step := graph_Order_L5 n x) (fun s => ∃ i : Nat, s.1 = (i : Int) ∧ i ≤ n.Arcs.length ∧ (s.2.length : Int) = n.Nodes ∧ ∀ w, 0 ≤ w → w < n.Nodes → w ∉ D → (∃ j, j < i ∧ Into n D w j) → ∃ j : Nat, g s.2 w.toNat = (j : Int) ∧ Into n D w j) (fun s => n.Arcs.length - s.1.toNat)
    (fun r => ∃ via : List Int, r = .go via ∧ (via.length : Int) = n.Nodes ∧ ∀ w, 0 ≤ w → w < n.Nodes → w ∉ D → ∃ j : Nat, g via w.toNat = (j : Int) ∧ Into n D w j) (by
      rintro ⟨i', via⟩ ⟨i, he, hil, hl, hv⟩
      simp only at he hl hv
      subst he
      unfold graph_Order_L5
      by_cases hlt : i < n.Arcs.length
      · left
        have e : decide ((i : Int) < (n.Arcs.length : Int)) = true := by simpa using hlt
        simp only [e, cond_true]
        have ha := List.getElem?_eq_getElem hlt
        obtain ⟨h1, h2, h3, h4, _⟩ := hn.2.2.2 _ (List.getElem_mem hlt)
        rw [idx_get ha, idx_int h1 (by omega), g_el (by omega)]
        have p1 := pos_iff h h1 h2
        have p2 := pos_iff h h3 h4
        have keep : ∀ via' : List Int, (via'.length : Int) = n.Nodes → (∀ w, 0 ≤ w → w < n.Nodes → w ∉ D → (∃ j, j < i + 1 ∧ Into n D w j) → ∃ j : Nat, g via' w.toNat = (j : Int) ∧ Into n D w j) →
            (∃ s', (some (Lp.go (R := Lp (List Int) (List Int × List Int × Int)) (IntKind.i64.wrap ((i : Int) + 1), via')) : Option _) = some (.go s') ∧ (∃ q : Nat, s'.1 = (q : Int) ∧ q ≤ n.Arcs.length ∧ (s'.2.length : Int) = n.Nodes ∧ ∀ w, 0 ≤ w → w < n.Nodes → w ∉ D → (∃ j, j < q ∧ Into n D w j) → ∃ j : Nat, g s'.2 w.toNat = (j : Int) ∧ Into n D w j) ∧ n.Arcs.length - s'.1.toNat < n.Arcs.length - ((i : Int)).toNat) := by
          intro via' hl' hv'
          rw [w64 (by omega) (by omega)]
          exact ⟨_, rfl, ⟨i + 1, by simp, by omega, hl', hv'⟩, by simp; omega⟩
        by_cases c : (n.Arcs[i]).From ∉ D ∧ (n.Arcs[i]).To ∉ D
        · have e1 : decide (0 < g x (n.Arcs[i]).From.toNat) = true := decide_eq_true (p1.2 c.1)
          have e2 : decide (0 < g x (n.Arcs[i]).To.toNat) = true := decide_eq_true (p2.2 c.2)
          simp only [e1, cond_true]
          rw [idx_int h3 (by omega), g_el (by omega)]
          simp only [e2, bindJ_go, cond_true]
          rw [idx_int h3 (by omega), bindJ_go]
          refine keep _ (by simp only [List.length_set]; exact hl) (fun w hw0 hw1 hwD hj => ?_)
          rw [g_set (by omega)]
          by_cases ew : w = (n.Arcs[i]).To
          · subst ew
            rw [if_pos rfl]
            exact ⟨i, rfl, _, ha, rfl, c.1⟩
          · have : ¬ w.toNat = (n.Arcs[i]).To.toNat := by omega
            rw [if_neg this]
            obtain ⟨j, hj1, hj2⟩ := hj
            refine hv w hw0 hw1 hwD ⟨j, ?_, hj2⟩
            by_cases ej : j = i
            · subst ej
              obtain ⟨a, q1, q2, _⟩ := hj2
              rw [ha] at q1; simp at q1; subst q1
              exact absurd q2.symm ew
            · omega
        · have hval : (bif decide (0 < g x (n.Arcs[i]).From.toNat) then idx x (n.Arcs[i]).To fun x125 => some (Lp.go (R := Lp (Int × List Int) (Lp (List Int) (List Int × List Int × Int))) (decide (0 < x125))) else some (.go false)) = some (.go false) := by
            rw [idx_int h3 (by omega), g_el (by omega)]
            by_cases c1 : (n.Arcs[i]).From ∈ D
            · have : decide (0 < g x (n.Arcs[i]).From.toNat) = false := decide_eq_false (fun h => (p1.1 h) c1)
              rw [this]; rfl
            · have c2 : (n.Arcs[i]).To ∈ D := Classical.byContradiction fun h => c ⟨c1, h⟩
              have e2 : decide (0 < g x (n.Arcs[i]).To.toNat) = false := decide_eq_false (fun h => (p2.1 h) c2)
              rw [e2]
              cases decide (0 < g x (n.Arcs[i]).From.toNat) <;> rfl
          have hval2 : ∀ {R : Type}, (bif decide (0 < g x (n.Arcs[i]).From.toNat) then idx x (n.Arcs[i]).To fun x125 => some (Lp.go (R := R) (decide (0 < x125))) else some (.go false)) = some (.go false) := by
            intro R
            rw [idx_int h3 (by omega), g_el (by omega)]
            by_cases c1 : (n.Arcs[i]).From ∈ D
            · have : decide (0 < g x (n.Arcs[i]).From.toNat) = false := decide_eq_false (fun h => (p1.1 h) c1)
              rw [this]; rfl
            · have c2 : (n.Arcs[i]).To ∈ D := Classical.byContradiction fun h => c ⟨c1, h⟩
              have e2 : decide (0 < g x (n.Arcs[i]).To.toNat) = false := decide_eq_false (fun h => (p2.1 h) c2)
              rw [e2]
              cases decide (0 < g x (n.Arcs[i]).From.toNat) <;> rfl
          rw [hval2]
          simp only [bindJ_go, cond_false]
          refine keep _ hl (fun w hw0 hw1 hwD hj => ?_)
          obtain ⟨j, hj1, hj2⟩ := hj
          refine hv w hw0 hw1 hwD ⟨j, ?_, hj2⟩
          by_cases ej : j = i
          · subst ej
            obtain ⟨a, q1, q2, q3⟩ := hj2
            rw [ha] at q1; simp at q1; subst q1
            exact absurd ⟨q3, q2 ▸ hwD⟩ c
          · omega
      · right
        have e : decide ((i : Int) < (n.Arcs.length : Int)) = false := by simp; omega
        simp only [e, cond_false]
        have : i = n.Arcs.length := by omega
        subst this
        refine ⟨_, rfl, via, rfl, hl, fun w hw0 hw1 hwD => hv w hw0 hw1 hwD ?_⟩
        have : ¬ Free_ n D w := no_free h w
        refine Classical.byContradiction fun hc => this ⟨hw0, hw1, hwD, fun a ha ht => Classical.byContradiction fun hf => hc ?_⟩
        obtain ⟨j, hj⟩ := List.getElem?_of_mem ha
        exact ⟨j, (List.getElem?_eq_some_iff.1 hj).1, a, hj, ht, hf⟩)
    m (0, List.replicate n.Nodes.toNat 0) ⟨0, rfl, Nat.zero_le _, by simp; omega, fun w _ _ _ ⟨j, hj, _⟩ => by omega⟩ (by simp; omega)
  obtain ⟨r, hr, via, rfl, h1, h2⟩ := key
  exact ⟨via, hr, h1, h2⟩
theorem index_int {x : List Int} (hl : x.length ≤ 100000) (h : ∃ i, i < x.length ∧ 0 < g x i) (m : Nat) (hm : x.length < m) : ∃ i, i < x.length ∧ 0 < g x i ∧ slices_IndexFunc_int_int_41 m x = some (i : Int) := by
  unfold slices_IndexFunc_int_int_41
  have key := iter_inv (step := slices_IndexFunc_int_int_41_L1 x) (fun s => ∃ i : Nat, s = (i : Int) ∧ i ≤ x.length ∧ ∀ j, j < i → ¬ 0 < g x j) (fun s => x.length - s.toNat) (fun r => ∃ i : Nat, r = .stop (i : Int) ∧ i < x.length ∧ 0 < g x i) (by
    rintro s ⟨i, rfl, hi, hok⟩
    unfold slices_IndexFunc_int_int_41_L1
    by_cases hlt : i < x.length
    · have e : decide ((i : Int) < (x.length : Int)) = true := by simpa using hlt
      simp only [e, cond_true]
      rw [idx_get (g_get hlt)]
      unfold graph_Order_1_42
      simp only [obind, Option.bind_some]
      by_cases hk : 0 < g x i
      · right
        simp only [hk, decide_true, cond_true]
        exact ⟨_, rfl, i, rfl, hlt, hk⟩
      · left
        simp only [hk, decide_false, cond_false]
        rw [w64 (by omega) (by omega)]
        exact ⟨_, rfl, ⟨i + 1, by simp, by omega, fun j hj => by
          by_cases e : j = i
          · subst e; exact hk
          · exact hok j (by omega)⟩, by omega⟩
    · obtain ⟨j, h1, h2⟩ := h
      exact absurd h2 (hok j (by omega)))
    m 0 ⟨0, rfl, Nat.zero_le _, fun j hj => by omega⟩ (by simpa using hm)
  obtain ⟨r, hr, i, rfl, h1, h2⟩ := key
  exact ⟨i, h1, h2, by rw [hr]; rfl⟩
theorem Reverse_eq {l : List Int} (hl : l.length ≤ 100000) (m : Nat) (hm : l.length + 1 < m) : slices_Reverse_int_int_62_v1 m l = some l.reverse := by
  unfold slices_Reverse_int_int_62_v1
  by_cases h0 : l = []
  · subst h0
    rw [w64 (by simp) (by simp)]
    obtain ⟨m', rfl⟩ : ∃ m', m = m' + 1 := ⟨m - 1, by omega⟩
    refine iter_stop ?_
    unfold slices_Reverse_int_int_62_v1_L1
    simp
  have hpos : 0 < l.length := List.length_pos_iff.2 h0
  rw [w64 (by omega) (by omega)]
  have key := iter_inv (step := slices_Reverse_int_int_62_v1_L1) (fun s => ∃ i : Nat, s.1 = (i : Int) ∧ s.2.1 = (l.length : Int) - 1 - i ∧ 2 * i ≤ l.length + 1 ∧ s.2.2.length = l.length ∧ ∀ t, t < l.length → g s.2.2 t = if t < i ∨ l.length - 1 - i < t then g l (l.length - 1 - t) else g l t) (fun s => l.length - s.1.toNat)
    (fun r => r = l.reverse) (by
      rintro ⟨i', j', x⟩ ⟨i, he, hj, hi, hxl, hx⟩
      simp only at he hj hxl hx
      subst he hj
      unfold slices_Reverse_int_int_62_v1_L1
      by_cases hlt : (i : Int) < (l.length : Int) - 1 - i
      · left
        have e : decide ((i : Int) < (l.length : Int) - 1 - i) = true := decide_eq_true hlt
        simp only [e, cond_true]
        obtain ⟨j, hj⟩ : ∃ j : Nat, j = l.length - 1 - i := ⟨_, rfl⟩
        rw [show (l.length : Int) - 1 - i = (j : Int) by omega, idx_get (g_get (by omega)), idx_get (g_get (by omega)), Int.toNat_natCast, Int.toNat_natCast, idx_get' (by simp; omega)]
        rw [w64 (by omega) (by omega), w64 (by omega) (by omega)]
        refine ⟨_, rfl, ⟨i + 1, by simp, by simp only; omega, by omega, by simp [hxl], fun t ht => ?_⟩, by simp; omega⟩
        simp only
        rw [g_set (by simp; omega), g_set (by omega)]
        by_cases e1 : t = j
        · subst e1
          rw [if_pos rfl, hx i (by omega), if_neg (by omega), if_pos (by omega)]
          congr 1; omega
        · rw [if_neg e1]
          by_cases e2 : t = i
          · subst e2
            rw [if_pos rfl, hx j (by omega), if_neg (by omega), if_pos (by omega), hj]
          · rw [if_neg e2, hx t ht]
            by_cases c : t < i ∨ l.length - 1 - i < t
            · rw [if_pos c, if_pos (by omega)]
            · rw [if_neg c, if_neg (by omega)]
      · right
        have e : decide ((i : Int) < (l.length : Int) - 1 - i) = false := decide_eq_false hlt
        simp only [e, cond_false]
        refine ⟨_, rfl, ?_⟩
        apply List.ext_getElem (by simp [hxl])
        intro t h1 h2
        rw [g_el h1, hx t (by omega), List.getElem_reverse, g_el (by omega)]
        split
        · rfl
        · rename_i c
          congr 1; omega)
    m (0, (l.length : Int) - 1, l) ⟨0, rfl, by simp, by omega, rfl, fun t ht => by rw [if_neg (by omega)]⟩ (by simp; omega)
  obtain ⟨r, hr, rfl⟩ := key
  exact hr
structure Cyc (n : S_api_Net) (D cyc : List Int) (vf : Int → Nat) (pf : Int → Int) (v : Int) (k : Nat) : Prop where
  k1 : 1 ≤ k
  kN : k ≤ n.Nodes.toNat
  per : itp pf k v = v
  min : ∀ j, 1 ≤ j → j < k → itp pf j v ≠ v
  arc : ∀ w, 0 ≤ w → w < n.Nodes → w ∉ D → ∃ a, n.Arcs[vf w]? = some a ∧ a.To = w ∧ a.From = pf w ∧ pf w ∉ D
  at_ : 0 ≤ v ∧ v < n.Nodes ∧ v ∉ D
  eq : cyc = ((List.range k).map fun s => ((vf (itp pf s v) : Nat) : Int)).reverse
theorem around_eq {n : S_api_Net} (hn : okNet n) {D via : List Int} (hl : (via.length : Int) = n.Nodes) (hv : ∀ w, 0 ≤ w → w < n.Nodes → w ∉ D → ∃ j : Nat, g via w.toNat = (j : Int) ∧ Into n D w j)
    {v : Int} (h0 : 0 ≤ v) (h1 : v < n.Nodes) (h2 : v ∉ D) (m : Nat) (hm : 3000 ≤ m) : ∃ cyc vf pf v' k, graph_around m n via v = some cyc ∧ Cyc n D cyc vf pf v' k := by
  have hN := hn.2.1
  have hA := hn.2.2.1
  obtain ⟨vf, hvf⟩ : ∃ vf : Int → Nat, vf = fun w => (g via w.toNat).toNat := ⟨_, rfl⟩
  obtain ⟨pf, hpf⟩ : ∃ pf : Int → Int, pf = fun w => match n.Arcs[vf w]? with | some a => a.From | none => 0 := ⟨_, rfl⟩
  have arc : ∀ w, 0 ≤ w → w < n.Nodes → w ∉ D → ∃ a, n.Arcs[vf w]? = some a ∧ a.To = w ∧ a.From = pf w ∧ pf w ∉ D ∧ g via w.toNat = ((vf w : Nat) : Int) := by
    intro w hw0 hw1 hwD
    obtain ⟨j, e1, a, e2, e3, e4⟩ := hv w hw0 hw1 hwD
    have e5 : vf w = j := by rw [hvf]; simp only; omega
    have e6 : pf w = a.From := by rw [hpf]; simp only [e5, e2]
    exact ⟨a, by rw [e5]; exact e2, e3, e6.symm, by rw [e6]; exact e4, by rw [e5]; exact e1⟩
  have hin : ∀ w, 0 ≤ w → w < n.Nodes → w ∉ D → 0 ≤ pf w ∧ pf w < n.Nodes ∧ pf w ∉ D := by
    intro w hw0 hw1 hwD
    obtain ⟨a, e1, e2, e3, e4, _⟩ := arc w hw0 hw1 hwD
    have := hn.2.2.2 a (List.mem_of_getElem? e1)
    obtain ⟨q1, q2, _⟩ := this
    rw [e3] at q1 q2
    exact ⟨q1, q2, e4⟩
  have hit : ∀ i w, 0 ≤ w → w < n.Nodes → w ∉ D → 0 ≤ itp pf i w ∧ itp pf i w < n.Nodes ∧ itp pf i w ∉ D := by
    intro i
    induction i with
    | zero => intro w a b c; exact ⟨a, b, c⟩
    | succ i ih => intro w a b c; have := hin w a b c; exact ih (pf w) this.1 this.2.1 this.2.2
  obtain ⟨k, k1, k2, k3, k4⟩ := period (N := n.Nodes.toNat) (f := pf) (v := v) (fun i => by have := hit i v h0 h1 h2; omega)
  obtain ⟨v', hv'⟩ : ∃ v', v' = itp pf n.Nodes.toNat v := ⟨_, rfl⟩
  rw [← hv'] at k3 k4
  have hv'in := hit n.Nodes.toNat v h0 h1 h2
  rw [← hv'] at hv'in
  have step1 : iter (graph_around_L1 n via) m (v, 0) = some (.go v') := by
    have key := iter_inv (step := graph_around_L1 n via) (fun s => ∃ i : Nat, s.2 = (i : Int) ∧ i ≤ n.Nodes.toNat ∧ s.1 = itp pf i v) (fun s => n.Nodes.toNat - s.2.toNat) (fun r => r = .go v') (by
      rintro ⟨w, i'⟩ ⟨i, he, hi, hw⟩
      simp only at he hw
      subst he hw
      unfold graph_around_L1
      by_cases hlt : i < n.Nodes.toNat
      · left
        have e : decide ((i : Int) < n.Nodes) = true := by simp; omega
        simp only [e, cond_true]
        have hw := hit i v h0 h1 h2
        obtain ⟨a, e1, e2, e3, e4, e5⟩ := arc _ hw.1 hw.2.1 hw.2.2
        rw [idx_int hw.1 (by omega), g_el (by omega), e5, idx_get e1, w64 (by omega) (by omega), e3]
        exact ⟨_, rfl, ⟨i + 1, by simp, by omega, by simp only; rw [itp_succ]⟩, by simp; omega⟩
      · right
        have e : decide ((i : Int) < n.Nodes) = false := by simp; omega
        simp only [e, cond_false]
        have : i = n.Nodes.toNat := by omega
        exact ⟨_, rfl, by rw [this, hv']⟩)
      m (v, 0) ⟨0, rfl, Nat.zero_le _, rfl⟩ (by simp; omega)
    obtain ⟨r, hr, rfl⟩ := key
    exact hr
  have step2 : iter (graph_around_L2 n via v' v') m ([((vf v' : Nat) : Int)], pf v') = some (.go ((List.range k).map fun s => ((vf (itp pf s v') : Nat) : Int))) := by
    have key := iter_inv (step := graph_around_L2 n via v' v') (fun s => ∃ t : Nat, 1 ≤ t ∧ t ≤ k ∧ s.1 = ((List.range t).map fun s => ((vf (itp pf s v') : Nat) : Int)) ∧ s.2 = itp pf t v') (fun s => k - s.1.length) (fun r => r = .go ((List.range k).map fun s => ((vf (itp pf s v') : Nat) : Int))) (by
      rintro ⟨c, w⟩ ⟨t, t1, t2, hc, hw⟩
      simp only at hc hw
      subst hc hw
      unfold graph_around_L2
      by_cases hlt : t < k
      · left
        have e : decide (itp pf t v' ≠ v') = true := decide_eq_true (k4 t t1 hlt)
        simp only [e, cond_true]
        have hw := hit t v' hv'in.1 hv'in.2.1 hv'in.2.2
        obtain ⟨a, e1, e2, e3, e4, e5⟩ := arc _ hw.1 hw.2.1 hw.2.2
        rw [idx_int hw.1 (by omega), g_el (by omega), e5, need_pos (by simp; omega), idx_get e1, e3]
        refine ⟨_, rfl, ⟨t + 1, by omega, by omega, ?_, by simp only; rw [itp_succ]⟩, by simp; omega⟩
        rw [List.range_succ, List.map_append]; rfl
      · right
        have : t = k := by omega
        subst this
        have e : decide (itp pf t v' ≠ v') = false := decide_eq_false (fun h => h k3)
        simp only [e, cond_false]
        exact ⟨_, rfl, rfl⟩)
      m ([((vf v' : Nat) : Int)], pf v') ⟨1, Nat.le_refl _, k1, by simp [itp], by simp [itp]⟩ (by simp; omega)
    obtain ⟨r, hr, rfl⟩ := key
    exact hr
  refine ⟨_, vf, pf, v', k, ?_, k1, k2, k3, k4, fun w a b c => by obtain ⟨q, q1, q2, q3, q4, _⟩ := arc w a b c; exact ⟨q, q1, q2, q3, q4⟩, hv'in, rfl⟩
  unfold graph_around
  simp only [step1, bindJ_go]
  obtain ⟨a, e1, e2, e3, e4, e5⟩ := arc _ hv'in.1 hv'in.2.1 hv'in.2.2
  rw [idx_int hv'in.1 (by omega), g_el (by omega), e5, idx_get e1, e3, step2, bindJ_go, Reverse_eq (by simp; omega) m (by simp; omega)]
  rfl
/-- what Order answers for a valid network -/
theorem Order_ok {n : S_api_Net} (hn : okNet n) (m : Nat) (hm : 3000 ≤ m) : ∃ D, Ord n D ∧ (∀ w, ¬ Free_ n D w) ∧
    ((D.length = n.Nodes.toNat ∧ graph_Order m n = some (D, [], 0)) ∨ (D.length < n.Nodes.toNat ∧ ∃ cyc vf pf v k, graph_Order m n = some ([], cyc, 0) ∧ Cyc n D cyc vf pf v k)) := by
  have hN := hn.2.1
  have hA := hn.2.2.1
  have h00 := hn.1
  obtain ⟨x0, a1, a2, a3⟩ := left_eq hn m hm
  obtain ⟨h0, b1, b2⟩ := first_eq hn a2 a3 m hm
  obtain ⟨D, x, c1, c2⟩ := order_loop hn x0 h0 ⟨.nil, a2, a3, b2⟩ m hm
  have hDl := c2.ord.len hn
  simp only at hDl
  refine ⟨D, c2.ord, fun w => no_free c2 w, ?_⟩
  have hrun : graph_Order m n = (cond (decide ((D.length : Int) = n.Nodes)) (some (D, ([] : List Int), 0)) (need (0 ≤ n.Nodes ∧ n.Nodes ≤ 4294967296) (bindJ (S := List Int) (iter (graph_Order_L5 n x) m (0, List.replicate n.Nodes.toNat 0)) (fun x_99 =>
      obind (slices_IndexFunc_int_int_41 m x) fun r128 => obind (graph_around m n x_99 r128) fun r130 => some (([] : List Int), r130, 0))))) := by
    unfold graph_Order
    rw [Valid_eq n m (by omega)]
    simp only [hn, decide_true, obind, Option.bind_some, Bool.not_true, cond_false]
    rw [need_pos (by omega)]
    simp only [a1, b1, c1, bindJ_go]
  by_cases hc : D.length = n.Nodes.toNat
  · left
    refine ⟨hc, ?_⟩
    have e : decide ((D.length : Int) = n.Nodes) = true := by simp; omega
    rw [hrun, e]; rfl
  · right
    refine ⟨by omega, ?_⟩
    have e : decide ((D.length : Int) = n.Nodes) = false := by simp; omega
    obtain ⟨via, d1, d2, d3⟩ := via_eq hn c2 m hm
    have hxl := c2.len
    simp only at hxl
    obtain ⟨w, hw0, hw1, hwD⟩ : ∃ w : Int, 0 ≤ w ∧ w < n.Nodes ∧ w ∉ D := by
      refine Classical.byContradiction fun hcon => hc ?_
      have hall : ∀ w : Int, 0 ≤ w → w < n.Nodes → w ∈ D := fun w a b => Classical.byContradiction fun h => hcon ⟨w, a, b, h⟩
      have hr : ((List.range n.Nodes.toNat).map fun i : Nat => (i : Int)).Nodup := List.Pairwise.map _ (fun a b h e => h (by omega)) (List.nodup_range (n := n.Nodes.toNat))
      have := nodup_le _ D hr (fun y hy => by
        obtain ⟨i, hi, rfl⟩ := List.mem_map.1 hy
        simp at hi
        exact hall i (by omega) (by omega))
      simp at this; omega
    obtain ⟨i, i1, i2, i3⟩ := index_int (x := x) (by omega) ⟨w.toNat, by omega, (pos_iff c2 hw0 hw1).2 hwD⟩ m (by omega)
    have hiD : ((i : Nat) : Int) ∉ D := (pos_iff c2 (w := (i : Nat)) (by omega) (by omega)).1 (by simpa using i2)
    obtain ⟨cyc, vf, pf, v', k, q1, q2⟩ := around_eq hn d2 d3 (v := (i : Nat)) (by omega) (by omega) hiD m hm
    refine ⟨cyc, vf, pf, v', k, ?_, q2⟩
    rw [hrun, e]
    simp only [cond_false]
    rw [need_pos (by omega), d1, bindJ_go, i3]
    simp only [obind, Option.bind_some, q1]
theorem Order_bad {n : S_api_Net} (hn : ¬ okNet n) (m : Nat) (hm : n.Arcs.length < m) : graph_Order m n = some ([], [], 1) := by
  unfold graph_Order
  rw [Valid_eq n m hm]
  simp [hn, obind]
end Go.Proofs.Ytgelifcckhemiaa
