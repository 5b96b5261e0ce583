/-
  The plain law BucketKeepsItsRate.
-/
import Derived.Test.YtpalglggjndmlaaW4
import Derived.Test.YtpalglggjndmlaaPb
namespace Go.Proofs.Ytpalglggjndmlaa
open Go.Abs
set_option linter.unusedSimpArgs false
set_option linter.unusedVariables false

theorem wrapS {i n : Nat} (h : i < n) (hn : n ≤ 4294967296) : IntKind.i64.wrap ((i : Int) + 1) = ((i + 1 : Nat) : Int) := by rw [w64 (by omega) (by omega)]; omega
/-- a try: it gives the tokens, or it changes nothing -/
theorem take_try {b : B} {t n : Int} (h : OK b) (hn : 0 ≤ n ∧ n ≤ 255) (h1 : b.At ≤ t) (h2 : t ≤ 1099511627776) :
    ((take b t n).2 = 0 ∧ n * b.Den ≤ held b t ∧ (take b t n).1 = ⟨b.Cap, b.Num, b.Den, held b t - n * b.Den, t⟩) ∨ (take b t n).2 ≠ 0 := by
  by_cases h0 : 1 ≤ n
  · rw [take_case h ⟨h0, by omega⟩ h1 h2]
    by_cases hl : held b t < n * b.Den
    · right; simp [hl]
    · left; simp [hl]; omega
  · right
    have : ¬ (OK b ∧ 1 ≤ n ∧ n ≤ 1073741824) := fun x => h0 x.2.1
    simp [take, this]
abbrev Tries := List Int × List Int × Int × B
def next (s : Tries) (x : S_law12_Try) : Tries :=
  (s.1 ++ [s.2.2.1 + x.After], s.2.1 ++ [if (take s.2.2.2 (s.2.2.1 + x.After) x.N).2 = 0 then x.N else 0], s.2.2.1 + x.After,
    if (take s.2.2.2 (s.2.2.1 + x.After) x.N).2 = 0 then (take s.2.2.2 (s.2.2.1 + x.After) x.N).1 else s.2.2.2)
structure Inv (b0 : B) (i : Nat) (s : Tries) : Prop where
  l1 : s.1.length = i
  l2 : s.2.1.length = i
  ok : OK s.2.2.2
  cap : s.2.2.2.Cap = b0.Cap
  num : s.2.2.2.Num = b0.Num
  den : s.2.2.2.Den = b0.Den
  at1 : s.2.2.2.At ≤ s.2.2.1
  t1 : b0.At ≤ s.2.2.1
  t2 : s.2.2.1 ≤ b0.At + 255 * i
  tk : ∀ x ∈ s.2.1, 0 ≤ x ∧ x ≤ 255
  tm : ∀ x ∈ s.1, b0.At ≤ x ∧ x ≤ s.2.2.1
  p : ∀ (k : Nat) (y : Int), s.1[k]? = some y → (s.2.1.drop k).sum * b0.Den + held s.2.2.2 s.2.2.1 ≤ b0.Cap * b0.Den + b0.Num * (s.2.2.1 - y)
  q : s.2.1.sum * b0.Den + held s.2.2.2 s.2.2.1 ≤ b0.Level + b0.Num * (s.2.2.1 - b0.At)
theorem sum_one (l : List Int) (n : Int) : (l ++ [n]).sum = l.sum + n := by simp [List.sum_append]
theorem Inv.next {b0 : B} {i : Nat} {s : Tries} (h : Inv b0 i s) (h0 : OK b0) (hA : b0.At ≤ 1099511527776) (hi : i < 60) {x : S_law12_Try} (hx : x.wf) : Inv b0 (i + 1) (next s x) := by
  obtain ⟨times, taken, t, b⟩ := s
  obtain ⟨l1, l2, ok, cap, num, den, at1, t1, t2, tk, tm, p, q⟩ := h
  simp only at l1 l2 ok cap num den at1 t1 t2 tk tm p q
  have a1 := wf8 hx.1
  have a2 := wf8 hx.2.1
  have ht' : t + x.After ≤ 1099511627776 := by omega
  have hstep := held_step (b := b) (t := t) (u := t + x.After) ok at1 (by omega)
  have hadd : t + x.After - t = x.After := by omega
  have hN : 0 ≤ b0.Num := h0.2.2.1
  rw [hadd, cap, num, den] at hstep
  have hle := held_le (b := b) (t := t + x.After)
  rw [cap, den] at hle
  -- the new bucket and what it gave
  have key : ∃ (n : Int) (b' : B), Go.Proofs.Ytpalglggjndmlaa.next (times, taken, t, b) x = (times ++ [t + x.After], taken ++ [n], t + x.After, b') ∧ 0 ≤ n ∧ n ≤ 255 ∧ OK b' ∧ b'.Cap = b0.Cap ∧ b'.Num = b0.Num ∧ b'.Den = b0.Den ∧ b'.At ≤ t + x.After ∧
      held b' (t + x.After) = held b (t + x.After) - n * b0.Den := by
    rcases take_try ok a2 (show b.At ≤ t + x.After by omega) ht' with ⟨h1, h2, h3⟩ | h1
    · have hv : OK (⟨b.Cap, b.Num, b.Den, held b (t + x.After) - x.N * b.Den, t + x.After⟩ : B) := by
        have hr := ok.room
        obtain ⟨c1, c2, c3, c4, c5, c6, _, _, c9, _⟩ := ok
        have : 0 ≤ x.N * b.Den := Int.mul_nonneg a2.1 (by omega)
        have := held_le (b := b) (t := t + x.After)
        exact ⟨c1, c2, c3, c4, c5, c6, by dsimp only; omega, by dsimp only; omega, by dsimp only; omega, ht'⟩
      refine ⟨x.N, _, by simp only [Go.Proofs.Ytpalglggjndmlaa.next, h1, if_true, h3], a2.1, a2.2, hv, cap, num, den, Int.le_refl _, ?_⟩
      have := held_at hv
      simp only at this
      rw [this, den]
    · exact ⟨0, b, by simp only [Go.Proofs.Ytpalglggjndmlaa.next, h1, if_false], by omega, by omega, ok, cap, num, den, by omega, by omega⟩
  obtain ⟨n, b', e, n1, n2, ok', cap', num', den', at', hh⟩ := key
  rw [e]
  refine ⟨by simp [l1], by simp [l2], ok', cap', num', den', at', by dsimp only; omega, by dsimp only; omega, ?_, ?_, ?_, ?_⟩
  · intro y hy
    rcases List.mem_append.1 hy with hy | hy
    · exact tk y hy
    · rw [List.mem_singleton.1 hy]; exact ⟨n1, n2⟩
  · intro y hy
    rcases List.mem_append.1 hy with hy | hy
    · have := tm y hy; dsimp only; omega
    · rw [List.mem_singleton.1 hy]; dsimp only; omega
  · intro k y hy
    dsimp only at hy ⊢
    rw [hh]
    by_cases hk : k < i
    · rw [List.getElem?_append_left (by omega)] at hy
      have hp := p k y hy
      rw [List.drop_append_of_le_length (by omega), sum_one, Int.add_mul]
      have hs := mul_step b0.Num y t (t + x.After)
      rw [hadd] at hs
      omega
    · have hk2 : k = i := by
        have := (List.getElem?_eq_some_iff.1 hy).1
        simp [l1] at this; omega
      subst hk2
      rw [List.getElem?_append_right (by omega)] at hy
      simp [l1] at hy
      subst hy
      rw [List.drop_append_of_le_length (by omega), List.drop_of_length_le (by omega), List.nil_append, Int.sub_self, Int.mul_zero]
      simp only [List.sum_cons, List.sum_nil, Int.add_zero]
      omega
  · dsimp only
    rw [hh, sum_one, Int.add_mul]
    have hs := mul_step b0.Num b0.At t (t + x.After)
    rw [hadd] at hs
    omega
theorem sum_range {l : List Int} (h : ∀ x ∈ l, 0 ≤ x ∧ x ≤ 255) : 0 ≤ l.sum ∧ l.sum ≤ 255 * l.length := by
  induction l with
  | nil => simp
  | cons x r ih =>
    have h1 := ih fun y hy => h y (List.mem_cons_of_mem _ hy)
    have h2 := h x (List.mem_cons_self ..)
    simp only [List.sum_cons, List.length_cons]
    omega
/-- the sums, from the last try back -/
theorem inner {b0 : B} {i : Nat} {times taken : List Int} {t n : Int} {x : S_law12_Try} {b : B} (h0 : OK b0) (hA : b0.At ≤ 1099511527776) (hi : i < 60) (a : wfI .u8 x.After) (ht0 : b0.At ≤ t ∧ t ≤ b0.At + 255 * i)
    (h : Inv b0 (i + 1) (times ++ [t + x.After], taken ++ [n], t + x.After, b)) (m : Nat) (hm : i + 2 < m) :
    iter (law12_BucketKeepsItsRate_L2 times taken t x n b0.Cap b0.Num b0.Den) m (0, i) = some (.go (taken ++ [n]).sum) := by
  obtain ⟨l1, l2, ok, cap, num, den, at1, t1, t2, tk, tm, p, q⟩ := h
  simp only at l1 l2 ok cap num den at1 t1 t2 tk tm p q
  have hr := h0.room
  have a1 := wf8 a
  have hw : IntKind.i64.wrap (t + IntKind.i64.wrap x.After) = t + x.After := by
    have := h0.2.2.2.2.2.2.2.2
    rw [w64 (x := x.After) (by omega) (by omega), w64 (by omega) (by omega)]
  have hstep : ∀ s : Int × Int, (∃ k : Nat, k ≤ i + 1 ∧ s.2 = (k : Int) - 1 ∧ s.1 = ((taken ++ [n]).drop k).sum) →
      (∃ s', law12_BucketKeepsItsRate_L2 times taken t x n b0.Cap b0.Num b0.Den s = some (.go s') ∧ (∃ k : Nat, k ≤ i + 1 ∧ s'.2 = (k : Int) - 1 ∧ s'.1 = ((taken ++ [n]).drop k).sum) ∧ (s'.2 + 1).toNat < (s.2 + 1).toNat) ∨
      (∃ r, law12_BucketKeepsItsRate_L2 times taken t x n b0.Cap b0.Num b0.Den s = some (.stop r) ∧ r = .go (taken ++ [n]).sum) := by
    rintro ⟨sum, k'⟩ ⟨k, hk, rfl, rfl⟩
    cases k with
    | zero =>
      right
      exact ⟨_, by simp [law12_BucketKeepsItsRate_L2], rfl⟩
    | succ k =>
      left
      have hk1 : k < (taken ++ [n]).length := by omega
      have hk2 : k < (times ++ [t + x.After]).length := by omega
      have hkc : ((k + 1 : Nat) : Int) - 1 = (k : Int) := by omega
      refine ⟨(((taken ++ [n]).drop k).sum, (k : Int) - 1), ?_, ⟨k, by omega, rfl, rfl⟩, by simp only; omega⟩
      unfold law12_BucketKeepsItsRate_L2
      simp only [hkc, hw]
      have e : decide ((0 : Int) ≤ (k : Int)) = true := by simp
      have hp := p k _ (List.getElem?_eq_getElem hk2)
      have hmem := tm _ (List.getElem_mem hk2)
      have hd : ((taken ++ [n]).drop (k + 1)).sum + (taken ++ [n])[k] = ((taken ++ [n]).drop k).sum := by
        rw [List.drop_eq_getElem_cons hk1, List.sum_cons]; omega
      have hsr := sum_range (l := (taken ++ [n]).drop k) fun y hy => tk y (List.mem_of_mem_drop hy)
      have hlen : ((taken ++ [n]).drop k).length ≤ 60 := by rw [List.length_drop]; omega
      have hheld := held_nonneg ok at1 (by have := h0.2.2.2.2.2.2.2.2; omega)
      have hbd : 0 ≤ b0.Num * (t + x.After - (times ++ [t + x.After])[k]) ∧ b0.Num * (t + x.After - (times ++ [t + x.After])[k]) ≤ 1152921504606846976 :=
        mul_le h0.2.2.1 h0.2.2.2.1 (by omega) (by omega : t + x.After - (times ++ [t + x.After])[k] ≤ 1099511627776)
      have hsd : 0 ≤ ((taken ++ [n]).drop k).sum * b0.Den ∧ ((taken ++ [n]).drop k).sum * b0.Den ≤ 1125899906842624 := mul_bound hsr.1 (by omega) (by have := h0.2.2.2.2.1; omega) h0.2.2.2.2.2.1
      simp only [e, cond_true]
      rw [idx_get (List.getElem?_eq_getElem hk1), idx_get (List.getElem?_eq_getElem hk2), hd]
      have hat := h0.2.2.2.2.2.2.2.2
      rw [w64 (x := b0.Cap * b0.Den) (by omega) (by omega), w64 (x := t + x.After - (times ++ [t + x.After])[k]) (by omega) (by omega), w64 (x := b0.Num * (t + x.After - (times ++ [t + x.After])[k])) (by omega) (by omega),
        w64 (x := b0.Cap * b0.Den + b0.Num * (t + x.After - (times ++ [t + x.After])[k])) (by omega) (by omega), w64 (x := ((taken ++ [n]).drop k).sum) (by omega) (by omega), w64 (x := ((taken ++ [n]).drop k).sum * b0.Den) (by omega) (by omega),
        w64 (x := (k : Int) - 1) (by omega) (by omega)]
      have e2 : decide (b0.Cap * b0.Den + b0.Num * (t + x.After - (times ++ [t + x.After])[k]) < ((taken ++ [n]).drop k).sum * b0.Den) = false := by simp only [decide_eq_false_iff_not]; omega
      rw [e2]; rfl
  obtain ⟨r, hr1, hr2⟩ := iter_inv _ (fun s => (s.2 + 1).toNat) _ hstep m (0, (i : Int)) ⟨i + 1, by omega, by simp, by rw [List.drop_of_length_le (by omega)]; rfl⟩ (by simp; omega)
  rw [hr1, hr2]
theorem rate_loop {b0 : B} {l : List S_law12_Try} (h0 : OK b0) (hA : b0.At ≤ 1099511527776) (hl : l.length ≤ 60) (hw : ∀ x ∈ l, x.wf) (n : Nat) (hn : 100 ≤ n) :
    iter (law12_BucketKeepsItsRate_L1 n b0 l) n ([], [], b0.At, 0, b0.Cap, b0.Num, b0.Den, b0.Level, b0.At) = some (.go ()) := by
  have := iter_fold (l := l) (step := law12_BucketKeepsItsRate_L1 n b0 l) (fun (i : Nat) (s : Tries) => (s.1, s.2.1, s.2.2.1, (i : Int), s.2.2.2.Cap, s.2.2.2.Num, s.2.2.2.Den, s.2.2.2.Level, s.2.2.2.At)) (fun s x => .go (next s x)) (fun _ => .go ())
    (fun i s => Inv b0 i s ∧ i ≤ l.length) ?_ ?_ n 0 ([], [], b0.At, b0) ⟨⟨rfl, rfl, h0, rfl, rfl, rfl, Int.le_refl _, Int.le_refl _, by simp, by simp, by simp, by simp, ?_⟩, by omega⟩ (by omega) (by omega)
  · rw [foldL_go next (fun _ _ => rfl)] at this
    exact this
  · rintro i s x ⟨hi, hil⟩ hx
    have hlt := (List.getElem?_eq_some_iff.1 hx).1
    have hxw := hw x (List.mem_of_getElem? hx)
    have hnext := hi.next h0 hA (by omega) hxw
    refine ⟨?_, fun s' hs => by cases hs; exact ⟨hnext, by omega⟩⟩
    obtain ⟨times, taken, t, b⟩ := s
    obtain ⟨l1, l2, ok, cap, num, den, at1, t1, t2, tk, tm, p, q⟩ := hi
    simp only at l1 l2 ok cap num den at1 t1 t2 tk tm p q
    have a1 := wf8 hxw.1
    have a2 := wf8 hxw.2.1
    have hat := h0.2.2.2.2.2.2.2.2
    have e : decide ((i : Int) < (l.length : Int)) = true := by simpa using hlt
    unfold law12_BucketKeepsItsRate_L1
    simp only [e, cond_true]
    rw [idx_get hx, w64 (x := x.After) (by omega) (by omega), w64 (x := x.N) (by omega) (by omega), w64 (x := t + x.After) (by omega) (by omega), wrapS hlt (by omega)]
    rw [Take_eq, Option.bind_some]
    -- the two outcomes
    have hj : ∀ k : Int × Int × Int × Int × Int × Int → Option (Lp (List Int × List Int × Int × Int × Int × Int × Int × Int × Int) (Lp Unit Bool)),
        bindJ (cond (decide ((take b (t + x.After) x.N).2 = 0)) (some (.go (x.N, (take b (t + x.After) x.N).1.Cap, (take b (t + x.After) x.N).1.Num, (take b (t + x.After) x.N).1.Den, (take b (t + x.After) x.N).1.Level, (take b (t + x.After) x.N).1.At))) (some (.go (0, b.Cap, b.Num, b.Den, b.Level, b.At)))) k =
        k (if (take b (t + x.After) x.N).2 = 0 then x.N else 0, (next (times, taken, t, b) x).2.2.2.Cap, (next (times, taken, t, b) x).2.2.2.Num, (next (times, taken, t, b) x).2.2.2.Den, (next (times, taken, t, b) x).2.2.2.Level, (next (times, taken, t, b) x).2.2.2.At) := by
      intro k
      by_cases hz : (take b (t + x.After) x.N).2 = 0 <;> simp [hz, next]
    rw [hj]
    have hn1 : (next (times, taken, t, b) x).1 = times ++ [t + x.After] := rfl
    have hn2 : (next (times, taken, t, b) x).2.1 = taken ++ [if (take b (t + x.After) x.N).2 = 0 then x.N else 0] := rfl
    have hn3 : (next (times, taken, t, b) x).2.2.1 = t + x.After := rfl
    have hin := inner (x := x) (n := if (take b (t + x.After) x.N).2 = 0 then x.N else 0) h0 hA (by omega) hxw.1 ⟨t1, t2⟩ hnext n (by omega)
    rw [hnext.cap, hnext.num, hnext.den]
    dsimp only
    rw [need_pos (by simp; omega), need_pos (by simp; omega), hin]
    simp only [bindJ_go]
    rw [w64 (x := t + x.After + 1) (by omega) (by omega), (Most_both b0 b0.At (t + x.After + 1) ⟨by omega, by omega⟩ ⟨by omega, by omega⟩).1]
    have hm : most b0 b0.At (t + x.After + 1) = ((b0.Level + b0.Num * (t + x.After - b0.At)) / b0.Den, 0) := by
      unfold most
      have hr := refill_held h0 (Int.le_refl b0.At) hat.2
      rw [held_at h0] at hr
      rw [if_pos ⟨h0, by omega⟩, hr]
      simp only [if_true]
      rw [if_neg (by omega), if_neg (by omega), show t + x.After + 1 - 1 - b0.At = t + x.After - b0.At by omega]
    have hq := hnext.q
    have hheld := held_nonneg hnext.ok hnext.at1 (by rw [hn3]; omega)
    rw [hn2, hn3] at hq
    rw [hn3] at hheld
    have hle : (taken ++ [if (take b (t + x.After) x.N).2 = 0 then x.N else 0]).sum ≤ (b0.Level + b0.Num * (t + x.After - b0.At)) / b0.Den :=
      (Int.le_ediv_iff_mul_le (by have := h0.2.2.2.2.1; omega)).2 (by omega)
    have e3 : decide ((b0.Level + b0.Num * (t + x.After - b0.At)) / b0.Den < (taken ++ [if (take b (t + x.After) x.N).2 = 0 then x.N else 0]).sum) = false := by
      rw [decide_eq_false_iff_not]; omega
    simp only [Option.bind_some, hm, ne_eq, not_true_eq_false, decide_false, e3, Bool.or_self, cond_false, mapS_go, hnext.cap, hnext.num, hnext.den, hn1, hn2, hn3]
  · rintro s ⟨hs, _⟩
    unfold law12_BucketKeepsItsRate_L1
    simp
  · simp [held_at h0]
theorem rate_true (b : B) (l : List S_law12_Try) (hb : b.wf) (hw : ∀ x ∈ l, x.wf) : ∃ m, law12_BucketKeepsItsRate m b l = some true := by
  refine ⟨100, ?_⟩
  unfold law12_BucketKeepsItsRate
  rw [sanity_true 90, Valid_eq]
  by_cases h : l.length ≤ 60 ∧ OK b
  · have e : decide (60 < (l.length : Int)) = false := by simp; omega
    simp only [e, cond_false, Option.bind_some, bindJ_go, h.2, decide_true, Bool.not_true, Bool.false_or]
    by_cases hA : b.At ≤ 1099511527776
    · have e2 : decide (1099511527776 < b.At) = false := by simp; omega
      rw [e2, cond_false, rate_loop h.2 hA h.1 hw 100 (by omega)]
      rfl
    · have e2 : decide (1099511527776 < b.At) = true := by simp; omega
      rw [e2]; rfl
  · by_cases hl : l.length ≤ 60
    · have hv : ¬ OK b := fun x => h ⟨hl, x⟩
      have e : decide (60 < (l.length : Int)) = false := by simp; omega
      simp only [e, cond_false, Option.bind_some, bindJ_go, hv, decide_false, Bool.not_false, Bool.true_or, cond_true]
    · have e : decide (60 < (l.length : Int)) = true := by simp; omega
      simp only [e, cond_true, bindJ_go, Bool.true_or, Option.bind_some]
end Go.Proofs.Ytpalglggjndmlaa
