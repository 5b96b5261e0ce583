/-
  The plain law BucketPartsKeepTheRate.
-/
import Derived.Test.YtpalglggjndmlaaW8
import Derived.Test.YtpalglggjndmlaaPc
namespace Go.Proofs.Ytpalglggjndmlaa
open Go.Abs
set_option linter.unusedSimpArgs false
set_option linter.unusedVariables false

theorem wrapS8 {i n : Nat} (h : i < n) (hn : n ≤ 4294967296) : IntKind.i64.wrap ((i : Int) + 1) = ((i + 1 : Nat) : Int) := wrapS h hn
/-- a sum over buckets -/
def sumBy (f : B → Int) : List B → Int
  | [] => 0
  | x :: r => f x + sumBy f r
theorem sumBy_map (f : B → Int) (g : B → B) : ∀ l : List B, sumBy f (l.map g) = sumBy (fun x => f (g x)) l
  | [] => rfl
  | x :: r => by simp only [List.map_cons, sumBy, sumBy_map f g r]
theorem sumBy_nonneg {f : B → Int} : ∀ {l : List B}, (∀ x ∈ l, 0 ≤ f x) → 0 ≤ sumBy f l
  | [], _ => by simp [sumBy]
  | x :: r, h => by
    have h1 := h x (List.mem_cons_self ..)
    have h2 := sumBy_nonneg (l := r) fun y hy => h y (List.mem_cons_of_mem _ hy)
    simp only [sumBy]; omega
theorem sumBy_mem {f : B → Int} : ∀ {l : List B} {i : Nat} {x : B}, (∀ x ∈ l, 0 ≤ f x) → l[i]? = some x → f x ≤ sumBy f l
  | y :: r, 0, x, h, hx => by
    simp at hx; subst hx
    have h2 := sumBy_nonneg (l := r) fun z hz => h z (List.mem_cons_of_mem _ hz)
    simp only [sumBy]; omega
  | y :: r, i + 1, x, h, hx => by
    have h1 := h y (List.mem_cons_self ..)
    have := sumBy_mem (l := r) (i := i) (fun z hz => h z (List.mem_cons_of_mem _ hz)) (by simpa using hx)
    simp only [sumBy]; omega
theorem sumBy_set {f : B → Int} : ∀ {l : List B} {i : Nat} {x : B} (y : B), l[i]? = some x → sumBy f (l.set i y) = sumBy f l - f x + f y
  | z :: r, 0, x, y, hx => by simp at hx; subst hx; simp only [List.set_cons_zero, sumBy]; omega
  | z :: r, i + 1, x, y, hx => by
    have := sumBy_set (f := f) (l := r) (i := i) y (by simpa using hx)
    simp only [List.set_cons_succ, sumBy]; omega
theorem sumBy_same {f g : B → Int} : ∀ {l : List B}, (∀ x ∈ l, f x = g x) → sumBy f l = sumBy g l
  | [], _ => rfl
  | x :: r, h => by
    simp only [sumBy]
    rw [h x (List.mem_cons_self ..), sumBy_same (l := r) fun y hy => h y (List.mem_cons_of_mem _ hy)]
/-- buckets that are parts, at an instant -/
structure Fam (D : Int) (t : Int) (l : List B) : Prop where
  ok : ∀ p ∈ l, OK p
  den : ∀ p ∈ l, p.Den = D
  at1 : ∀ p ∈ l, p.At ≤ t
theorem Fam.tail {D t : Int} {x : B} {r : List B} (h : Fam D t (x :: r)) : Fam D t r :=
  ⟨fun p hp => h.ok p (List.mem_cons_of_mem _ hp), fun p hp => h.den p (List.mem_cons_of_mem _ hp), fun p hp => h.at1 p (List.mem_cons_of_mem _ hp)⟩
theorem fam_later {D t u : Int} (htu : t ≤ u) : ∀ {l : List B}, Fam D t l → sumBy (fun p => held p u) l ≤ sumBy (·.Cap) l * D ∧ sumBy (fun p => held p u) l ≤ sumBy (fun p => held p t) l + sumBy (·.Num) l * (u - t)
  | [], _ => by simp [sumBy]
  | x :: r, h => by
    obtain ⟨h1, h2⟩ := fam_later htu h.tail
    have ho := h.ok x (List.mem_cons_self ..)
    have hs := held_step ho (h.at1 x (List.mem_cons_self ..)) htu
    have hd := h.den x (List.mem_cons_self ..)
    simp only [sumBy]
    rw [Int.add_mul, Int.add_mul]
    rw [hd] at hs
    omega
theorem fam_nonneg {D t : Int} (ht : t ≤ 1099511627776) {l : List B} (h : Fam D t l) : ∀ x ∈ l, 0 ≤ (fun p => held p t) x := fun x hx => held_nonneg (h.ok x hx) (h.at1 x hx) ht
/-- the sums of parts that are alike -/
theorem sums_alike (x0 : B) : ∀ (l : List B) (a b c : Int), 0 ≤ a → 0 ≤ b → 0 ≤ c → (∀ x ∈ l, OK x ∧ x.Den = x0.Den ∧ x.At = x0.At) →
    a + sumBy (·.Cap) l ≤ 1152921504606846976 → b + sumBy (·.Num) l ≤ 1152921504606846976 → c + sumBy (·.Level) l ≤ 1152921504606846976 →
    sumsOf x0 (a, b, c) l = some (a + sumBy (·.Cap) l, b + sumBy (·.Num) l, c + sumBy (·.Level) l)
  | [], a, b, c, _, _, _, _, _, _, _ => by simp [sumsOf, sumBy]
  | x :: r, a, b, c, ha, hb, hc, h, h1, h2, h3 => by
    have hx := h x (List.mem_cons_self ..)
    have hr := fun y hy => h y (List.mem_cons_of_mem (a := y) x hy)
    have n1 := sumBy_nonneg (f := (·.Cap)) (l := r) fun y hy => (hr y hy).1.1
    have n2 := sumBy_nonneg (f := (·.Num)) (l := r) fun y hy => (hr y hy).1.2.2.1
    have n3 := sumBy_nonneg (f := (·.Level)) (l := r) fun y hy => (hr y hy).1.2.2.2.2.2.2.1
    have m1 := hx.1.1
    have m2 := hx.1.2.2.1
    have m3 := hx.1.2.2.2.2.2.2.1
    simp only [sumBy] at h1 h2 h3 ⊢
    simp only [sumsOf, if_pos hx]
    rw [w64 (by omega) (by omega), w64 (by omega) (by omega), w64 (by omega) (by omega), sums_alike x0 r _ _ _ (by omega) (by omega) (by omega) hr (by omega) (by omega) (by omega)]
    simp only [Int.add_assoc]
theorem merge_alike {x0 : B} {r : List B} (h : ∀ x ∈ x0 :: r, OK x ∧ x.Den = x0.Den ∧ x.At = x0.At) (hl : (x0 :: r).length ≤ 64) (hc : sumBy (·.Cap) (x0 :: r) ≤ 1073741824) (hn : sumBy (·.Num) (x0 :: r) ≤ 1048576)
    (hv : sumBy (·.Level) (x0 :: r) ≤ sumBy (·.Cap) (x0 :: r) * x0.Den) : merge (x0 :: r) = (⟨sumBy (·.Cap) (x0 :: r), sumBy (·.Num) (x0 :: r), x0.Den, sumBy (·.Level) (x0 :: r), x0.At⟩, 0) := by
  have n1 := sumBy_nonneg (f := (·.Cap)) (l := x0 :: r) fun y hy => (h y hy).1.1
  have n2 := sumBy_nonneg (f := (·.Num)) (l := x0 :: r) fun y hy => (h y hy).1.2.2.1
  have n3 := sumBy_nonneg (f := (·.Level)) (l := x0 :: r) fun y hy => (h y hy).1.2.2.2.2.2.2.1
  obtain ⟨c1, c2, c3, c4, c5, c6, c7, c8, c9, c10⟩ := (h x0 (List.mem_cons_self ..)).1
  have hm := mul_bound n1 hc (by omega) c6
  have ho : OK ⟨sumBy (·.Cap) (x0 :: r), sumBy (·.Num) (x0 :: r), x0.Den, sumBy (·.Level) (x0 :: r), x0.At⟩ := ⟨n1, hc, n2, hn, c5, c6, n3, hv, c9, c10⟩
  simp only [merge]
  rw [if_neg (by omega), sums_alike x0 (x0 :: r) 0 0 0 (by omega) (by omega) (by omega) h (by omega) (by omega) (by omega)]
  simp only [Int.zero_add, ho, if_true]

/-- the parts of a bucket, one by one -/
def partsR (b : B) : Int → List (Int × Int) → List B
  | _, [] => []
  | left, x :: r => ⟨x.1, x.2, b.Den, min left (x.1 * b.Den), b.At⟩ :: partsR b (left - min left (x.1 * b.Den)) r
theorem leftOf_zero : ∀ {l : List Int} {w : Int}, leftOf w l = some 0 → l.sum = w ∧ ∀ x ∈ l, 0 ≤ x ∧ x ≤ w
  | [], w, h => by simp [leftOf] at h; subst h; simp
  | x :: r, w, h => by
    simp only [leftOf] at h
    by_cases h0 : x < 0 ∨ w < x
    · rw [if_pos h0] at h; simp at h
    · rw [if_neg h0] at h
      obtain ⟨h1, h2⟩ := leftOf_zero h
      refine ⟨by rw [List.sum_cons]; omega, fun y hy => ?_⟩
      rcases List.mem_cons.1 hy with rfl | hy
      · omega
      · have := h2 y hy; omega
theorem parts_eq (b : B) (h : OK b) : ∀ (l : List (Int × Int)) (out : List B) (left : Int), (∀ x ∈ l, 0 ≤ x.1 ∧ x.1 ≤ b.Cap) → 0 ≤ left → left ≤ b.Level → (l.foldl (partG b) (out, left)).1 = out ++ partsR b left l
  | [], out, left, _, _, _ => by simp [partsR]
  | x :: r, out, left, hx, h1, h2 => by
    have hx0 := hx x (List.mem_cons_self ..)
    have hr := h.room
    obtain ⟨c1, c2, c3, c4, c5, c6, c7, c8, c9, c10⟩ := id h
    have hm := mul_bound (a := x.1) (b := b.Den) hx0.1 (by omega) (by omega) c6
    rw [List.foldl_cons]
    have e : partG b (out, left) x = (out ++ [⟨x.1, x.2, b.Den, min left (x.1 * b.Den), b.At⟩], left - min left (x.1 * b.Den)) := by
      unfold partG
      rw [w64 (x := x.1 * b.Den) (by omega) (by omega), w64 (by dsimp only; omega) (by dsimp only; omega)]
    rw [e, parts_eq b h r _ _ (fun y hy => hx y (List.mem_cons_of_mem _ hy)) (by omega) (by omega)]
    simp [partsR]
theorem partsR_all (b : B) (h : OK b) : ∀ (l : List (Int × Int)) (left : Int), (∀ x ∈ l, 0 ≤ x.1 ∧ x.1 ≤ b.Cap ∧ 0 ≤ x.2 ∧ x.2 ≤ b.Num) → 0 ≤ left → ∀ p ∈ partsR b left l, OK p ∧ p.Den = b.Den ∧ p.At = b.At
  | [], left, _, _ => by simp [partsR]
  | x :: r, left, hx, h1 => by
    have hx0 := hx x (List.mem_cons_self ..)
    obtain ⟨c1, c2, c3, c4, c5, c6, c7, c8, c9, c10⟩ := id h
    have hm := mul_bound (a := x.1) (b := b.Den) hx0.1 (by omega) (by omega) c6
    intro p hp
    rcases List.mem_cons.1 hp with rfl | hp
    · exact ⟨⟨hx0.1, by dsimp only; omega, hx0.2.2.1, by dsimp only; omega, c5, c6, by dsimp only; omega, by dsimp only; omega, c9, c10⟩, rfl, rfl⟩
    · exact partsR_all b h r _ (fun y hy => hx y (List.mem_cons_of_mem _ hy)) (by omega) p hp
theorem partsR_sums (b : B) (hd : 0 ≤ b.Den) : ∀ (l : List (Int × Int)) (left : Int), (∀ x ∈ l, 0 ≤ x.1) → 0 ≤ left → left ≤ (l.map (·.1)).sum * b.Den →
    sumBy (·.Cap) (partsR b left l) = (l.map (·.1)).sum ∧ sumBy (·.Num) (partsR b left l) = (l.map (·.2)).sum ∧ sumBy (·.Level) (partsR b left l) = left
  | [], left, _, h1, h2 => by simp at h2; simp [partsR, sumBy]; omega
  | x :: r, left, hx, h1, h2 => by
    have hx0 : 0 ≤ x.1 * b.Den := Int.mul_nonneg (hx x (List.mem_cons_self ..)) hd
    have hs : 0 ≤ (r.map (·.1)).sum * b.Den := by
      refine Int.mul_nonneg ?_ hd
      have : ∀ q : List (Int × Int), (∀ x ∈ q, 0 ≤ x.1) → 0 ≤ (q.map (·.1)).sum := by
        intro q
        induction q with
        | nil => simp
        | cons y q ih => intro hq; have := hq y (List.mem_cons_self ..); have := ih fun z hz => hq z (List.mem_cons_of_mem _ hz); simp only [List.map_cons, List.sum_cons]; omega
      exact this r fun y hy => hx y (List.mem_cons_of_mem _ hy)
    rw [List.map_cons, List.sum_cons, Int.add_mul] at h2
    obtain ⟨e1, e2, e3⟩ := partsR_sums b hd r (left - min left (x.1 * b.Den)) (fun y hy => hx y (List.mem_cons_of_mem _ hy)) (by omega) (by omega)
    simp only [partsR, sumBy, List.map_cons, List.sum_cons]
    rw [e1, e2, e3]
    exact ⟨rfl, rfl, by omega⟩
theorem partsR_length (b : B) : ∀ (l : List (Int × Int)) (left : Int), (partsR b left l).length = l.length
  | [], _ => rfl
  | x :: r, left => by simp [partsR, partsR_length b r]

/-- what the parts and the whole hold -/
structure Jnv (b0 : B) (m : Nat) (i : Nat) (t : Int) (w : B) (xs : List B) : Prop where
  ok : OK w
  cap : w.Cap = b0.Cap
  num : w.Num = b0.Num
  den : w.Den = b0.Den
  at1 : w.At ≤ t
  t1 : b0.At ≤ t
  t2 : t ≤ b0.At + 255 * i
  len : xs.length = m
  fam : Fam b0.Den t xs
  caps : sumBy (·.Cap) xs = b0.Cap
  nums : sumBy (·.Num) xs = b0.Num
  le : sumBy (fun p => held p t) xs ≤ held w t
theorem Jnv.later {b0 : B} {m i : Nat} {t u : Int} {w : B} {xs : List B} (h : Jnv b0 m i t w xs) (h1 : t ≤ u) (h2 : u ≤ t + 255) : Jnv b0 m (i + 1) u w xs := by
  obtain ⟨ok, cap, num, den, at1, t1, t2, len, fam, caps, nums, le⟩ := h
  obtain ⟨e1, e2⟩ := fam_later h1 fam
  have hs := held_step ok at1 h1
  rw [cap, num, den] at hs
  rw [caps] at e1
  rw [nums] at e2
  exact ⟨ok, cap, num, den, by omega, by omega, by omega, len, ⟨fam.ok, fam.den, fun p hp => by have := fam.at1 p hp; omega⟩, caps, nums, by omega⟩
theorem take_try {b : B} {t n : Int} (h : OK b) (hn : 0 ≤ n ∧ n ≤ 255) (h1 : b.At ≤ t) (h2 : t ≤ 1099511627776) :
    (take b t n = (⟨b.Cap, b.Num, b.Den, held b t - n * b.Den, t⟩, 0) ∧ 1 ≤ n ∧ n * b.Den ≤ held b t) ∨ (take b t n).2 ≠ 0 := by
  by_cases h0 : 1 ≤ n
  · rw [take_case h ⟨h0, by omega⟩ h1 h2]
    by_cases hl : held b t < n * b.Den
    · right; simp [hl]
    · left; simp [hl]; omega
  · right
    have : ¬ (OK b ∧ 1 ≤ n ∧ n ≤ 1073741824) := fun x => h0 x.2.1
    simp [take, this]
theorem taken_ok {b : B} {t n : Int} (h : OK b) (hn : 0 ≤ n) (h1 : b.At ≤ t) (h2 : t ≤ 1099511627776) (h3 : n * b.Den ≤ held b t) : OK ⟨b.Cap, b.Num, b.Den, held b t - n * b.Den, t⟩ := by
  obtain ⟨c1, c2, c3, c4, c5, c6, _, _, c9, _⟩ := id h
  have : 0 ≤ n * b.Den := Int.mul_nonneg hn (by omega)
  have := held_le (b := b) (t := t)
  exact ⟨c1, c2, c3, c4, c5, c6, by dsimp only; omega, by dsimp only; omega, by dsimp only; omega, h2⟩
theorem Jnv.taken {b0 : B} {m i k : Nat} {t n : Int} {w p : B} {xs : List B} (h : Jnv b0 m i t w xs) (ht : t ≤ 1099511627776) (hn : 1 ≤ n ∧ n ≤ 255) (hp : xs[k]? = some p) (hh : n * p.Den ≤ held p t) :
    take w t n = (⟨w.Cap, w.Num, w.Den, held w t - n * w.Den, t⟩, 0) ∧ Jnv b0 m i t ⟨w.Cap, w.Num, w.Den, held w t - n * w.Den, t⟩ (xs.set k ⟨p.Cap, p.Num, p.Den, held p t - n * p.Den, t⟩) := by
  obtain ⟨ok, cap, num, den, at1, t1, t2, len, fam, caps, nums, le⟩ := h
  have hmem := List.mem_of_getElem? hp
  have hpo := fam.ok p hmem
  have hpd := fam.den p hmem
  have hpa := fam.at1 p hmem
  have hle := sumBy_mem (f := fun p => held p t) (fam_nonneg ht fam) hp
  have hw : n * w.Den ≤ held w t := by rw [den]; rw [hpd] at hh; omega
  have o1 := taken_ok ok (by omega) at1 ht hw
  have o2 := taken_ok hpo (by omega) hpa ht hh
  refine ⟨take_high ok (by omega) at1 ht hw, o1, cap, num, den, Int.le_refl _, t1, t2, by rw [List.length_set]; exact len, ⟨?_, ?_, ?_⟩, ?_, ?_, ?_⟩
  · intro q hq
    rcases List.mem_or_eq_of_mem_set hq with hq | rfl
    · exact fam.ok q hq
    · exact o2
  · intro q hq
    rcases List.mem_or_eq_of_mem_set hq with hq | rfl
    · exact fam.den q hq
    · exact hpd
  · intro q hq
    rcases List.mem_or_eq_of_mem_set hq with hq | rfl
    · exact fam.at1 q hq
    · exact Int.le_refl _
  · rw [sumBy_set _ hp]; dsimp only; omega
  · rw [sumBy_set _ hp]; dsimp only; omega
  · rw [sumBy_set _ hp]
    have e1 := held_at o1
    have e2 := held_at o2
    simp only at e1 e2 ⊢
    rw [e1, e2, den, hpd]
    omega
abbrev St8 := Int × B × List B
def next8 (s : St8) (x : S_law12_Try) : St8 :=
  match s.2.2[(x.Part.tmod (s.2.2.length : Int)).toNat]? with
  | none => (s.1 + x.After, s.2.1, s.2.2)
  | some p => if (take p (s.1 + x.After) x.N).2 ≠ 0 then (s.1 + x.After, s.2.1, s.2.2)
    else (s.1 + x.After, (take s.2.1 (s.1 + x.After) x.N).1, s.2.2.set (x.Part.tmod (s.2.2.length : Int)).toNat (take p (s.1 + x.After) x.N).1)
theorem loop8 {b0 : B} {m : Nat} {xs0 : List B} {l : List S_law12_Try} (hA : 0 ≤ b0.At ∧ b0.At ≤ 1099511527776) (hm : 1 ≤ m ∧ m ≤ 64) (hl : l.length ≤ 60) (hw : ∀ x ∈ l, x.wf) (h0 : Jnv b0 m 0 b0.At b0 xs0) (n : Nat) (hn : 100 ≤ n) :
    ∃ t w xs, Jnv b0 m l.length t w xs ∧ iter (law12_BucketPartsKeepTheRate_L1 l) n (b0.At, 0, b0.Cap, b0.Num, b0.Den, b0.Level, b0.At, xs0) = some (.go (t, w.Cap, w.Num, w.Den, w.Level, w.At, xs)) := by
  have hnext : ∀ (i : Nat) (s : St8) (x : S_law12_Try), Jnv b0 m i s.1 s.2.1 s.2.2 → l[i]? = some x →
      law12_BucketPartsKeepTheRate_L1 l (s.1, (i : Int), s.2.1.Cap, s.2.1.Num, s.2.1.Den, s.2.1.Level, s.2.1.At, s.2.2) =
        some (.go ((next8 s x).1, ((i + 1 : Nat) : Int), (next8 s x).2.1.Cap, (next8 s x).2.1.Num, (next8 s x).2.1.Den, (next8 s x).2.1.Level, (next8 s x).2.1.At, (next8 s x).2.2)) ∧
      Jnv b0 m (i + 1) (next8 s x).1 (next8 s x).2.1 (next8 s x).2.2 := by
    rintro i ⟨t, w, xs⟩ x hJ hx
    dsimp only at hJ
    have hlt := (List.getElem?_eq_some_iff.1 hx).1
    have hxw := hw x (List.mem_of_getElem? hx)
    have a1 := wf8 hxw.1
    have a2 := wf8 hxw.2.1
    have a3 := wf8 hxw.2.2
    have hlen := hJ.len
    have ht1 := hJ.t1
    have ht2 := hJ.t2
    have hL := hJ.later (show t ≤ t + x.After by omega) (show t + x.After ≤ t + 255 by omega)
    have hmod : x.Part.tmod (xs.length : Int) = x.Part % (xs.length : Int) := Int.tmod_eq_emod_of_nonneg a3.1
    have hm0 : 0 ≤ x.Part % (xs.length : Int) := Int.emod_nonneg _ (by omega)
    have hm1 : x.Part % (xs.length : Int) < (xs.length : Int) := Int.emod_lt_of_pos _ (by omega)
    have e : decide ((i : Int) < (l.length : Int)) = true := by simpa using hlt
    obtain ⟨k, hk⟩ : ∃ k : Nat, x.Part % (xs.length : Int) = (k : Int) := ⟨(x.Part % (xs.length : Int)).toNat, by omega⟩
    have hkl : k < xs.length := by omega
    have hp := List.getElem?_eq_getElem hkl
    have hpm : xs[k] ∈ xs := List.getElem_mem hkl
    have hpo := hL.fam.ok _ hpm
    have hpa := hL.fam.at1 _ hpm
    have hkn : (x.Part.tmod (xs.length : Int)).toNat = k := by rw [hmod, hk]; omega
    have hN8 : next8 (t, w, xs) x = if (take xs[k] (t + x.After) x.N).2 ≠ 0 then (t + x.After, w, xs) else (t + x.After, (take w (t + x.After) x.N).1, xs.set k (take xs[k] (t + x.After) x.N).1) := by
      simp only [next8, hkn, hp]
    unfold law12_BucketPartsKeepTheRate_L1
    simp only [e, cond_true]
    rw [idx_get hx, w64 (x := x.After) (by omega) (by omega), w64 (x := x.N) (by omega) (by omega), w64 (x := x.Part) (by omega) (by omega), w64 (x := t + x.After) (by omega) (by omega), wrapS8 hlt (by omega),
      need_pos (by omega), hkn, hmod, hk, idx_get hp, Take_eq, Take_eq]
    rw [hN8]
    rcases take_try hpo a2 hpa (by omega) with ⟨h1, h2, h3⟩ | h1
    · obtain ⟨g1, g2⟩ := hL.taken (by omega) ⟨h2, a2.2⟩ hp h3
      have hww : take ⟨w.Cap, w.Num, w.Den, w.Level, w.At⟩ (t + x.After) x.N = take w (t + x.After) x.N := rfl
      rw [hww]
      simp only [h1, g1, Option.bind_some, ne_eq, not_true_eq_false, decide_false, cond_false, bindJ_go, if_false]
      exact ⟨trivial, g2⟩
    · simp only [h1, Option.bind_some, ne_eq, not_false_eq_true, decide_true, cond_true, bindJ_go, if_true]
      exact ⟨trivial, hL⟩
  have := iter_fold (l := l) (step := law12_BucketPartsKeepTheRate_L1 l) (fun (i : Nat) (s : St8) => (s.1, (i : Int), s.2.1.Cap, s.2.1.Num, s.2.1.Den, s.2.1.Level, s.2.1.At, s.2.2)) (fun s x => .go (next8 s x))
    (fun s => .go (s.1, s.2.1.Cap, s.2.1.Num, s.2.1.Den, s.2.1.Level, s.2.1.At, s.2.2)) (fun i s => Jnv b0 m i s.1 s.2.1 s.2.2) ?_ ?_ n 0 (b0.At, b0, xs0) h0 (by omega) (by omega)
  · rw [foldL_go next8 (fun _ _ => rfl)] at this
    have hJ : ∀ (q : List S_law12_Try) (i : Nat) (s : St8), Jnv b0 m i s.1 s.2.1 s.2.2 → i ≤ l.length → l.drop i = q → Jnv b0 m l.length (q.foldl next8 s).1 (q.foldl next8 s).2.1 (q.foldl next8 s).2.2 := by
      intro q
      induction q with
      | nil =>
        intro i s h hi hq
        have hge := List.drop_eq_nil_iff.1 hq
        have : i = l.length := by omega
        subst this
        exact h
      | cons x q ih =>
        intro i s h hi hq
        have hlt : i < l.length := by
          rcases Nat.lt_or_ge i l.length with h | h
          · exact h
          · rw [List.drop_eq_nil_iff.2 h] at hq; cases hq
        rw [List.drop_eq_getElem_cons hlt] at hq
        injection hq with hq1 hq2
        rw [List.foldl_cons]
        exact ih (i + 1) _ (hnext i s x h (by rw [List.getElem?_eq_getElem hlt, hq1])).2 (by omega) hq2
    exact ⟨_, _, _, hJ l 0 (b0.At, b0, xs0) h0 (by omega) (by simp), this⟩
  · intro i s x hi hx
    obtain ⟨h1, h2⟩ := hnext i s x hi hx
    exact ⟨h1, fun s' hs => by cases hs; exact h2⟩
  · intro s _
    unfold law12_BucketPartsKeepTheRate_L1
    simp
theorem loop9 {D t : Int} {xs : List B} (hf : Fam D t xs) (ht : t ≤ 1099511627776) (hl : xs.length ≤ 64) (n : Nat) (hn : 100 ≤ n) :
    iter (law12_BucketPartsKeepTheRate_L2 t) n (0, xs) = some (.go (xs.map fun p => ⟨p.Cap, p.Num, p.Den, held p t, t⟩)) := by
  have := iter_fold (l := xs) (step := law12_BucketPartsKeepTheRate_L2 t) (fun (i : Nat) (s : Unit) => ((i : Int), (xs.take i).map (fun p => (⟨p.Cap, p.Num, p.Den, held p t, t⟩ : B)) ++ xs.drop i)) (fun s x => .go ())
    (fun s => .go (xs.map fun p => (⟨p.Cap, p.Num, p.Den, held p t, t⟩ : B))) (fun i s => True) ?_ ?_ n 0 () trivial (by omega) (by omega)
  · rw [foldL_go (fun _ _ => ()) (fun _ _ => rfl)] at this
    simpa using this
  · intro i s x _ hx
    have hlt := (List.getElem?_eq_some_iff.1 hx).1
    refine ⟨?_, fun _ _ => trivial⟩
    have hlen : ((xs.take i).map (fun p => (⟨p.Cap, p.Num, p.Den, held p t, t⟩ : B)) ++ xs.drop i).length = xs.length := by simp; omega
    have hti : ((xs.take i).map (fun p => (⟨p.Cap, p.Num, p.Den, held p t, t⟩ : B))).length = i := by simp; omega
    have hget : ((xs.take i).map (fun p => (⟨p.Cap, p.Num, p.Den, held p t, t⟩ : B)) ++ xs.drop i)[i]? = some x := by
      rw [List.getElem?_append_right (by omega), hti, Nat.sub_self, List.getElem?_drop]; simpa using hx
    have hmem := List.mem_of_getElem? hx
    have hrf := refill_held (hf.ok x hmem) (hf.at1 x hmem) ht
    unfold law12_BucketPartsKeepTheRate_L2
    have e : decide ((i : Int) < ((((xs.take i).map (fun p => (⟨p.Cap, p.Num, p.Den, held p t, t⟩ : B)) ++ xs.drop i).length : Nat) : Int)) = true := by rw [hlen]; simpa using hlt
    simp only [e, cond_true]
    rw [idx_get hget, Refill_eq, hrf, wrapS hlt (by omega)]
    simp only [Option.bind_some, ne_eq, not_true_eq_false, decide_false, cond_false, mapS_go]
    congr 3
    have h2 : (i : Int).toNat = i := by omega
    rw [h2, List.set_append_right _ _ (by omega), hti, Nat.sub_self, List.drop_eq_getElem_cons hlt, List.set_cons_zero]
    rw [List.take_succ_eq_append_getElem hlt, List.map_append, List.append_assoc]
    have : xs[i] = x := by
      have := List.getElem?_eq_getElem hlt
      rw [hx] at this; exact (Option.some.inj this).symm
    simp [this]
  · intro s _
    unfold law12_BucketPartsKeepTheRate_L2
    simp
theorem sum_map_fst {a b : List Int} (h : b.length = a.length) : ((a.zip b).map (·.1)).sum = a.sum := by rw [List.map_fst_zip (by omega)]
theorem sum_map_snd {a b : List Int} (h : b.length = a.length) : ((a.zip b).map (·.2)).sum = b.sum := by rw [List.map_snd_zip (by omega)]
theorem keep_true (b : B) (caps nums : List Int) (l : List S_law12_Try) (hb : b.wf) (_ : ∀ n ∈ caps, wfI .i64 n) (_ : ∀ n ∈ nums, wfI .i64 n) (hw : ∀ x ∈ l, x.wf) : ∃ m, law12_BucketPartsKeepTheRate m b caps nums l = some true := by
  refine ⟨100, ?_⟩
  unfold law12_BucketPartsKeepTheRate
  rw [sanity_true 90, Valid_eq]
  by_cases h : (caps.length ≤ 64 ∧ l.length ≤ 60) ∧ OK b
  · obtain ⟨⟨h1, h2⟩, hv⟩ := h
    have e : (decide (64 < (caps.length : Int)) || decide (60 < (l.length : Int))) = false := by simp; omega
    simp only [e, cond_false, Option.bind_some, bindJ_go, hv, decide_true, Bool.not_true, Bool.false_or]
    by_cases hA : b.At ≤ 1099511527776
    · have e2 : decide (1099511527776 < b.At) = false := by simp; omega
      rw [e2, cond_false, Split_eq b caps nums (by omega) 100 (by omega)]
      by_cases hs : OK b ∧ 1 ≤ caps.length ∧ caps.length ≤ 64 ∧ nums.length = caps.length ∧ leftOf b.Cap caps = some 0 ∧ leftOf b.Num nums = some 0
      · have hsp : split b caps nums = (parts b caps nums, 0) := by unfold split; rw [if_pos hs]
        obtain ⟨_, q1, q2, q3, q4, q5⟩ := hs
        obtain ⟨s1, s2⟩ := leftOf_zero q4
        obtain ⟨s3, s4⟩ := leftOf_zero q5
        have hr := hv.room
        obtain ⟨c1, c2, c3, c4, c5, c6, c7, c8, c9, c10⟩ := id hv
        have hz : ∀ x ∈ caps.zip nums, (0 ≤ x.1 ∧ x.1 ≤ b.Cap) ∧ 0 ≤ x.2 ∧ x.2 ≤ b.Num := fun x hx => ⟨s2 _ (List.of_mem_zip hx).1, s4 _ (List.of_mem_zip hx).2⟩
        have hpe : parts b caps nums = partsR b b.Level (caps.zip nums) := by
          unfold parts
          rw [parts_eq b hv _ _ _ (fun x hx => (hz x hx).1) c7 (Int.le_refl _)]; rfl
        have hall := partsR_all b hv (caps.zip nums) b.Level (fun x hx => ⟨(hz x hx).1.1, (hz x hx).1.2, (hz x hx).2.1, (hz x hx).2.2⟩) c7
        obtain ⟨u1, u2, u3⟩ := partsR_sums b (by omega) (caps.zip nums) b.Level (fun x hx => (hz x hx).1.1) c7 (by rw [sum_map_fst q3, s1]; exact c8)
        rw [sum_map_fst q3, s1] at u1
        rw [sum_map_snd q3, s3] at u2
        have hlen : (partsR b b.Level (caps.zip nums)).length = caps.length := by rw [partsR_length]; simp [q3]
        rw [hsp, hpe]
        generalize hps : partsR b b.Level (caps.zip nums) = ps at *
        have hmg : merge ps = (b, 0) := by
          cases ps with
          | nil => simp at hlen; omega
          | cons x0 r =>
            have hx0 := hall x0 (List.mem_cons_self ..)
            rw [merge_alike (fun x hx => ⟨(hall x hx).1, (hall x hx).2.1.trans hx0.2.1.symm, (hall x hx).2.2.trans hx0.2.2.symm⟩) (by omega) (by omega) (by omega) (by rw [u1, u3, hx0.2.1]; exact c8), u1, u2, u3, hx0.2.1, hx0.2.2]
        have hJ : Jnv b caps.length 0 b.At b ps := by
          refine ⟨hv, rfl, rfl, rfl, Int.le_refl _, Int.le_refl _, by omega, hlen, ⟨fun p hp => (hall p hp).1, fun p hp => (hall p hp).2.1, fun p hp => by rw [(hall p hp).2.2]; exact Int.le_refl _⟩, u1, u2, ?_⟩
          rw [sumBy_same (g := (·.Level)) (fun p hp => by rw [← (hall p hp).2.2]; exact held_at (hall p hp).1), u3, held_at hv]
          exact Int.le_refl _
        obtain ⟨t, w, xs, hE, hit⟩ := loop8 ⟨c9, hA⟩ ⟨q1, h1⟩ h2 hw hJ 100 (by omega)
        have ht : t ≤ 1099511627776 := by have := hE.t2; omega
        have hl9 := loop9 hE.fam ht (by rw [hE.len]; exact h1) 100 (by omega)
        have hrw := refill_held hE.ok hE.at1 ht
        have hnn := fam_nonneg ht hE.fam
        have hvz := refill_valid hE.ok hE.at1 ht
        have hmap : merge (xs.map fun p => ⟨p.Cap, p.Num, p.Den, held p t, t⟩) = (⟨b.Cap, b.Num, b.Den, sumBy (fun p => held p t) xs, t⟩, 0) := by
          have hok : ∀ x ∈ xs.map (fun p => (⟨p.Cap, p.Num, p.Den, held p t, t⟩ : B)), OK x ∧ x.Den = b.Den ∧ x.At = t := by
            intro x hx
            obtain ⟨p, hp, rfl⟩ := List.mem_map.1 hx
            have hv2 := refill_valid (hE.fam.ok p hp) (hE.fam.at1 p hp) ht
            rw [refill_held (hE.fam.ok p hp) (hE.fam.at1 p hp) ht] at hv2
            exact ⟨hv2, hE.fam.den p hp, rfl⟩
          have g1 : sumBy (·.Cap) (xs.map fun p => (⟨p.Cap, p.Num, p.Den, held p t, t⟩ : B)) = b.Cap := by rw [sumBy_map]; exact hE.caps
          have g2 : sumBy (·.Num) (xs.map fun p => (⟨p.Cap, p.Num, p.Den, held p t, t⟩ : B)) = b.Num := by rw [sumBy_map]; exact hE.nums
          have g3 : sumBy (·.Level) (xs.map fun p => (⟨p.Cap, p.Num, p.Den, held p t, t⟩ : B)) = sumBy (fun p => held p t) xs := by rw [sumBy_map]
          have hlx : (xs.map fun p => (⟨p.Cap, p.Num, p.Den, held p t, t⟩ : B)).length = caps.length := by rw [List.length_map, hE.len]
          have hle := hE.le
          have hhl := held_le (b := w) (t := t)
          rw [hE.cap, hE.den] at hhl
          generalize (xs.map fun p => (⟨p.Cap, p.Num, p.Den, held p t, t⟩ : B)) = ys at *
          cases ys with
          | nil => simp at hlx; omega
          | cons x0 r =>
            have hx0 := hok x0 (List.mem_cons_self ..)
            rw [merge_alike (fun x hx => ⟨(hok x hx).1, (hok x hx).2.1.trans hx0.2.1.symm, (hok x hx).2.2.trans hx0.2.2.symm⟩) (by omega) (by omega) (by omega) (by rw [g1, g3, hx0.2.1]; omega), g1, g2, g3, hx0.2.1, hx0.2.2]
        have hlm : (xs.map fun p => (⟨p.Cap, p.Num, p.Den, held p t, t⟩ : B)).length ≤ 70 := by rw [List.length_map, hE.len]; omega
        have e3 : decide ((ps.length : Int) ≠ (caps.length : Int)) = false := by simp [hlen]
        have hww : refill ⟨w.Cap, w.Num, w.Den, w.Level, w.At⟩ t = refill w t := rfl
        simp only [Option.bind_some, ne_eq, not_true_eq_false, decide_false, cond_false, Merge_eq ps (by omega) 100 (by omega), hmg, decide_true, Bool.and_self, Bool.not_true, Bool.or_self, Bool.false_or]
        simp only [ne_eq] at e3
        rw [e3, cond_false, hit]
        simp only [bindJ_go, hl9, Refill_eq, hww, hrw, Option.bind_some, Merge_eq _ hlm 100 (by omega), hmap]
        have hle := hE.le
        simp [hle]
      · have hsp : split b caps nums = ([], 1) := by unfold split; rw [if_neg hs]
        rw [hsp]; rfl
    · have e2 : decide (1099511527776 < b.At) = true := by simp; omega
      rw [e2]; rfl
  · by_cases hl : caps.length ≤ 64 ∧ l.length ≤ 60
    · have hv : ¬ OK b := fun x => h ⟨hl, x⟩
      have e : (decide (64 < (caps.length : Int)) || decide (60 < (l.length : Int))) = false := by simp; omega
      simp only [e, cond_false, Option.bind_some, bindJ_go, hv, decide_false, Bool.not_false, Bool.true_or, cond_true]
    · have e : (decide (64 < (caps.length : Int)) || decide (60 < (l.length : Int))) = true := by simp; omega
      simp only [e, cond_true, bindJ_go, Bool.true_or, Option.bind_some]
end Go.Proofs.Ytpalglggjndmlaa
