/-
  Dividing and merging buckets, the program's way and the specification's, in plain words.
-/
import Derived.Test.YtpalglggjndmlaaFc
import Derived.Test.YtpalglggjndmlaaPb
namespace Go.Proofs.Ytpalglggjndmlaa
open Go.Abs
set_option linter.unusedSimpArgs false
set_option linter.unusedVariables false

/-- what is left of a number behind the numbers of a list; nothing, if one is negative or too great -/
def leftOf : Int → List Int → Option Int
  | w, [] => some w
  | w, x :: r => if x < 0 ∨ w < x then none else leftOf (w - x) r
def sumF (most : Int) (t x : Int) : Lp Int (Lp Int (Int × Bool)) := if x < 0 ∨ IntKind.i64.wrap (most - t) < x then .stop (.stop (0, false)) else .go (IntKind.i64.wrap (t + x))
theorem wrapS {i n : Nat} (h : i < n) (hn : n ≤ 4294967296) : IntKind.i64.wrap ((i : Int) + 1) = ((i + 1 : Nat) : Int) := by rw [w64 (by omega) (by omega)]; omega
theorem sum_fold (most : Int) (l : List Int) (hl : l.length ≤ 4294967296) (n : Nat) (hn : l.length < n) : iter (bucket_sum_L1 most l) n (0, 0) = some (foldL (sumF most) .go 0 l) := by
  refine iter_fold (l := l) (fun (i : Nat) (t : Int) => (t, (i : Int))) (sumF most) .go (fun _ _ => True) ?_ ?_ n 0 0 trivial (by omega) (by omega)
  · intro i t x _ hx
    have hlt := (List.getElem?_eq_some_iff.1 hx).1
    refine ⟨?_, fun _ _ => trivial⟩
    unfold bucket_sum_L1 sumF
    have e : decide ((i : Int) < (l.length : Int)) = true := by simpa using hlt
    simp only [e, cond_true]
    rw [idx_get hx, wrapS hlt hl]
    by_cases h : x < 0 ∨ IntKind.i64.wrap (most - t) < x
    · have e2 : (decide (x < 0) || decide (IntKind.i64.wrap (most - t) < x)) = true := by simpa using h
      rw [e2, if_pos h]; rfl
    · have e2 : (decide (x < 0) || decide (IntKind.i64.wrap (most - t) < x)) = false := by rw [Bool.eq_false_iff]; intro h'; simp at h'; exact h h'
      rw [e2, if_neg h]; rfl
  · intro t _
    unfold bucket_sum_L1
    simp
theorem sum_left {most : Int} (h0 : 0 ≤ most) (h1 : most ≤ 1073741824) : ∀ (l : List Int) (t : Int), 0 ≤ t → t ≤ most →
    foldL (sumF most) .go t l = (match leftOf (most - t) l with | none => .stop (0, false) | some w => .go (most - w))
  | [], t, _, _ => by simp only [foldL, leftOf]; congr 1; omega
  | x :: r, t, h2, h3 => by
    simp only [foldL, leftOf, sumF]
    rw [w64 (x := most - t) (by omega) (by omega)]
    by_cases h : x < 0 ∨ most - t < x
    · rw [if_pos h, if_pos h]
    · rw [if_neg h, if_neg h, w64 (by omega) (by omega)]
      simp only []
      rw [sum_left h0 h1 r (t + x) (by omega) (by omega), show most - (t + x) = most - t - x by omega]
theorem sum_eq {most : Int} (h0 : 0 ≤ most) (h1 : most ≤ 1073741824) (l : List Int) (hl : l.length ≤ 4294967296) (n : Nat) (hn : l.length < n) :
    bucket_sum n most l = some (match leftOf most l with | none => (0, false) | some w => (most - w, true)) := by
  unfold bucket_sum
  rw [sum_fold most l hl n hn, sum_left h0 h1 l 0 (by omega) h0, Int.sub_zero]
  cases leftOf most l <;> rfl
def leftF (t x : Int) : Lp Int (Lp Int Bool) := if x < 0 ∨ t < x then .stop (.stop false) else .go (IntKind.i64.wrap (t - x))
theorem sums_fold (l : List Int) (w : Int) (hl : l.length ≤ 4294967296) (n : Nat) (hn : l.length < n) : iter (ref12_sums_L1 l) n (w, 0) = some (foldL leftF .go w l) := by
  refine iter_fold (l := l) (fun (i : Nat) (t : Int) => (t, (i : Int))) leftF .go (fun _ _ => True) ?_ ?_ n 0 w trivial (by omega) (by omega)
  · intro i t x _ hx
    have hlt := (List.getElem?_eq_some_iff.1 hx).1
    refine ⟨?_, fun _ _ => trivial⟩
    unfold ref12_sums_L1 leftF
    have e : decide ((i : Int) < (l.length : Int)) = true := by simpa using hlt
    simp only [e, cond_true]
    rw [idx_get hx, wrapS hlt hl, idx_get hx]
    by_cases h : x < 0 ∨ t < x
    · have e2 : (decide (x < 0) || decide (t < x)) = true := by simpa using h
      rw [e2, if_pos h]; rfl
    · have e2 : (decide (x < 0) || decide (t < x)) = false := by rw [Bool.eq_false_iff]; intro h'; simp at h'; exact h h'
      rw [e2, if_neg h]; rfl
  · intro t _
    unfold ref12_sums_L1
    simp
theorem sums_left : ∀ (l : List Int) (w : Int), 0 ≤ w → w ≤ 1073741824 → foldL leftF .go w l = (match leftOf w l with | none => .stop false | some w => .go w)
  | [], w, _, _ => rfl
  | x :: r, w, h2, h3 => by
    simp only [foldL, leftOf, leftF]
    by_cases h : x < 0 ∨ w < x
    · rw [if_pos h, if_pos h]
    · rw [if_neg h, if_neg h, w64 (by omega) (by omega)]
      simp only []
      rw [sums_left r (w - x) (by omega) (by omega)]
theorem sums_eq {w : Int} (h0 : 0 ≤ w) (h1 : w ≤ 1073741824) (l : List Int) (hl : l.length ≤ 4294967296) (n : Nat) (hn : l.length < n) : ref12_sums n l w = some (decide (leftOf w l = some 0)) := by
  unfold ref12_sums
  rw [sums_fold l w hl n hn, sums_left l w h0 h1]
  cases leftOf w l with
  | none => simp
  | some v => simp

/-- the parts of a bucket -/
def partG (b : B) (s : List B × Int) (x : Int × Int) : List B × Int :=
  (s.1 ++ [⟨x.1, x.2, b.Den, min s.2 (IntKind.i64.wrap (x.1 * b.Den)), b.At⟩], IntKind.i64.wrap (s.2 - min s.2 (IntKind.i64.wrap (x.1 * b.Den))))
def parts (b : B) (caps nums : List Int) : List B := ((caps.zip nums).foldl (partG b) ([], b.Level)).1
theorem zip_get {a b : List Int} {i : Nat} {x : Int × Int} (h : (a.zip b)[i]? = some x) : a[i]? = some x.1 ∧ b[i]? = some x.2 := by
  rw [List.getElem?_zip_eq_some] at h; exact h
theorem split_fold (b : B) (caps nums : List Int) (hc : nums.length = caps.length) (hl : caps.length ≤ 4294967295) (n : Nat) (hn : caps.length < n) :
    iter (bucket_Split_L1 b caps nums) n ([], 0, b.Level) = some (.go (parts b caps nums)) := by
  have hz : (caps.zip nums).length = caps.length := by simp [hc]
  have := iter_fold (l := caps.zip nums) (step := bucket_Split_L1 b caps nums) (fun (i : Nat) (s : List B × Int) => (s.1, (i : Int), s.2)) (fun s x => .go (partG b s x)) (fun s => .go s.1) (fun i s => s.1.length = i) ?_ ?_ n 0 ([], b.Level) rfl (by omega) (by omega)
  · rw [foldL_go (partG b) (fun _ _ => rfl)] at this
    exact this
  · intro i s x hi hx
    have hlt := (List.getElem?_eq_some_iff.1 hx).1
    rw [hz] at hlt
    obtain ⟨h1, h2⟩ := zip_get hx
    refine ⟨?_, fun s' hs => ?_⟩
    · unfold bucket_Split_L1
      have e : decide ((i : Int) < (caps.length : Int)) = true := by simpa using hlt
      simp only [e, cond_true]
      rw [idx_get h1, idx_get h2, need_pos (by simp only [List.length_cons, List.length_nil]; omega), wrapS hlt (by omega)]
      rfl
    · cases hs; simp [partG, hi]
  · intro s _
    unfold bucket_Split_L1
    simp [hz]
theorem rsplit_fold (b : B) (caps nums : List Int) (hc : nums.length = caps.length) (hl : caps.length ≤ 4294967295) (n : Nat) (hn : caps.length < n) :
    iter (ref12_Split_L1 b caps nums) n (b.Level, [], 0) = some (.go (parts b caps nums)) := by
  have hz : (caps.zip nums).length = caps.length := by simp [hc]
  have := iter_fold (l := caps.zip nums) (step := ref12_Split_L1 b caps nums) (fun (i : Nat) (s : List B × Int) => (s.2, s.1, (i : Int))) (fun s x => .go (partG b s x)) (fun s => .go s.1) (fun i s => s.1.length = i) ?_ ?_ n 0 ([], b.Level) rfl (by omega) (by omega)
  · rw [foldL_go (partG b) (fun _ _ => rfl)] at this
    exact this
  · intro i s x hi hx
    have hlt := (List.getElem?_eq_some_iff.1 hx).1
    rw [hz] at hlt
    obtain ⟨h1, h2⟩ := zip_get hx
    refine ⟨?_, fun s' hs => ?_⟩
    · unfold ref12_Split_L1
      have e : decide ((i : Int) < (caps.length : Int)) = true := by simpa using hlt
      simp only [e, cond_true]
      rw [idx_get h1, idx_get h2, need_pos (by simp only [List.length_cons, List.length_nil]; omega), wrapS hlt (by omega)]
      rfl
    · cases hs; simp [partG, hi]
  · intro s _
    unfold ref12_Split_L1
    simp [hz]

def split (b : B) (caps nums : List Int) : List B × Int :=
  if OK b ∧ 1 ≤ caps.length ∧ caps.length ≤ 64 ∧ nums.length = caps.length ∧ leftOf b.Cap caps = some 0 ∧ leftOf b.Num nums = some 0 then (parts b caps nums, 0) else ([], 1)
theorem Split_eq (b : B) (caps nums : List Int) (hc : caps.length ≤ 70) (n : Nat) (hn : 70 < n) : bucket_Split n b caps nums = some (split b caps nums) := by
  unfold bucket_Split split
  rw [Valid_eq, within_eq]
  by_cases h : OK b
  · obtain ⟨h1, h2, h3, h4, _⟩ := id h
    by_cases hl : 1 ≤ caps.length ∧ caps.length ≤ 64
    · by_cases he : nums.length = caps.length
      · rw [sum_eq h1 h2 caps (by omega) n (by omega), sum_eq h3 (by omega) nums (by omega) n (by omega), split_fold b caps nums he (by omega) n (by omega)]
        have e1 : ((1 : Int) ≤ (caps.length : Int) ∧ (caps.length : Int) ≤ 64) := by omega
        have e2 : ((nums.length : Int) = (caps.length : Int)) := by omega
        cases ha : leftOf b.Cap caps with
        | none => simp [h, e1, e2]
        | some u =>
          cases hb : leftOf b.Num nums with
          | none => simp [h, e1, e2]
          | some v =>
            have hu : (b.Cap - u = b.Cap) ↔ u = 0 := by omega
            have hv : (b.Num - v = b.Num) ↔ v = 0 := by omega
            by_cases hu0 : u = 0
            · by_cases hv0 : v = 0
              · simp [h, hl.1, hl.2, he, e1, e2, hu0, hv0]
              · simp [h, e1, e2, hu0, hv0, hv]
            · simp [h, e1, e2, hu0, hu]
      · have e2 : ¬ ((nums.length : Int) = (caps.length : Int)) := by omega
        have e1 : ((1 : Int) ≤ (caps.length : Int) ∧ (caps.length : Int) ≤ 64) := by omega
        simp [h, he, e1, e2]
    · have e1 : ¬ ((1 : Int) ≤ (caps.length : Int) ∧ (caps.length : Int) ≤ 64) := by omega
      have e3 : ¬ (OK b ∧ 1 ≤ caps.length ∧ caps.length ≤ 64 ∧ nums.length = caps.length ∧ leftOf b.Cap caps = some 0 ∧ leftOf b.Num nums = some 0) := fun x => hl ⟨x.2.1, x.2.2.1⟩
      rw [if_neg e3]
      simp [h, e1]
  · simp [h]
theorem rSplit_eq (b : B) (caps nums : List Int) (hc : caps.length ≤ 70) (n : Nat) (hn : 70 < n) : ref12_Split n b caps nums = some ⟨(split b caps nums).1, (split b caps nums).2⟩ := by
  unfold ref12_Split split
  rw [rValid_eq]
  by_cases h : OK b
  · obtain ⟨h1, h2, h3, h4, _⟩ := id h
    by_cases hl : 1 ≤ caps.length ∧ caps.length ≤ 64 ∧ nums.length = caps.length
    · rw [sums_eq h1 h2 caps (by omega) n (by omega), sums_eq h3 (by omega) nums (by omega) n (by omega), rsplit_fold b caps nums hl.2.2 (by omega) n (by omega)]
      have e : (((!decide (OK b)) || decide ((caps.length : Int) < 1)) || decide (64 < (caps.length : Int)) || decide ((nums.length : Int) ≠ (caps.length : Int))) = false := by simp [h]; omega
      simp only [Option.bind_some, e, cond_false, bindJ_go]
      by_cases ha : leftOf b.Cap caps = some 0
      · by_cases hb : leftOf b.Num nums = some 0
        · simp [h, hl, ha, hb]
        · simp [ha, hb]
      · simp [ha]
    · have e : (((!decide (OK b)) || decide ((caps.length : Int) < 1)) || decide (64 < (caps.length : Int)) || decide ((nums.length : Int) ≠ (caps.length : Int))) = true := by simp [h]; omega
      have e3 : ¬ (OK b ∧ 1 ≤ caps.length ∧ caps.length ≤ 64 ∧ nums.length = caps.length ∧ leftOf b.Cap caps = some 0 ∧ leftOf b.Num nums = some 0) := fun x => hl ⟨x.2.1, x.2.2.1, x.2.2.2.1⟩
      rw [if_neg e3]
      simp only [Option.bind_some, e, cond_true, bindJ_go]
  · simp [h]
theorem Same_eq (l : List B) (hl : l.length ≤ 4294967296) (n : Nat) (hn : l.length < n) : ref12_Same n l l = some true := by
  unfold ref12_Same
  have := iter_fold (l := l) (step := ref12_Same_L1 l l) (fun (i : Nat) (s : Unit) => (i : Int)) (fun s x => .go ()) (fun s => .go ()) (fun _ _ => True) ?_ ?_ n 0 () trivial (by omega) (by omega)
  · rw [foldL_go (fun _ _ => ()) (fun _ _ => rfl)] at this
    simp at this
    simp [this]
  · intro i s x _ hx
    have hlt := (List.getElem?_eq_some_iff.1 hx).1
    refine ⟨?_, fun _ _ => trivial⟩
    unfold ref12_Same_L1
    have e : decide ((i : Int) < (l.length : Int)) = true := by simpa using hlt
    simp only [e, cond_true]
    rw [idx_get hx, idx_get hx, wrapS hlt hl]
    simp
  · intro s _
    unfold ref12_Same_L1
    simp

/-- the sums of a list of buckets that are alike -/
def sumsOf (x0 : B) : Int × Int × Int → List B → Option (Int × Int × Int)
  | s, [] => some s
  | s, x :: r => if OK x ∧ x.Den = x0.Den ∧ x.At = x0.At then sumsOf x0 (IntKind.i64.wrap (s.1 + x.Cap), IntKind.i64.wrap (s.2.1 + x.Num), IntKind.i64.wrap (s.2.2 + x.Level)) r else none
abbrev M5 := Int × Int × Int × Int × Int
def mergeF (x0 : B) (s : M5) (x : B) : Lp M5 (Lp M5 (B × Int)) :=
  if OK x ∧ x.Den = x0.Den ∧ x.At = x0.At then .go (IntKind.i64.wrap (s.1 + x.Cap), IntKind.i64.wrap (s.2.1 + x.Num), x.Den, IntKind.i64.wrap (s.2.2.2.1 + x.Level), x.At) else .stop (.stop (B0, 1))
theorem merge_fold (x0 : B) (r : List B) (hl : (x0 :: r).length ≤ 4294967296) (n : Nat) (hn : (x0 :: r).length < n) : iter (bucket_Merge_L1 (x0 :: r)) n (0, 0, 0, 0, 0, 0) = some (foldL (mergeF x0) .go (0, 0, 0, 0, 0) (x0 :: r)) := by
  refine iter_fold (l := x0 :: r) (fun (i : Nat) (s : M5) => ((i : Int), s.1, s.2.1, s.2.2.1, s.2.2.2.1, s.2.2.2.2)) (mergeF x0) .go (fun _ _ => True) ?_ ?_ n 0 (0, 0, 0, 0, 0) trivial (by omega) (by omega)
  · intro i s x _ hx
    have hlt := (List.getElem?_eq_some_iff.1 hx).1
    refine ⟨?_, fun _ _ => trivial⟩
    unfold bucket_Merge_L1 mergeF
    have e : decide ((i : Int) < ((x0 :: r).length : Int)) = true := by simp; simp at hlt; omega
    simp only [e, cond_true]
    have h0 : (x0 :: r)[0]? = some x0 := rfl
    have := idx_get (β := Lp (Int × Int × Int × Int × Int × Int) (Lp M5 (B × Int))) h0
    rw [idx_get hx, show (0 : Int) = ((0 : Nat) : Int) from rfl, idx_get h0, Valid_eq, wrapS hlt hl]
    simp only [Option.bind_some, decide_true, Bool.true_and]
    by_cases h : OK x ∧ x.Den = x0.Den ∧ x.At = x0.At
    · rw [if_pos h]; simp [h.1, h.2.1, h.2.2]
    · rw [if_neg h]
      have e2 : ((!decide (OK x)) || (!(decide (x.Den = x0.Den) && decide (x.At = x0.At)))) = true := by
        by_cases h1 : OK x
        · simp [h1]
          by_cases h2 : x.Den = x0.Den
          · exact .inr fun h3 => h ⟨h1, h2, h3⟩
          · exact .inl h2
        · simp [h1]
      rw [e2]; rfl
  · intro s _
    unfold bucket_Merge_L1
    simp
theorem merge_sums (x0 : B) : ∀ (r : List B) (a b c : Int), foldL (mergeF x0) .go (a, b, x0.Den, c, x0.At) r = (match sumsOf x0 (a, b, c) r with | none => .stop (B0, 1) | some s => .go (s.1, s.2.1, x0.Den, s.2.2, x0.At))
  | [], a, b, c => rfl
  | x :: r, a, b, c => by
    simp only [foldL, sumsOf, mergeF]
    by_cases h : OK x ∧ x.Den = x0.Den ∧ x.At = x0.At
    · rw [if_pos h, if_pos h]
      simp only [h.2.1, h.2.2]
      exact merge_sums x0 r _ _ _
    · rw [if_neg h, if_neg h]
def mergeG (x0 : B) (s : Int × Int × Int) (x : B) : Lp (Int × Int × Int) (Lp (Int × Int × Int) S_ref12_Made) :=
  if OK x ∧ x.Den = x0.Den ∧ x.At = x0.At then .go (IntKind.i64.wrap (s.1 + x.Cap), IntKind.i64.wrap (s.2.1 + x.Num), IntKind.i64.wrap (s.2.2 + x.Level)) else .stop (.stop ⟨B0, 1⟩)
theorem rmerge_fold (x0 : B) (l : List B) (hl : l.length ≤ 4294967296) (n : Nat) (hn : l.length < n) : iter (ref12_Merge_L1 l x0) n (0, 0, 0, 0) = some (foldL (mergeG x0) .go (0, 0, 0) l) := by
  refine iter_fold (l := l) (fun (i : Nat) (s : Int × Int × Int) => ((i : Int), s.1, s.2.1, s.2.2)) (mergeG x0) .go (fun _ _ => True) ?_ ?_ n 0 (0, 0, 0) trivial (by omega) (by omega)
  · intro i s x _ hx
    have hlt := (List.getElem?_eq_some_iff.1 hx).1
    refine ⟨?_, fun _ _ => trivial⟩
    unfold ref12_Merge_L1 mergeG
    have e : decide ((i : Int) < (l.length : Int)) = true := by simpa using hlt
    simp only [e, cond_true]
    rw [idx_get hx, idx_get hx, rValid_eq, wrapS hlt hl]
    simp only [Option.bind_some]
    by_cases h : OK x
    · by_cases h1 : x.Den = x0.Den
      · by_cases h2 : x.At = x0.At
        · rw [idx_get hx]; simp [h, h1, h2]
        · simp [h, h1, h2]; rfl
      · simp [h, h1]; rfl
    · simp [h]; rfl
  · intro s _
    unfold ref12_Merge_L1
    simp
theorem rmerge_sums (x0 : B) : ∀ (r : List B) (s : Int × Int × Int), foldL (mergeG x0) .go s r = (match sumsOf x0 s r with | none => .stop ⟨B0, 1⟩ | some s => .go s)
  | [], s => rfl
  | x :: r, s => by
    simp only [foldL, sumsOf, mergeG]
    by_cases h : OK x ∧ x.Den = x0.Den ∧ x.At = x0.At
    · rw [if_pos h, if_pos h]
      exact rmerge_sums x0 r _
    · rw [if_neg h, if_neg h]
def merge (l : List B) : B × Int :=
  match l with
  | [] => (B0, 1)
  | x0 :: r => if 64 < (x0 :: r).length then (B0, 1) else match sumsOf x0 (0, 0, 0) (x0 :: r) with
    | none => (B0, 1)
    | some s => if OK ⟨s.1, s.2.1, x0.Den, s.2.2, x0.At⟩ then (⟨s.1, s.2.1, x0.Den, s.2.2, x0.At⟩, 0) else (B0, 1)
theorem Merge_eq (l : List B) (hl : l.length ≤ 70) (n : Nat) (hn : 70 < n) : bucket_Merge n l = some (merge l) := by
  unfold bucket_Merge
  rw [within_eq]
  match l with
  | [] => rfl
  | x0 :: r =>
    by_cases h : 64 < (x0 :: r).length
    · have e : ¬ ((1 : Int) ≤ ((x0 :: r).length : Int) ∧ ((x0 :: r).length : Int) ≤ 64) := by omega
      simp only [merge, if_pos h, Option.bind_some, e, decide_false, Bool.not_false, cond_true]; rfl
    · have e : ((1 : Int) ≤ ((x0 :: r).length : Int) ∧ ((x0 :: r).length : Int) ≤ 64) := by simp only [List.length_cons] at *; omega
      have e1 : foldL (mergeF x0) .go (0, 0, 0, 0, 0) (x0 :: r) = (match sumsOf x0 (0, 0, 0) (x0 :: r) with | none => .stop (B0, 1) | some s => .go (s.1, s.2.1, x0.Den, s.2.2, x0.At)) := by
        by_cases h0 : OK x0
        · simp only [foldL, mergeF, sumsOf, h0, and_self, if_true]
          exact merge_sums x0 r _ _ _
        · simp [foldL, mergeF, sumsOf, h0]
      rw [merge_fold x0 r (by omega) n (by omega), e1]
      simp only [merge, if_neg h, Option.bind_some, e, and_self, decide_true, Bool.not_true, cond_false]
      cases sumsOf x0 (0, 0, 0) (x0 :: r) with
      | none => rfl
      | some s =>
        simp only [bindJ_go, bucket_valid, Valid_eq, Option.bind_some]
        by_cases h2 : OK ⟨s.1, s.2.1, x0.Den, s.2.2, x0.At⟩
        · simp [h2]
        · simp [h2]; rfl
theorem rMerge_eq (l : List B) (hl : l.length ≤ 70) (n : Nat) (hn : 70 < n) : ref12_Merge n l = some ⟨(merge l).1, (merge l).2⟩ := by
  unfold ref12_Merge
  match l with
  | [] => rfl
  | x0 :: r =>
    by_cases h : 64 < (x0 :: r).length
    · have e : (decide (((x0 :: r).length : Int) < 1) || decide (64 < ((x0 :: r).length : Int))) = true := by simp; simp at h; omega
      simp only [merge, if_pos h, e, cond_true]; rfl
    · have e : (decide (((x0 :: r).length : Int) < 1) || decide (64 < ((x0 :: r).length : Int))) = false := by simp; simp at h; omega
      have h0 : (x0 :: r)[0]? = some x0 := rfl
      simp only [merge, if_neg h, e, cond_false]
      rw [show (0 : Int) = ((0 : Nat) : Int) from rfl, idx_get h0]
      simp only [Int.natCast_zero]
      rw [rmerge_fold x0 _ (by omega) n (by omega), rmerge_sums]
      cases sumsOf x0 (0, 0, 0) (x0 :: r) with
      | none => rfl
      | some s =>
        simp only [bindJ_go, rValid_eq, Option.bind_some]
        by_cases h2 : OK ⟨s.1, s.2.1, x0.Den, s.2.2, x0.At⟩
        · simp [h2]
        · simp [h2]; rfl
theorem parts_length (b : B) : ∀ (l : List (Int × Int)) (s : List B × Int), (l.foldl (partG b) s).1.length = s.1.length + l.length
  | [], s => rfl
  | x :: r, s => by rw [List.foldl_cons, parts_length b r]; simp [partG]; omega
end Go.Proofs.Ytpalglggjndmlaa
