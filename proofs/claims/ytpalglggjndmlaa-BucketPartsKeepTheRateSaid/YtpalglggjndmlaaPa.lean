/-
  What the functions on buckets compute, in plain words.
-/
import Derived.Test.YtpalglggjndmlaaFb
import Derived.Test.YtpalglggjndmlaaAbsPlain
namespace Go.Proofs.Ytpalglggjndmlaa
open Go.Abs
set_option linter.unusedSimpArgs false
set_option linter.unusedVariables false

abbrev B := S_api_Bucket
def B0 : B := ⟨0, 0, 0, 0, 0⟩
/-- a bucket is valid -/
def OK (b : B) : Prop := 0 ≤ b.Cap ∧ b.Cap ≤ 1073741824 ∧ 0 ≤ b.Num ∧ b.Num ≤ 1048576 ∧ 1 ≤ b.Den ∧ b.Den ≤ 1048576 ∧ 0 ≤ b.Level ∧ b.Level ≤ b.Cap * b.Den ∧ 0 ≤ b.At ∧ b.At ≤ 1099511627776
instance (b : B) : Decidable (OK b) := by unfold OK; infer_instance
theorem mul_le {a b x y : Int} (h1 : 0 ≤ a) (h2 : a ≤ x) (h3 : 0 ≤ b) (h4 : b ≤ y) : 0 ≤ a * b ∧ a * b ≤ x * y :=
  ⟨Int.mul_nonneg h1 h3, Int.mul_le_mul h2 h4 h3 (by omega)⟩
theorem mul_bound {a b : Int} (h1 : 0 ≤ a) (h2 : a ≤ 1073741824) (h3 : 0 ≤ b) (h4 : b ≤ 1048576) : 0 ≤ a * b ∧ a * b ≤ 1125899906842624 := mul_le h1 h2 h3 h4
theorem OK.room {b : B} (h : OK b) : 0 ≤ b.Cap * b.Den ∧ b.Cap * b.Den ≤ 1125899906842624 := mul_bound h.1 h.2.1 (by have := h.2.2.2.2.1; omega) h.2.2.2.2.2.1

theorem Valid_eq (b : B) : bucket_Valid b = some (decide (OK b)) := by
  unfold bucket_Valid bucket_within_int_29
  by_cases h1 : 0 ≤ b.Cap ∧ b.Cap ≤ 1073741824
  · by_cases h2 : 0 ≤ b.Num ∧ b.Num ≤ 1048576
    · by_cases h3 : 1 ≤ b.Den ∧ b.Den ≤ 1048576
      · have hm := mul_bound h1.1 h1.2 (by omega) h3.2
        rw [w64 (by omega) (by omega)]
        by_cases h4 : 0 ≤ b.Level ∧ b.Level ≤ b.Cap * b.Den
        · simp [h1, h2, h3, h4, OK]
        · have : ¬ OK b := fun h => h4 ⟨h.2.2.2.2.2.2.1, h.2.2.2.2.2.2.2.1⟩
          have e : (decide (0 ≤ b.Level) && decide (b.Level ≤ b.Cap * b.Den)) = false := by
            rw [Bool.eq_false_iff]; intro h; simp at h; exact h4 h
          simp [h1, h2, h3, e, this]
      · have : ¬ OK b := fun h => h3 ⟨h.2.2.2.2.1, h.2.2.2.2.2.1⟩
        have e : (decide (1 ≤ b.Den) && decide (b.Den ≤ 1048576)) = false := by
          rw [Bool.eq_false_iff]; intro h; simp at h; exact h3 h
        simp [h1, h2, e, this]
    · have : ¬ OK b := fun h => h2 ⟨h.2.2.1, h.2.2.2.1⟩
      have e : (decide (0 ≤ b.Num) && decide (b.Num ≤ 1048576)) = false := by
        rw [Bool.eq_false_iff]; intro h; simp at h; exact h2 h
      simp [h1, e, this]
  · have : ¬ OK b := fun h => h1 ⟨h.1, h.2.1⟩
    have e : (decide (0 ≤ b.Cap) && decide (b.Cap ≤ 1073741824)) = false := by
      rw [Bool.eq_false_iff]; intro h; simp at h; exact h1 h
    simp [e, this]
theorem rValid_eq (b : B) : ref12_Valid b = some (decide (OK b)) := by
  unfold ref12_Valid
  by_cases h : b.Cap < 0 ∨ 1073741824 < b.Cap ∨ b.Num < 0 ∨ 1048576 < b.Num ∨ b.Den < 1 ∨ 1048576 < b.Den
  · have h' : ¬ OK b := by unfold OK; omega
    have e : (((((decide (b.Cap < 0) || decide (1073741824 < b.Cap)) || decide (b.Num < 0)) || decide (1048576 < b.Num)) || decide (b.Den < 1)) || decide (1048576 < b.Den)) = true := by
      simp; omega
    simp [e, h']
  · have e : (((((decide (b.Cap < 0) || decide (1073741824 < b.Cap)) || decide (b.Num < 0)) || decide (1048576 < b.Num)) || decide (b.Den < 1)) || decide (1048576 < b.Den)) = false := by
      simp; omega
    have hm := mul_bound (a := b.Cap) (b := b.Den) (by omega) (by omega) (by omega) (by omega)
    rw [w64 (by omega) (by omega), e]
    simp only [cond_false, Option.some.injEq]
    rw [Bool.eq_iff_iff]
    simp only [Bool.and_eq_true, decide_eq_true_eq]
    unfold OK
    constructor
    · rintro ⟨⟨⟨h1, h2⟩, h3⟩, h4⟩
      refine ⟨?_, ?_, ?_, ?_, ?_, ?_, h1, h2, h3, h4⟩ <;> omega
    · rintro ⟨_, _, _, _, _, _, h1, h2, h3, h4⟩
      exact ⟨⟨⟨h1, h2⟩, h3⟩, h4⟩
theorem within_eq (x lo hi : Int) : bucket_within_int_29 x lo hi = some (decide (lo ≤ x ∧ x ≤ hi)) := by
  simp [bucket_within_int_29]

def refill (b : B) (t : Int) : B × Int :=
  if OK b then (if b.At ≤ t ∧ t ≤ 1099511627776 then (⟨b.Cap, b.Num, b.Den, min (b.Cap * b.Den) (b.Level + b.Num * (t - b.At)), t⟩, 0) else (B0, 9)) else (B0, 1)
theorem gain {b : B} {t : Int} (h : OK b) (h1 : b.At ≤ t) (h2 : t ≤ 1099511627776) : 0 ≤ b.Num * (t - b.At) ∧ b.Num * (t - b.At) ≤ 1152921504606846976 :=
  mul_le h.2.2.1 h.2.2.2.1 (by omega) (by have := h.2.2.2.2.2.2.2.2.1; omega : t - b.At ≤ 1099511627776)
theorem Refill_eq (b : B) (t : Int) : bucket_Refill b t = some (refill b t) := by
  unfold bucket_Refill refill
  rw [Valid_eq, within_eq]
  by_cases h : OK b
  · by_cases ht : b.At ≤ t ∧ t ≤ 1099511627776
    · have hr := h.room
      have hg := gain h ht.1 ht.2
      obtain ⟨_, _, _, _, _, _, h7, h8, h9, h10⟩ := id h
      rw [w64 (x := b.Cap * b.Den) (by omega) (by omega), w64 (x := t - b.At) (by omega) (by omega), w64 (x := b.Num * (t - b.At)) (by omega) (by omega), w64 (x := b.Level + b.Num * (t - b.At)) (by omega) (by omega)]
      simp [h, ht]
    · simp only [Option.bind_some, h, ht, decide_true, decide_false, Bool.not_true, Bool.not_false, cond_true, cond_false, if_true, if_false]; rfl
  · simp [h]; rfl
theorem rRefill_eq (b : B) (t : Int) : ref12_Refill b t = some ⟨(refill b t).1, (refill b t).2⟩ := by
  unfold ref12_Refill refill
  rw [rValid_eq]
  by_cases h : OK b
  · by_cases ht : b.At ≤ t ∧ t ≤ 1099511627776
    · have hr := h.room
      have hg := gain h ht.1 ht.2
      obtain ⟨_, _, _, _, _, _, h7, h8, h9, h10⟩ := id h
      rw [w64 (x := b.Cap * b.Den) (by omega) (by omega), w64 (x := t - b.At) (by omega) (by omega), w64 (x := b.Num * (t - b.At)) (by omega) (by omega), w64 (x := b.Level + b.Num * (t - b.At)) (by omega) (by omega)]
      have e : (decide (t < b.At) || decide (1099511627776 < t)) = false := by simp; omega
      simp [h, ht, e]
    · have e : (decide (t < b.At) || decide (1099511627776 < t)) = true := by simp; omega
      simp only [Option.bind_some, h, ht, e, decide_true, decide_false, Bool.not_true, Bool.not_false, cond_true, cond_false, if_true, if_false]; rfl
  · simp [h]; rfl
theorem refill_zero {b : B} {t : Int} (h : (refill b t).2 = 0) : OK b ∧ b.At ≤ t ∧ t ≤ 1099511627776 := by
  unfold refill at h
  by_cases h1 : OK b
  · by_cases h2 : b.At ≤ t ∧ t ≤ 1099511627776
    · exact ⟨h1, h2⟩
    · simp [h1, h2] at h
  · simp [h1] at h
theorem refill_ok {b : B} {t : Int} (h : OK b) (h1 : b.At ≤ t) (h2 : t ≤ 1099511627776) : refill b t = (⟨b.Cap, b.Num, b.Den, min (b.Cap * b.Den) (b.Level + b.Num * (t - b.At)), t⟩, 0) := by
  simp [refill, h, h1, h2]
theorem refill_valid {b : B} {t : Int} (h : OK b) (h1 : b.At ≤ t) (h2 : t ≤ 1099511627776) : OK (refill b t).1 := by
  rw [refill_ok h h1 h2]
  have hg := gain h h1 h2
  have hr := h.room
  obtain ⟨_, _, _, _, _, _, h7, h8, h9, h10⟩ := id h
  refine ⟨by omega, by omega, by omega, by omega, by omega, by omega, ?_, ?_, ?_, ?_⟩ <;> dsimp only <;> omega

def take (b : B) (t n : Int) : B × Int :=
  if OK b ∧ 1 ≤ n ∧ n ≤ 1073741824 then
    (if (refill b t).2 = 0 then (if (refill b t).1.Level < n * b.Den then (B0, 4) else (⟨b.Cap, b.Num, b.Den, (refill b t).1.Level - n * b.Den, t⟩, 0)) else (B0, (refill b t).2))
  else (B0, 1)
theorem Take_eq (b : B) (t n : Int) : bucket_Take b t n = some (take b t n) := by
  unfold bucket_Take take
  rw [Valid_eq, within_eq, Refill_eq]
  by_cases h : OK b
  · by_cases hn : 1 ≤ n ∧ n ≤ 1073741824
    · by_cases hz : (refill b t).2 = 0
      · obtain ⟨_, h1, h2⟩ := refill_zero hz
        have hv := refill_valid h h1 h2
        have hd : (refill b t).1.Den = b.Den := by rw [refill_ok h h1 h2]
        have hc : (refill b t).1.Cap = b.Cap := by rw [refill_ok h h1 h2]
        have hnu : (refill b t).1.Num = b.Num := by rw [refill_ok h h1 h2]
        have hat : (refill b t).1.At = t := by rw [refill_ok h h1 h2]
        have hm := mul_bound (a := n) (b := b.Den) (by omega) (by omega) (by have := h.2.2.2.2.1; omega) h.2.2.2.2.2.1
        have hr := hv.room
        have h7 := hv.2.2.2.2.2.2.1
        have h8 := hv.2.2.2.2.2.2.2.1
        simp only [Option.bind_some, h, hn, hz, decide_true, Bool.not_true, cond_false, bindJ_go, ne_eq, not_true_eq_false, decide_false, and_self, if_true]
        rw [hd, hc, hnu, hat, w64 (x := n * b.Den) (by omega) (by omega), w64 (by omega) (by omega)]
        by_cases hl : (refill b t).1.Level < n * b.Den
        · have : (refill b t).1.Level - n * b.Den < 0 := by omega
          simp [hl, this]; rfl
        · have : ¬ (refill b t).1.Level - n * b.Den < 0 := by omega
          simp [hl, this]
      · simp [h, hn, hz]; rfl
    · have : ¬ (OK b ∧ 1 ≤ n ∧ n ≤ 1073741824) := fun h => hn h.2
      simp only [h, hn, this, decide_true, decide_false, Bool.not_true, Bool.not_false, cond_false, cond_true, Option.bind_some, bindJ_go, if_false]; rfl
  · simp [h]; rfl
theorem rTake_eq (b : B) (t n : Int) : ref12_Take b t n = some ⟨(take b t n).1, (take b t n).2⟩ := by
  unfold ref12_Take take
  rw [rValid_eq, rRefill_eq]
  by_cases h : OK b
  · by_cases hn : 1 ≤ n ∧ n ≤ 1073741824
    · have e : (((!decide (OK b)) || decide (n < 1)) || decide (1073741824 < n)) = false := by simp [h]; omega
      by_cases hz : (refill b t).2 = 0
      · obtain ⟨_, h1, h2⟩ := refill_zero hz
        have hv := refill_valid h h1 h2
        have hd : (refill b t).1.Den = b.Den := by rw [refill_ok h h1 h2]
        have hc : (refill b t).1.Cap = b.Cap := by rw [refill_ok h h1 h2]
        have hnu : (refill b t).1.Num = b.Num := by rw [refill_ok h h1 h2]
        have hat : (refill b t).1.At = t := by rw [refill_ok h h1 h2]
        have hm := mul_bound (a := n) (b := b.Den) (by omega) (by omega) (by have := h.2.2.2.2.1; omega) h.2.2.2.2.2.1
        have hr := hv.room
        have h7 := hv.2.2.2.2.2.2.1
        have h8 := hv.2.2.2.2.2.2.2.1
        have hw := w64 (x := (refill b t).1.Level - n * b.Den) (by omega) (by omega)
        rw [w64 (x := n * b.Den) (by omega) (by omega)]
        by_cases hl : (refill b t).1.Level < n * b.Den
        · simp only [Option.bind_some, e, cond_false, hz, ne_eq, not_true_eq_false, decide_false, hl, decide_true, cond_true]
          simp only [h, hn, and_self, if_true]; rfl
        · simp only [Option.bind_some, e, cond_false, hz, ne_eq, not_true_eq_false, decide_false, hl, decide_true, cond_true]
          simp only [h, hn, and_self, if_true, if_false, hnu, hat, hd, hc, hw]
      · have hz' : (refill b t).1 = B0 := by
          unfold refill at hz ⊢
          simp only [h, if_true] at hz ⊢
          split at hz
          · simp at hz
          · rename_i h'; simp [h']
        simp only [Option.bind_some, e, cond_false]
        simp [h, hn, hz, hz']
    · have e : (((!decide (OK b)) || decide (n < 1)) || decide (1073741824 < n)) = true := by simp [h]; omega
      have : ¬ (OK b ∧ 1 ≤ n ∧ n ≤ 1073741824) := fun h => hn h.2
      simp [e, this]; rfl
  · simp [h]; rfl
theorem New_eq (c m d t : Int) : bucket_New c m d t = some (if OK ⟨c, m, d, IntKind.i64.wrap (c * d), t⟩ then (⟨c, m, d, c * d, t⟩, 0) else (B0, 1)) := by
  unfold bucket_New bucket_valid
  rw [within_eq, within_eq, Valid_eq]
  by_cases h : 0 ≤ c ∧ c ≤ 1073741824
  · by_cases h' : 1 ≤ d ∧ d ≤ 1048576
    · have hm := mul_bound (a := c) (b := d) h.1 h.2 (by omega) h'.2
      rw [w64 (by omega) (by omega)]
      by_cases hv : OK ⟨c, m, d, c * d, t⟩
      · simp [h, h', hv]
      · simp [h, h', hv]; rfl
    · have : ¬ OK ⟨c, m, d, IntKind.i64.wrap (c * d), t⟩ := fun h => h' ⟨h.2.2.2.2.1, h.2.2.2.2.2.1⟩
      simp [h, h', this]; rfl
  · have : ¬ OK ⟨c, m, d, IntKind.i64.wrap (c * d), t⟩ := fun h' => h ⟨h'.1, h'.2.1⟩
    simp [h, this]; rfl
theorem rNew_eq (c m d t : Int) : ref12_New c m d t = some (if OK ⟨c, m, d, IntKind.i64.wrap (c * d), t⟩ then ⟨⟨c, m, d, c * d, t⟩, 0⟩ else ⟨B0, 1⟩) := by
  unfold ref12_New
  rw [rValid_eq]
  by_cases h : 0 ≤ c ∧ c ≤ 1073741824 ∧ 1 ≤ d ∧ d ≤ 1048576
  · have e : (((decide (c < 0) || decide (1073741824 < c)) || decide (d < 1)) || decide (1048576 < d)) = false := by simp; omega
    have hm := mul_bound (a := c) (b := d) h.1 h.2.1 (by omega) h.2.2.2
    rw [w64 (by omega) (by omega)]
    by_cases hv : OK ⟨c, m, d, c * d, t⟩
    · simp [e, hv]
    · simp [e, hv]; rfl
  · have : ¬ OK ⟨c, m, d, IntKind.i64.wrap (c * d), t⟩ := fun h' => h ⟨h'.1, h'.2.1, h'.2.2.2.2.1, h'.2.2.2.2.2.1⟩
    have e : (((decide (c < 0) || decide (1073741824 < c)) || decide (d < 1)) || decide (1048576 < d)) = true := by simp; omega
    simp [e, this]; rfl
theorem tdiv_le {a b : Int} (h : 0 ≤ a) (hb : 1 ≤ b) : 0 ≤ a.tdiv b ∧ a.tdiv b ≤ a := by
  rw [Int.tdiv_eq_ediv_of_nonneg h]
  exact ⟨Int.ediv_nonneg h (by omega), Int.ediv_le_self _ h⟩
theorem Tokens_eq (b : B) : bucket_Tokens b = some (if OK b then b.Level / b.Den else 0) := by
  unfold bucket_Tokens
  rw [Valid_eq]
  by_cases h : OK b
  · have hr := h.room
    obtain ⟨_, _, _, _, h5, _, h7, h8, _, _⟩ := id h
    have ht := tdiv_le h7 h5
    rw [w64 (by omega) (by omega), need_pos (by omega), Int.tdiv_eq_ediv_of_nonneg h7]
    simp [h]
  · simp [h]
theorem rTokens_eq (b : B) : ref12_Tokens b = some (if OK b then b.Level / b.Den else 0) := by
  unfold ref12_Tokens
  rw [rValid_eq]
  by_cases h : OK b
  · have hr := h.room
    obtain ⟨_, _, _, _, h5, _, h7, h8, _, _⟩ := id h
    have ht := tdiv_le h7 h5
    rw [w64 (by omega) (by omega), need_pos (by omega), Int.tdiv_eq_ediv_of_nonneg h7]
    simp [h]
  · simp [h]

def most (b : B) (f t : Int) : Int × Int :=
  if OK b ∧ f ≤ t then
    (if (refill b f).2 = 0 then (if f = t then (0, 0) else if 1099511627776 < t then (0, 9) else (((refill b f).1.Level + b.Num * (t - 1 - f)) / b.Den, 0)) else (0, (refill b f).2))
  else (0, 1)
theorem Most_both (b : B) (f t : Int) (hf : -9223372036854775808 ≤ f ∧ f ≤ 9223372036854775807) (ht : -9223372036854775808 ≤ t ∧ t ≤ 9223372036854775807) : bucket_Most b f t = some (most b f t) ∧ ref12_Most b f t = some ⟨(most b f t).1, (most b f t).2⟩ := by
  unfold bucket_Most ref12_Most most
  rw [Valid_eq, Refill_eq, rValid_eq, rRefill_eq]
  by_cases h : OK b
  · by_cases hl : f ≤ t
    · have e : decide (t < f) = false := by simp; omega
      by_cases hz : (refill b f).2 = 0
      · obtain ⟨_, h1, h2⟩ := refill_zero hz
        by_cases h3 : f = t
        · simp [h, hl, e, hz, h3]
          subst h3; simp [hz]
        · by_cases h4 : 1099511627776 < t
          · simp [h, hl, e, hz, h3, h4]
          · have hv := refill_valid h h1 h2
            have hd : (refill b f).1.Den = b.Den := by rw [refill_ok h h1 h2]
            have hnu : (refill b f).1.Num = b.Num := by rw [refill_ok h h1 h2]
            have hr := hv.room
            obtain ⟨_, _, h5, h6, h7, _, h9, h10, _, _⟩ := id hv
            rw [hd] at h7
            rw [hnu] at h5 h6
            have hat := h.2.2.2.2.2.2.2.2.1
            have hg : 0 ≤ b.Num * (t - 1 - f) ∧ b.Num * (t - 1 - f) ≤ 1152921504606846976 := mul_le h5 h6 (by omega) (by omega : t - 1 - f ≤ 1099511627776)
            have hq := tdiv_le (a := (refill b f).1.Level + b.Num * (t - 1 - f)) (b := b.Den) (by omega) (by omega)
            have key : IntKind.i64.wrap ((IntKind.i64.wrap ((refill b f).1.Level + (IntKind.i64.wrap (b.Num * (IntKind.i64.wrap ((IntKind.i64.wrap (t - 1)) - f)))))).tdiv b.Den) = ((refill b f).1.Level + b.Num * (t - 1 - f)) / b.Den := by
              rw [w64 (x := t - 1) (by omega) (by omega), w64 (x := t - 1 - f) (by omega) (by omega), w64 (x := b.Num * (t - 1 - f)) (by omega) (by omega), w64 (x := (refill b f).1.Level + b.Num * (t - 1 - f)) (by omega) (by omega), w64 (by omega) (by omega), Int.tdiv_eq_ediv_of_nonneg (by omega)]
            constructor
            · simp only [Option.bind_some, h, hl, e, hz, h3, h4, hd, hnu, decide_true, decide_false, Bool.not_true, Bool.or_self, cond_false, ne_eq, not_true_eq_false, and_self, if_true, if_false, need_pos (show b.Den ≠ 0 by omega), key]
            · simp only [Option.bind_some, h, hl, e, hz, h3, h4, hd, hnu, decide_true, decide_false, Bool.not_true, Bool.or_self, cond_false, ne_eq, not_true_eq_false, and_self, if_true, if_false, need_pos (show b.Den ≠ 0 by omega), key]
      · simp [h, hl, e, hz]
    · have e : decide (t < f) = true := by simp; omega
      simp [h, hl, e]
  · simp [h]

/-- the instant at which the tokens are there -/
def wait (b : B) (n : Int) : Int × Int :=
  if OK b ∧ 1 ≤ n ∧ n ≤ 1073741824 then
    (if b.Cap < n then (0, 2) else if n * b.Den ≤ b.Level then (b.At, 0) else if b.Num = 0 ∨ b.Num * (1099511627776 - b.At) < n * b.Den - b.Level then (0, 4)
      else (b.At + (n * b.Den - b.Level - 1) / b.Num + 1, 0))
  else (0, 1)
theorem Wait_both (b : B) (n : Int) (hn : -9223372036854775808 ≤ n ∧ n ≤ 9223372036854775807) : bucket_Wait b n = some (wait b n) ∧ ref12_Wait b n = some ⟨(wait b n).1, (wait b n).2⟩ := by
  unfold bucket_Wait ref12_Wait wait
  rw [Valid_eq, within_eq, rValid_eq]
  by_cases h : OK b
  · by_cases h1 : 1 ≤ n ∧ n ≤ 1073741824
    · have hr := h.room
      obtain ⟨_, _, h3, h4, h5, h6, h7, h8, h9, h10⟩ := id h
      have hm := mul_bound (a := n) (b := b.Den) (by omega) (by omega) (by omega) h6
      have e : (((!decide (OK b)) || decide (n < 1)) || decide (1073741824 < n)) = false := by simp [h]; omega
      have e2 : decide (n * b.Den - b.Level ≤ 0) = decide (n * b.Den ≤ b.Level) := decide_eq_decide.2 (by omega)
      rw [w64 (x := n * b.Den) (by omega) (by omega), w64 (x := n * b.Den - b.Level) (by omega) (by omega), e2]
      simp only [Option.bind_some, e, cond_false]
      simp only [h, h1, decide_true, Bool.not_true, cond_false, bindJ_go, and_self, if_true]
      by_cases h11 : b.Cap < n
      · simp [h11]
      · by_cases h12 : n * b.Den ≤ b.Level
        · simp [h11, h12]
        · by_cases h13 : b.Num = 0
          · simp [h11, h12, h13]
          · have hp : 1 ≤ b.Num := by omega
            have hg : 0 ≤ b.Num * (1099511627776 - b.At) ∧ b.Num * (1099511627776 - b.At) ≤ 1152921504606846976 := mul_le h3 h4 (by omega) (by omega : 1099511627776 - b.At ≤ 1099511627776)
            have q1 := tdiv_le (a := n * b.Den - b.Level - 1) (b := b.Num) (by omega) hp
            have q2 := tdiv_le (a := n * b.Den - b.Level + b.Num - 1) (b := b.Num) (by omega) hp
            have d1 : (n * b.Den - b.Level - 1).tdiv b.Num = (n * b.Den - b.Level - 1) / b.Num := Int.tdiv_eq_ediv_of_nonneg (by omega)
            have d2 : (n * b.Den - b.Level + b.Num - 1).tdiv b.Num = (n * b.Den - b.Level - 1) / b.Num + 1 := by
              rw [Int.tdiv_eq_ediv_of_nonneg (by omega), show n * b.Den - b.Level + b.Num - 1 = n * b.Den - b.Level - 1 + 1 * b.Num by omega, Int.add_mul_ediv_right _ _ (by omega)]
            have key : 1099511627776 < b.At + ((n * b.Den - b.Level - 1) / b.Num + 1) ↔ b.Num * (1099511627776 - b.At) < n * b.Den - b.Level := by
              have : (1099511627776 - b.At ≤ (n * b.Den - b.Level - 1) / b.Num) ↔ (1099511627776 - b.At) * b.Num ≤ n * b.Den - b.Level - 1 := Int.le_ediv_iff_mul_le (by omega)
              rw [Int.mul_comm (1099511627776 - b.At)] at this
              omega
            rw [w64 (x := n * b.Den - b.Level - 1) (by omega) (by omega), w64 (x := n * b.Den - b.Level + b.Num) (by omega) (by omega), w64 (x := n * b.Den - b.Level + b.Num - 1) (by omega) (by omega), w64 (x := 1099511627776 - b.At) (by omega) (by omega), w64 (x := b.Num * (1099511627776 - b.At)) (by omega) (by omega),
              w64 (x := (n * b.Den - b.Level - 1).tdiv b.Num) (by omega) (by omega), w64 (x := (n * b.Den - b.Level + b.Num - 1).tdiv b.Num) (by omega) (by omega), d1, d2]
            rw [d1] at q1
            rw [d2] at q2
            rw [w64 (x := b.At + (n * b.Den - b.Level - 1) / b.Num) (by omega) (by omega), w64 (x := b.At + (n * b.Den - b.Level - 1) / b.Num + 1) (by omega) (by omega), w64 (x := b.At + ((n * b.Den - b.Level - 1) / b.Num + 1)) (by omega) (by omega)]
            by_cases h14 : b.Num * (1099511627776 - b.At) < n * b.Den - b.Level
            · have := key.2 h14
              simp [h11, h12, h13, h14, this, need_pos]
            · have : ¬ 1099511627776 < b.At + ((n * b.Den - b.Level - 1) / b.Num + 1) := fun h => h14 (key.1 h)
              simp [h11, h12, h13, h14, this, need_pos, Int.add_assoc]
    · have e : (((!decide (OK b)) || decide (n < 1)) || decide (1073741824 < n)) = true := by simp [h]; omega
      have h2 : ¬ (OK b ∧ 1 ≤ n ∧ n ≤ 1073741824) := fun h => h1 h.2
      simp only [Option.bind_some, e, cond_true, h2, if_false]
      simp [h1]
  · simp [h]
end Go.Proofs.Ytpalglggjndmlaa
