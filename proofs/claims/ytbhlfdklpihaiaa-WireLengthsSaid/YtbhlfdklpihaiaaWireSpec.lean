/-
  The wire format in plain words: encodings and decodings of lists of bytes.
-/
import Derived.Test.YtbhlfdklpihaiaaWireNum
namespace Go.Abs

def encU (z : Nat) : List UInt8 := if z < 128 then [UInt8.ofNat z] else UInt8.ofNat (z % 128 + 128) :: encU (z / 128)
termination_by z
decreasing_by omega
def encI (n : Int) : List UInt8 := encU (zig n)
def encS (s : List UInt8) : List UInt8 := encI s.length ++ s
def encL {α : Type} (one : α → List UInt8) (l : List α) : List UInt8 := encI l.length ++ l.flatMap one

theorem encU_lt {z : Nat} (h : z < 128) : encU z = [UInt8.ofNat z] := by rw [encU, if_pos h]
theorem encU_ge {z : Nat} (h : ¬ z < 128) : encU z = UInt8.ofNat (z % 128 + 128) :: encU (z / 128) := by rw [encU, if_neg h]
theorem encU_pos (z : Nat) : 1 ≤ (encU z).length := by rw [encU]; split <;> simp
theorem encU_len : ∀ (k z : Nat), z < 2 ^ (7 * (k + 1)) → (encU z).length ≤ k + 1
  | 0, z, h => by rw [encU_lt (by simpa using h)]; simp
  | k + 1, z, h => by
    by_cases h1 : z < 128
    · rw [encU_lt h1]; simp
    · rw [encU_ge h1, List.length_cons]
      have : z / 128 < 2 ^ (7 * (k + 1)) := by
        rw [Nat.div_lt_iff_lt_mul (by omega)]
        rw [show 7 * (k + 1 + 1) = 7 * (k + 1) + 7 by omega, Nat.pow_add] at h
        simpa using h
      have := encU_len k _ this
      omega
theorem encU_le10 {z : Nat} (h : z < 2 ^ 64) : (encU z).length ≤ 10 := encU_len 9 z (by omega)
theorem encI_len {n : Int} (h1 : -9223372036854775808 ≤ n) (h2 : n ≤ 9223372036854775807) : 1 ≤ (encI n).length ∧ (encI n).length ≤ 10 := ⟨encU_pos _, encU_le10 (zig_lt h1 h2)⟩

/-- a number at the beginning of bytes, k digits of it having been read: the rest of the number, how many bytes it takes, the error -/
def getU : Nat → List UInt8 → Nat × Nat × Nat
  | _, [] => (0, 0, 10)
  | k, c :: r =>
    if (k = 9 ∧ 1 < c.toNat) ∨ (0 < k ∧ c.toNat = 0) then (0, 0, 11)
    else if c.toNat < 128 then (c.toNat, 1, 0)
    else let x := getU (k + 1) r; if x.2.2 = 0 then (c.toNat - 128 + 128 * x.1, x.2.1 + 1, 0) else (0, 0, x.2.2)
def getI (b : List UInt8) : Int × Nat × Nat := let x := getU 0 b; if x.2.2 = 0 then (unzig x.1, x.2.1, 0) else (0, 0, x.2.2)
def lenD (b : List UInt8) (least : Nat) : Nat × Nat × Nat :=
  let x := getI b
  if x.2.2 ≠ 0 then (0, 0, x.2.2) else if x.1 < 0 then (0, 0, 11) else if (b.length - x.2.1) / least < x.1.toNat then (0, 0, 10) else (x.1.toNat, x.2.1, 0)
def getS (b : List UInt8) : List UInt8 × Nat × Nat :=
  let x := lenD b 1; if x.2.2 ≠ 0 then ([], 0, x.2.2) else ((b.drop x.2.1).take x.1, x.2.1 + x.1, 0)
def getN {α : Type} (one : List UInt8 → α × Nat × Nat) : Nat → List UInt8 → List α × Nat × Nat
  | 0, _ => ([], 0, 0)
  | n + 1, b => let x := one b; if x.2.2 ≠ 0 then ([], 0, x.2.2) else
    let y := getN one n (b.drop x.2.1); if y.2.2 ≠ 0 then ([], 0, y.2.2) else (x.1 :: y.1, x.2.1 + y.2.1, 0)
def getL {α : Type} (one : List UInt8 → α × Nat × Nat) (least : Nat) (b : List UInt8) : List α × Nat × Nat :=
  let x := lenD b least; if x.2.2 ≠ 0 then ([], 0, x.2.2) else
    let y := getN one x.1 (b.drop x.2.1); if y.2.2 ≠ 0 then ([], 0, y.2.2) else (y.1, x.2.1 + y.2.1, 0)
def getD (b : List UInt8) : List UInt8 × Nat × Nat := (b.take 16, 16, 0)

/-! what a decoding without error is -/
theorem getU_ok : ∀ (b : List UInt8) (k : Nat), k ≤ 9 → (getU k b).2.2 = 0 → 1 ≤ (getU k b).2.1 ∧ (getU k b).2.1 ≤ b.length ∧ (getU k b).2.1 + k ≤ 10 ∧ (getU k b).1 < 2 ^ (64 - 7 * k)
  | [], k, _, h => by simp [getU] at h
  | c :: r, k, hk, h => by
    unfold getU at h ⊢
    by_cases h1 : (k = 9 ∧ 1 < c.toNat) ∨ (0 < k ∧ c.toNat = 0)
    · rw [if_pos h1] at h; simp at h
    · rw [if_neg h1] at h ⊢
      by_cases h2 : c.toNat < 128
      · rw [if_pos h2]
        refine ⟨Nat.le_refl _, by simp, by simp; omega, ?_⟩
        simp only
        by_cases h9 : k = 9
        · subst h9
          have : ¬ 1 < c.toNat := fun h => h1 (.inl ⟨rfl, h⟩)
          simp; omega
        · have : 2 ^ 7 ≤ 2 ^ (64 - 7 * k) := Nat.pow_le_pow_right (by omega) (by omega)
          omega
      · rw [if_neg h2] at h ⊢
        have h9 : k ≠ 9 := fun e => h1 (.inl ⟨e, by omega⟩)
        simp only at h ⊢
        by_cases h3 : (getU (k + 1) r).2.2 = 0
        · obtain ⟨a1, a2, a3, a4⟩ := getU_ok r (k + 1) (by omega) h3
          rw [if_pos h3]
          refine ⟨by simp, by simp; omega, by simp; omega, ?_⟩
          simp only
          have hc := UInt8.toNat_lt c
          have e : 2 ^ (64 - 7 * k) = 128 * 2 ^ (64 - 7 * (k + 1)) := by
            rw [show 64 - 7 * k = 7 + (64 - 7 * (k + 1)) by omega, Nat.pow_add]
          rw [e]; omega
        · rw [if_neg h3] at h; simp at h; exact absurd h h3
theorem getU_err : ∀ (b : List UInt8) (k : Nat), (getU k b).2.2 ≠ 0 → (getU k b).1 = 0 ∧ (getU k b).2.1 = 0 ∧ ((getU k b).2.2 = 10 ∨ (getU k b).2.2 = 11)
  | [], k, _ => by simp [getU]
  | c :: r, k, h => by
    unfold getU at h ⊢
    by_cases h1 : (k = 9 ∧ 1 < c.toNat) ∨ (0 < k ∧ c.toNat = 0)
    · rw [if_pos h1]; simp
    · rw [if_neg h1] at h ⊢
      by_cases h2 : c.toNat < 128
      · rw [if_pos h2] at h; simp at h
      · rw [if_neg h2] at h ⊢
        simp only at h ⊢
        by_cases h3 : (getU (k + 1) r).2.2 = 0
        · rw [if_pos h3] at h; simp at h
        · rw [if_neg h3]
          exact ⟨rfl, rfl, (getU_err r (k + 1) h3).2.2⟩
theorem getI_ok {b : List UInt8} (h : (getI b).2.2 = 0) : 1 ≤ (getI b).2.1 ∧ (getI b).2.1 ≤ b.length ∧ (getI b).2.1 ≤ 10 ∧ -9223372036854775808 ≤ (getI b).1 ∧ (getI b).1 ≤ 9223372036854775807 := by
  unfold getI at h ⊢
  simp only at h ⊢
  by_cases h1 : (getU 0 b).2.2 = 0
  · obtain ⟨a1, a2, a3, a4⟩ := getU_ok b 0 (by omega) h1
    rw [if_pos h1]
    exact ⟨a1, a2, a3, unzig_lo (by simpa using a4), unzig_hi (by simpa using a4)⟩
  · rw [if_neg h1] at h; exact absurd h h1
theorem getI_err {b : List UInt8} (h : (getI b).2.2 ≠ 0) : getI b = (0, 0, (getI b).2.2) := by
  unfold getI at h ⊢
  simp only at h ⊢
  by_cases h1 : (getU 0 b).2.2 = 0
  · rw [if_pos h1] at h; exact absurd rfl h
  · rw [if_neg h1]
theorem getI_any (b : List UInt8) : (getI b).2.1 ≤ b.length ∧ (getI b).2.1 ≤ 10 ∧ -9223372036854775808 ≤ (getI b).1 ∧ (getI b).1 ≤ 9223372036854775807 := by
  by_cases h : (getI b).2.2 = 0
  · exact ⟨(getI_ok h).2.1, (getI_ok h).2.2⟩
  · rw [getI_err h]; simp
theorem lenD_ok {b : List UInt8} {least : Nat} (hl : 0 < least) (h : (lenD b least).2.2 = 0) : (lenD b least).2.1 + (lenD b least).1 * least ≤ b.length ∧ 1 ≤ (lenD b least).2.1 := by
  unfold lenD at h ⊢
  simp only at h ⊢
  by_cases h1 : (getI b).2.2 ≠ 0
  · rw [if_pos h1] at h; exact absurd h h1
  · rw [if_neg h1] at h ⊢
    have h1' : (getI b).2.2 = 0 := by omega
    obtain ⟨a1, a2, a3, a4, a5⟩ := getI_ok h1'
    by_cases h2 : (getI b).1 < 0
    · rw [if_pos h2] at h; simp at h
    · rw [if_neg h2] at h ⊢
      by_cases h3 : (b.length - (getI b).2.1) / least < (getI b).1.toNat
      · rw [if_pos h3] at h; simp at h
      · rw [if_neg h3]
        simp only
        have h4 : (getI b).1.toNat ≤ (b.length - (getI b).2.1) / least := by omega
        have h5 := (Nat.le_div_iff_mul_le hl).1 h4
        omega
theorem lenD_any {b : List UInt8} {least : Nat} (hl : 0 < least) : (lenD b least).2.1 + (lenD b least).1 * least ≤ b.length := by
  by_cases h : (lenD b least).2.2 = 0
  · exact (lenD_ok hl h).1
  · unfold lenD at h ⊢
    simp only at h ⊢
    by_cases h1 : (getI b).2.2 ≠ 0
    · rw [if_pos h1]; simp
    · rw [if_neg h1] at h ⊢
      by_cases h2 : (getI b).1 < 0
      · rw [if_pos h2]; simp
      · rw [if_neg h2] at h ⊢
        by_cases h3 : (b.length - (getI b).2.1) / least < (getI b).1.toNat
        · rw [if_pos h3]; simp
        · rw [if_neg h3] at h; exact absurd rfl h
theorem lenD_err {b : List UInt8} {least : Nat} (h : (lenD b least).2.2 ≠ 0) : lenD b least = (0, 0, (lenD b least).2.2) := by
  unfold lenD at h ⊢
  simp only at h ⊢
  by_cases h1 : (getI b).2.2 ≠ 0
  · rw [if_pos h1]
  · rw [if_neg h1] at h ⊢
    by_cases h2 : (getI b).1 < 0
    · rw [if_pos h2]
    · rw [if_neg h2] at h ⊢
      by_cases h3 : (b.length - (getI b).2.1) / least < (getI b).1.toNat
      · rw [if_pos h3]
      · rw [if_neg h3] at h; exact absurd rfl h
theorem getS_ok {b : List UInt8} (h : (getS b).2.2 = 0) : (getS b).2.1 ≤ b.length ∧ 1 ≤ (getS b).2.1 ∧ (getS b).1.length ≤ b.length := by
  unfold getS at h ⊢
  simp only at h ⊢
  by_cases h1 : (lenD b 1).2.2 ≠ 0
  · rw [if_pos h1] at h; exact absurd h h1
  · rw [if_neg h1]
    obtain ⟨a, c⟩ := lenD_ok (by omega) (by omega : (lenD b 1).2.2 = 0)
    simp; omega
theorem getS_any (b : List UInt8) : (getS b).2.1 ≤ b.length ∧ (getS b).1.length ≤ b.length := by
  by_cases h : (getS b).2.2 = 0
  · exact ⟨(getS_ok h).1, (getS_ok h).2.2⟩
  · unfold getS at h ⊢
    simp only at h ⊢
    by_cases h1 : (lenD b 1).2.2 ≠ 0
    · rw [if_pos h1]; simp
    · rw [if_neg h1] at h; exact absurd rfl h

/-! reading digit by digit -/
def finU (k z : Nat) (x : Nat × Nat × Nat) : Nat × Nat × Nat := if x.2.2 = 0 then (z + 2 ^ (7 * k) * x.1, k + x.2.1, 0) else (0, 0, x.2.2)
theorem finU_start (b : List UInt8) : finU 0 0 (getU 0 b) = getU 0 b := by
  unfold finU
  by_cases h : (getU 0 b).2.2 = 0
  · rw [if_pos h]; simp [Prod.ext_iff, h]
  · rw [if_neg h]
    obtain ⟨a1, a2, _⟩ := getU_err b 0 h
    simp [Prod.ext_iff, a1, a2]
theorem getU_bad {k : Nat} {c : UInt8} {r : List UInt8} (h : (k = 9 ∧ 1 < c.toNat) ∨ (0 < k ∧ c.toNat = 0)) : getU k (c :: r) = (0, 0, 11) := by unfold getU; rw [if_pos h]
theorem getU_last {k : Nat} {c : UInt8} {r : List UInt8} (h : ¬ ((k = 9 ∧ 1 < c.toNat) ∨ (0 < k ∧ c.toNat = 0))) (h2 : c.toNat < 128) : getU k (c :: r) = (c.toNat, 1, 0) := by unfold getU; rw [if_neg h, if_pos h2]
theorem finU_step {k z : Nat} {c : UInt8} {r : List UInt8} (h : ¬ ((k = 9 ∧ 1 < c.toNat) ∨ (0 < k ∧ c.toNat = 0))) (h2 : ¬ c.toNat < 128) :
    finU k z (getU k (c :: r)) = finU (k + 1) (z + (c.toNat % 128) * 2 ^ (7 * k)) (getU (k + 1) r) := by
  have hc := UInt8.toNat_lt c
  have e : c.toNat % 128 = c.toNat - 128 := by omega
  rw [getU, if_neg h, if_neg h2]
  simp only [finU]
  by_cases h3 : (getU (k + 1) r).2.2 = 0
  · rw [if_pos h3, if_pos h3]
    simp only [if_pos]
    rw [e, show 7 * (k + 1) = 7 * k + 7 by omega, Nat.pow_add]
    have : 2 ^ (7 * k) * (c.toNat - 128 + 128 * (getU (k + 1) r).1) = (c.toNat - 128) * 2 ^ (7 * k) + 2 ^ (7 * k) * 2 ^ 7 * (getU (k + 1) r).1 := by
      rw [Nat.mul_add, Nat.mul_comm _ (c.toNat - 128), Nat.mul_assoc (2 ^ (7 * k)) (2 ^ 7)]
    rw [this]
    ext <;> simp <;> omega
  · rw [if_neg h3, if_neg h3]
    simp [h3]

/-! encoding element by element -/
theorem flat_take {α : Type} (one : α → List UInt8) {l : List α} {i : Nat} (h : i < l.length) : (l.take (i + 1)).flatMap one = (l.take i).flatMap one ++ one l[i] := by
  rw [List.take_succ_eq_append_getElem h, List.flatMap_append]; simp
theorem flat_room {α : Type} (one : α → List UInt8) {l : List α} {i : Nat} (h : i < l.length) :
    (encI l.length ++ (l.take i).flatMap one).length + (one l[i]).length ≤ (encL one l).length := by
  have e : (l.flatMap one) = (l.take (i + 1)).flatMap one ++ (l.drop (i + 1)).flatMap one := by rw [← List.flatMap_append, List.take_append_drop]
  rw [encL, e, flat_take one h]
  simp only [List.length_append]
  omega
theorem flat_all {α : Type} (one : α → List UInt8) {l : List α} {i : Nat} (h : l.length ≤ i) : encI l.length ++ (l.take i).flatMap one = encL one l := by
  rw [List.take_of_length_le h]; rfl
theorem sum_take {l : List (List UInt8)} {i : Nat} (h : i < l.length) : ((l.take (i + 1)).map List.length).sum = ((l.take i).map List.length).sum + l[i].length := by
  rw [List.take_succ_eq_append_getElem h, List.map_append, List.sum_append]; simp
theorem sum_le {l : List (List UInt8)} {i : Nat} (h : i < l.length) : ((l.take i).map List.length).sum + l[i].length ≤ (l.map List.length).sum := by
  rw [← sum_take h]
  conv => rhs; rw [← List.take_append_drop (i + 1) l, List.map_append, List.sum_append]
  omega

/-! decoding an integer, as the two programs do -/
theorem drop_cons {b : List UInt8} {k : Nat} (h : k < b.length) : b.drop k = b[k] :: b.drop (k + 1) := List.drop_eq_getElem_cons h
theorem getI_bad {b : List UInt8} {k z e : Nat} (hi : finU k z (getU k (b.drop k)) = getU 0 b) (h : getU k (b.drop k) = (0, 0, e)) (he : e ≠ 0) : getI b = (0, 0, e) := by
  unfold getI
  rw [← hi, h]
  simp [finU, he]
theorem getI_good {b : List UInt8} {k z c : Nat} (hi : finU k z (getU k (b.drop k)) = getU 0 b) (h : getU k (b.drop k) = (c, 1, 0)) : getI b = (unzig (z + c * 2 ^ (7 * k)), k + 1, 0) := by
  unfold getI
  rw [← hi, h]
  simp [finU, Nat.mul_comm]
theorem dig_lt {k z c : Nat} (hk : k ≤ 9) (hz : z < 2 ^ (7 * k)) (h9 : k = 9 → c ≤ 1) : z + (c % 128) * 2 ^ (7 * k) < 2 ^ 64 := by
  by_cases h : k = 9
  · subst h
    have := h9 rfl
    have h2 : c % 128 ≤ 1 := by omega
    have : (c % 128) * 2 ^ (7 * 9) ≤ 1 * 2 ^ (7 * 9) := Nat.mul_le_mul_right _ h2
    omega
  · have h1 : 2 ^ (7 * k) ≤ 2 ^ 56 := Nat.pow_le_pow_right (by omega) (by omega)
    have h2 : c % 128 ≤ 127 := by omega
    have h3 : (c % 128) * 2 ^ (7 * k) ≤ 127 * 2 ^ (7 * k) := Nat.mul_le_mul_right _ h2
    omega
theorem dig_lt2 {k z c : Nat} (hz : z < 2 ^ (7 * k)) : z + (c % 128) * 2 ^ (7 * k) < 2 ^ (7 * (k + 1)) := by
  have h2 : c % 128 ≤ 127 := by omega
  have h3 : (c % 128) * 2 ^ (7 * k) ≤ 127 * 2 ^ (7 * k) := Nat.mul_le_mul_right _ h2
  rw [show 7 * (k + 1) = 7 * k + 7 by omega, Nat.pow_add]
  omega
theorem shl7 {k x : Nat} (hk : k ≤ 9) (h : x * 2 ^ (7 * k) < 2 ^ 64) : IntKind.u64.wrap ((x : Int) * 2 ^ (min (((7 * k : Nat) : Int)).toNat IntKind.u64.bits)) = ((x * 2 ^ (7 * k) : Nat) : Int) := by
  have e : min (((7 * k : Nat) : Int)).toNat IntKind.u64.bits = 7 * k := by
    rw [Int.toNat_natCast]; show min (7 * k) 64 = _; omega
  rw [e, show ((x : Int) * 2 ^ (7 * k)) = ((x * 2 ^ (7 * k) : Nat) : Int) by simp [Int.natCast_mul, Int.natCast_pow], wrap_u64 (by omega) (by omega)]

/-- the number of some digits -/
def valU : List UInt8 → Nat
  | [] => 0
  | c :: r => c.toNat % 128 + 128 * valU r
theorem valU_drop : ∀ (l : List UInt8) (m : Nat), valU (l.drop m) ≤ valU l
  | l, 0 => by simp
  | [], m + 1 => by simp
  | c :: l, m + 1 => by have := valU_drop l m; simp only [List.drop_succ_cons, valU]; omega
theorem getU_skip : ∀ (k s : Nat) (b : List UInt8) (e : Nat), (∀ j, j < k → ∃ c, b[j]? = some c ∧ 128 ≤ c.toNat) → s + k ≤ 9 → (getU (s + k) (b.drop k)).2.2 = e → e ≠ 0 → getU s b = (0, 0, e)
  | 0, s, b, e, _, _, h, he => by
    rw [List.drop_zero, Nat.add_zero] at h
    obtain ⟨a1, a2, _⟩ := getU_err b s (by rw [h]; exact he)
    simp [Prod.ext_iff, a1, a2, h]
  | k + 1, s, b, e, hb, hs, h, he => by
    obtain ⟨c, hc, h128⟩ := hb 0 (by omega)
    cases b with
    | nil => simp at hc
    | cons c' r =>
      simp at hc; subst hc
      have ih := getU_skip k (s + 1) r e (fun j hj => by obtain ⟨c, h1, h2⟩ := hb (j + 1) (by omega); exact ⟨c, by simpa using h1, h2⟩) (by omega)
        (by rw [show s + 1 + k = s + (k + 1) by omega]; simpa using h) he
      rw [getU, if_neg (by omega), if_neg (by omega)]
      simp [ih, he]
theorem getU_digits : ∀ (k s : Nat) (b : List UInt8) (c : UInt8), (∀ j, j < k → ∃ c, b[j]? = some c ∧ 128 ≤ c.toNat) → b[k]? = some c → c.toNat < 128 → s + k ≤ 9 → (s + k = 9 → c.toNat ≤ 1) → (0 < s + k → c.toNat ≠ 0) →
    getU s b = (valU (b.take (k + 1)), k + 1, 0)
  | 0, s, b, c, _, hc, h128, hs, h9, h0 => by
    cases b with
    | nil => simp at hc
    | cons c' r =>
      simp at hc; subst hc
      rw [getU, if_neg (by rintro (⟨h1, h2⟩ | ⟨h1, h2⟩); have := h9 (by omega); omega; exact h0 (by omega) h2), if_pos h128]
      simp [valU, Nat.mod_eq_of_lt h128]
  | k + 1, s, b, c, hb, hc, h128, hs, h9, h0 => by
    obtain ⟨c0, hc0, h1⟩ := hb 0 (by omega)
    cases b with
    | nil => simp at hc0
    | cons c' r =>
      simp at hc0; subst hc0
      have ih := getU_digits k (s + 1) r c (fun j hj => by obtain ⟨c, h1, h2⟩ := hb (j + 1) (by omega); exact ⟨c, by simpa using h1, h2⟩) (by simpa using hc) h128 (by omega) (fun h => h9 (by omega)) (fun h => h0 (by omega))
      have hlt := UInt8.toNat_lt c'
      rw [getU, if_neg (by omega), if_neg (by omega)]
      simp only [ih, if_pos, List.take_succ_cons, valU]
      rw [show c'.toNat % 128 = c'.toNat - 128 by omega]
theorem valU_step {l : List UInt8} {m : Nat} (h : m < l.length) : valU (l.drop m) = l[m].toNat % 128 + 128 * valU (l.drop (m + 1)) := by rw [drop_cons h]; rfl
theorem take_get {b : List UInt8} {k m : Nat} (h : m < k) (hk : k ≤ b.length) : (b.take k)[m]'(by rw [List.length_take]; omega) = b[m] := by simp
/-- what stands behind k digits that go on -/
def More (b : List UInt8) (k : Nat) : Prop := ∀ j, j < k → ∃ c, b[j]? = some c ∧ 128 ≤ c.toNat
theorem More.zero (b : List UInt8) : More b 0 := fun j h => absurd h (by omega)
theorem More.succ {b : List UInt8} {k : Nat} (h : More b k) (hk : k < b.length) (hc : 128 ≤ b[k].toNat) : More b (k + 1) := by
  intro j hj
  by_cases e : j = k
  · subst e; exact ⟨b[j], List.getElem?_eq_getElem hk, hc⟩
  · exact h j (by omega)
theorem More.lt {b : List UInt8} {k : Nat} (h : More b k) {j : Nat} (hj : j < k) (hk : j < b.length) : 128 ≤ b[j].toNat := by
  obtain ⟨c, h1, h2⟩ := h j hj
  rw [List.getElem?_eq_getElem hk] at h1
  simp at h1
  rw [h1]; exact h2
theorem More.skip {b : List UInt8} {k e : Nat} (h : More b k) (hk : k ≤ 9) (he : getU k (b.drop k) = (0, 0, e)) (h0 : e ≠ 0) : getI b = (0, 0, e) := by
  have := getU_skip k 0 b e h (by omega) (by rw [Nat.zero_add, he]) h0
  unfold getI
  rw [this]; simp [h0]
/-- ten digits that go on -/
theorem More.ten {b : List UInt8} (h : More b 10) (hl : 10 ≤ b.length) : getI b = (0, 0, 11) :=
  More.skip (k := 9) (fun j hj => h j (by omega)) (by omega) (by rw [drop_cons (b := b) (k := 9) (by omega)]; exact getU_bad (.inl ⟨rfl, by have := h.lt (j := 9) (by omega) (by omega); omega⟩)) (by decide)
theorem More.stop {b : List UInt8} (h : More b b.length) (hl : b.length ≤ 9) : getI b = (0, 0, 10) :=
  More.skip h hl (by rw [List.drop_eq_nil_of_le (by omega)]; rfl) (by decide)
theorem More.bad {b : List UInt8} {k : Nat} (h : More b k) (hk : k ≤ 9) (hl : k < b.length) (hb : (k = 9 ∧ 1 < b[k].toNat) ∨ (0 < k ∧ b[k].toNat = 0)) : getI b = (0, 0, 11) :=
  More.skip h hk (by rw [drop_cons (b := b) (k := k) hl]; exact getU_bad hb) (by decide)
theorem More.good {b : List UInt8} {k : Nat} (h : More b k) (hk : k ≤ 9) (hl : k < b.length) (h128 : b[k].toNat < 128) (hb : ¬ ((k = 9 ∧ 1 < b[k].toNat) ∨ (0 < k ∧ b[k].toNat = 0))) :
    getI b = (unzig (valU (b.take (k + 1))), k + 1, 0) ∧ valU (b.take (k + 1)) < 2 ^ 64 := by
  have e := getU_digits k 0 b b[k] h (List.getElem?_eq_getElem hl) h128 (by omega) (by omega) (by omega)
  refine ⟨?_, ?_⟩
  · unfold getI; rw [e]; rfl
  · have := (getU_ok b 0 (by omega) (by rw [e])).2.2.2
    rw [e] at this
    simpa using this
theorem valU_at {b : List UInt8} {k m : Nat} (hm : m ≤ k) (hk : k < b.length) : valU ((b.take (k + 1)).drop m) = (b[m]'(by omega)).toNat % 128 + 128 * valU ((b.take (k + 1)).drop (m + 1)) := by
  have := valU_step (l := b.take (k + 1)) (m := m) (by rw [List.length_take]; omega)
  rw [this, take_get (by omega) (by omega)]
end Go.Abs
