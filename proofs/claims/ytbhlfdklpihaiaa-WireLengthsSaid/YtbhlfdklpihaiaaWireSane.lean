/-
  The constants that the laws' own check works out; what decoded lists are.
-/
import Derived.Test.YtbhlfdklpihaiaaWireList
namespace Go.Abs
theorem enc_0 : encI 0 = [0] := by rw [encI, show zig 0 = 0 from rfl, encU_lt (by decide)]; rfl
theorem enc_1 : encI 1 = [2] := by rw [encI, show zig 1 = 2 from rfl, encU_lt (by decide)]; rfl
theorem enc_2 : encI 2 = [4] := by rw [encI, show zig 2 = 4 from rfl, encU_lt (by decide)]; rfl
theorem enc_m1 : encI (-1) = [1] := by rw [encI, show zig (-1) = 1 from rfl, encU_lt (by decide)]; rfl
theorem enc_m65 : encI (-65) = [129, 1] := by rw [encI, show zig (-65) = 129 from rfl, encU_ge (by decide), encU_lt (by decide)]; rfl
theorem san_s : encS [97, 98] = [4, 97, 98] := by simp [encS, enc_2]
theorem san_ints : encL encI [1, -1] = [4, 2, 1] := by simp [encL, enc_2, enc_1, enc_m1]
theorem san_strs : encL encS [[], [97]] = [4, 0, 2, 97] := by simp [encL, encS, enc_0, enc_1, enc_2]
theorem san_digs : encL (fun d => d) [[1, 2, 0, 0, 0, 0, 0, 0, 0, 0, 0, 0, 0, 0, 0, 0]] = [2, 1, 2, 0, 0, 0, 0, 0, 0, 0, 0, 0, 0, 0, 0, 0, 0] := by simp [encL, enc_1]
theorem san_d : ([1, 2, 0, 0, 0, 0, 0, 0, 0, 0, 0, 0, 0, 0, 0, 0] : List UInt8).length = 16 := rfl
/-- the digests that are decoded have their length, where there are bytes enough: a shorter one would be what is left -/
theorem getN_dig : ∀ (n : Nat) (b : List UInt8), n * 16 ≤ b.length → ∀ d ∈ (getN getD n b).1, d.length = 16
  | 0, b, _, d, hd => by simp [getN] at hd
  | n + 1, b, h, d, hd => by
    have ih := getN_dig n (b.drop 16) (by rw [List.length_drop]; omega)
    unfold getN at hd
    by_cases h1 : (getN getD n (b.drop 16)).2.2 = 0
    · have e : (getD b).2.1 = 16 := rfl
      have e2 : (getD b).2.2 = 0 := rfl
      simp only [e, e2, h1] at hd
      simp at hd
      rcases hd with rfl | hd
      · show (b.take 16).length = 16
        rw [List.length_take]; omega
      · exact ih d hd
    · have e : (getD b).2.1 = 16 := rfl
      have e2 : (getD b).2.2 = 0 := rfl
      simp [e, e2, h1] at hd
theorem getL_dig (b : List UInt8) : ∀ d ∈ (getL getD 16 b).1, d.length = 16 := by
  intro d hd
  have h := lenD_any (b := b) (least := 16) (by omega)
  unfold getL at hd
  by_cases h1 : (lenD b 16).2.2 = 0
  · by_cases h2 : (getN getD (lenD b 16).1 (b.drop (lenD b 16).2.1)).2.2 = 0
    · simp [h1, h2] at hd
      exact getN_dig _ _ (by rw [List.length_drop]; omega) d hd
    · simp [h1, h2] at hd
  · simp [h1] at hd
/-! how long a decoded list is, and how much it takes -/
theorem getN_len {α : Type} {one : List UInt8 → α × Nat × Nat} : ∀ (n : Nat) (b : List UInt8), (getN one n b).1.length ≤ n
  | 0, b => by simp [getN]
  | n + 1, b => by
    have ih := getN_len (one := one) n (b.drop (one b).2.1)
    unfold getN
    by_cases h1 : (one b).2.2 = 0 <;> by_cases h2 : (getN one n (b.drop (one b).2.1)).2.2 = 0 <;> simp [h1, h2, ih]
theorem getN_used {α : Type} {one : List UInt8 → α × Nat × Nat} (ho : ∀ b, (one b).2.1 ≤ b.length) : ∀ (n : Nat) (b : List UInt8), (getN one n b).2.1 ≤ b.length
  | 0, b => by simp [getN]
  | n + 1, b => by
    have ih := getN_used ho n (b.drop (one b).2.1)
    have h := ho b
    rw [List.length_drop] at ih
    unfold getN
    by_cases h1 : (one b).2.2 = 0 <;> by_cases h2 : (getN one n (b.drop (one b).2.1)).2.2 = 0 <;> simp [h1, h2] <;> omega
theorem getN_used16 : ∀ (n : Nat) (b : List UInt8), (getN getD n b).2.1 ≤ n * 16
  | 0, b => by simp [getN]
  | n + 1, b => by
    have ih := getN_used16 n (b.drop 16)
    have e : (getD b).2.1 = 16 := rfl
    have e2 : (getD b).2.2 = 0 := rfl
    unfold getN
    by_cases h2 : (getN getD n (b.drop 16)).2.2 = 0 <;> simp [e, e2, h2] <;> omega
theorem getL_any {α : Type} {one : List UInt8 → α × Nat × Nat} {m : Nat} (hm : 0 < m) (ho : ∀ b, (one b).2.1 ≤ b.length) (b : List UInt8) : (getL one m b).1.length ≤ b.length ∧ (getL one m b).2.1 ≤ b.length := by
  have h := lenD_any (b := b) hm
  have h3 := getN_len (one := one) (lenD b m).1 (b.drop (lenD b m).2.1)
  have h4 := getN_used ho (lenD b m).1 (b.drop (lenD b m).2.1)
  have h5 : (lenD b m).1 ≤ (lenD b m).1 * m := Nat.le_mul_of_pos_right _ hm
  rw [List.length_drop] at h4
  unfold getL
  by_cases h1 : (lenD b m).2.2 = 0 <;> by_cases h2 : (getN one (lenD b m).1 (b.drop (lenD b m).2.1)).2.2 = 0 <;> simp [h1, h2] <;> omega
theorem getLI_any (b : List UInt8) : (getL getI 1 b).1.length ≤ b.length ∧ (getL getI 1 b).2.1 ≤ b.length := getL_any (by decide) (fun b => (getI_any b).1) b
theorem getLS_any (b : List UInt8) : (getL getS 1 b).1.length ≤ b.length ∧ (getL getS 1 b).2.1 ≤ b.length := getL_any (by decide) (fun b => (getS_any b).1) b
theorem getLD_any (b : List UInt8) : (getL getD 16 b).1.length ≤ b.length ∧ (getL getD 16 b).2.1 ≤ b.length := by
  have h := lenD_any (b := b) (least := 16) (by decide)
  have h3 := getN_len (one := getD) (lenD b 16).1 (b.drop (lenD b 16).2.1)
  have h4 := getN_used16 (lenD b 16).1 (b.drop (lenD b 16).2.1)
  unfold getL
  by_cases h1 : (lenD b 16).2.2 = 0 <;> by_cases h2 : (getN getD (lenD b 16).1 (b.drop (lenD b 16).2.1)).2.2 = 0 <;> simp [h1, h2] <;> omega
end Go.Abs
