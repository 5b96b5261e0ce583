/-
  What was decoded is encoded as it stood: there is one encoding.
-/
import Derived.Test.YtbhlfdklpihaiaaWireTrip
namespace Go.Abs
theorem getU_nz : ∀ (b : List UInt8) (k : Nat), 0 < k → (getU k b).2.2 = 0 → (getU k b).1 ≠ 0
  | [], k, _, h => by simp [getU] at h
  | c :: r, k, hk, h => by
    unfold getU at h ⊢
    by_cases h1 : (k = 9 ∧ 1 < c.toNat) ∨ (0 < k ∧ c.toNat = 0)
    · rw [if_pos h1] at h; simp at h
    · rw [if_neg h1] at h ⊢
      by_cases h2 : c.toNat < 128
      · rw [if_pos h2]; simp only; intro e; exact h1 (.inr ⟨hk, e⟩)
      · rw [if_neg h2] at h ⊢
        simp only at h ⊢
        by_cases h3 : (getU (k + 1) r).2.2 = 0
        · have := getU_nz r (k + 1) (by omega) h3
          rw [if_pos h3]; simp only; omega
        · rw [if_neg h3] at h; exact absurd h h3
theorem getU_can : ∀ (b : List UInt8) (k : Nat), (getU k b).2.2 = 0 → encU (getU k b).1 = b.take (getU k b).2.1
  | [], k, h => by simp [getU] at h
  | c :: r, k, h => by
    have hc := UInt8.toNat_lt c
    unfold getU at h ⊢
    by_cases h1 : (k = 9 ∧ 1 < c.toNat) ∨ (0 < k ∧ c.toNat = 0)
    · rw [if_pos h1] at h; simp at h
    · rw [if_neg h1] at h ⊢
      by_cases h2 : c.toNat < 128
      · rw [if_pos h2]; simp only
        rw [encU_lt h2]
        simp
      · rw [if_neg h2] at h ⊢
        simp only at h ⊢
        by_cases h3 : (getU (k + 1) r).2.2 = 0
        · have ih := getU_can r (k + 1) h3
          have hnz := getU_nz r (k + 1) (by omega) h3
          rw [if_pos h3]
          simp only [List.take_succ_cons]
          rw [encU_ge (by omega), ← ih, show (c.toNat - 128 + 128 * (getU (k + 1) r).1) % 128 + 128 = c.toNat by omega, show (c.toNat - 128 + 128 * (getU (k + 1) r).1) / 128 = (getU (k + 1) r).1 by omega]
          simp
        · rw [if_neg h3] at h; exact absurd h h3
theorem getI_can {b : List UInt8} (h : (getI b).2.2 = 0) : encI (getI b).1 = b.take (getI b).2.1 := by
  unfold getI at h ⊢
  simp only at h ⊢
  by_cases h1 : (getU 0 b).2.2 = 0
  · rw [if_pos h1]; simp only [encI, zig_unzig]; exact getU_can b 0 h1
  · rw [if_neg h1] at h; exact absurd h h1
theorem lenD_can {b : List UInt8} {m : Nat} (h : (lenD b m).2.2 = 0) : encI (lenD b m).1 = b.take (lenD b m).2.1 := by
  by_cases h1 : (getI b).2.2 = 0
  · by_cases h2 : (getI b).1 < 0
    · rw [lenD_2 h1 h2] at h; simp at h
    · by_cases h3 : (b.length - (getI b).2.1) / m < (getI b).1.toNat
      · rw [lenD_3 h1 h2 h3] at h; simp at h
      · rw [lenD_4 h1 h2 h3]; simp only
        rw [← getI_can h1, Int.toNat_of_nonneg (by omega)]
  · rw [lenD_1 h1] at h; exact absurd h h1
theorem take_add (b : List UInt8) (i j : Nat) : b.take (i + j) = b.take i ++ (b.drop i).take j := by rw [List.take_add]
theorem getS_can {b : List UInt8} (h : (getS b).2.2 = 0) : encS (getS b).1 = b.take (getS b).2.1 := by
  have hany := lenD_any (b := b) (least := 1) (by decide)
  by_cases h1 : (lenD b 1).2.2 = 0
  · have hc := lenD_can h1
    have hs : ((b.drop (lenD b 1).2.1).take (lenD b 1).1).length = (lenD b 1).1 := by rw [List.length_take, List.length_drop]; omega
    unfold getS
    simp only
    rw [if_neg (fun hh => hh h1)]
    simp only [encS]
    rw [hs, hc, take_add]
  · rw [getS_1 h1] at h; exact absurd h h1
theorem getN_can {α : Type} {one : List UInt8 → α × Nat × Nat} {enc : α → List UInt8} (hone : ∀ b, (one b).2.2 = 0 → (one b).2.1 ≤ b.length → enc (one b).1 = b.take (one b).2.1) :
    ∀ (n : Nat) (b : List UInt8), (getN one n b).2.2 = 0 → (getN one n b).2.1 ≤ b.length → (getN one n b).1.flatMap enc = b.take (getN one n b).2.1
  | 0, b, _, _ => by simp [getN]
  | n + 1, b, h, hl => by
    unfold getN at h hl ⊢
    by_cases h1 : (one b).2.2 = 0
    · by_cases h2 : (getN one n (b.drop (one b).2.1)).2.2 = 0
      · simp only [h1, h2] at h hl ⊢
        simp at hl ⊢
        have ih := getN_can hone n (b.drop (one b).2.1) h2 (by rw [List.length_drop]; omega)
        rw [ih, hone b h1 (by omega), take_add]
      · simp [h1, h2] at h
    · simp [h1] at h
theorem getL_can {α : Type} {one : List UInt8 → α × Nat × Nat} {enc : α → List UInt8} {m : Nat} (hone : ∀ b, (one b).2.2 = 0 → (one b).2.1 ≤ b.length → enc (one b).1 = b.take (one b).2.1) {b : List UInt8}
    (hlen : (lenD b m).2.2 = 0 → (getN one (lenD b m).1 (b.drop (lenD b m).2.1)).2.2 = 0 → (getN one (lenD b m).1 (b.drop (lenD b m).2.1)).1.length = (lenD b m).1)
    (hu : (getL one m b).2.1 ≤ b.length) (h : (getL one m b).2.2 = 0) : encL enc (getL one m b).1 = b.take (getL one m b).2.1 := by
  unfold getL at h hu ⊢
  by_cases h1 : (lenD b m).2.2 = 0
  · by_cases h2 : (getN one (lenD b m).1 (b.drop (lenD b m).2.1)).2.2 = 0
    · simp only [h1, h2] at h hu ⊢
      simp at hu ⊢
      have hc := lenD_can h1
      have hn := getN_can hone (lenD b m).1 (b.drop (lenD b m).2.1) h2 (by rw [List.length_drop]; omega)
      rw [encL, hlen h1 h2, hc, hn, take_add]
    · simp [h1, h2] at h
  · simp [h1] at h
theorem getN_full {α : Type} {one : List UInt8 → α × Nat × Nat} : ∀ (n : Nat) (b : List UInt8), (getN one n b).2.2 = 0 → (getN one n b).1.length = n
  | 0, b, _ => by simp [getN]
  | n + 1, b, h => by
    unfold getN at h ⊢
    by_cases h1 : (one b).2.2 = 0
    · by_cases h2 : (getN one n (b.drop (one b).2.1)).2.2 = 0
      · simp [h1, h2, getN_full n _ h2]
      · simp [h1, h2] at h
    · simp [h1] at h
theorem getLI_can {b : List UInt8} (h : (getL getI 1 b).2.2 = 0) : encL encI (getL getI 1 b).1 = b.take (getL getI 1 b).2.1 :=
  getL_can (fun _ h _ => getI_can h) (fun _ h => getN_full _ _ h) (getLI_any b).2 h
theorem getLS_can {b : List UInt8} (h : (getL getS 1 b).2.2 = 0) : encL encS (getL getS 1 b).1 = b.take (getL getS 1 b).2.1 :=
  getL_can (fun _ h _ => getS_can h) (fun _ h => getN_full _ _ h) (getLS_any b).2 h
theorem getLD_can {b : List UInt8} (h : (getL getD 16 b).2.2 = 0) : encL (fun d => d) (getL getD 16 b).1 = b.take (getL getD 16 b).2.1 :=
  getL_can (fun _ _ _ => rfl) (fun _ h => getN_full _ _ h) (getLD_any b).2 h
/-! what is in a decoded list -/
theorem getN_all {α : Type} {one : List UInt8 → α × Nat × Nat} {p : α → Prop} {N : Nat} (hone : ∀ b, b.length ≤ N → p (one b).1) : ∀ (n : Nat) (b : List UInt8), b.length ≤ N → ∀ x ∈ (getN one n b).1, p x
  | 0, b, _, x, hx => by simp [getN] at hx
  | n + 1, b, hb, x, hx => by
    unfold getN at hx
    by_cases h1 : (one b).2.2 = 0
    · by_cases h2 : (getN one n (b.drop (one b).2.1)).2.2 = 0
      · simp [h1, h2] at hx
        rcases hx with rfl | hx
        · exact hone b hb
        · exact getN_all hone n _ (by rw [List.length_drop]; omega) x hx
      · simp [h1, h2] at hx
    · simp [h1] at hx
theorem getL_all {α : Type} {one : List UInt8 → α × Nat × Nat} {p : α → Prop} {m : Nat} {b : List UInt8} (hone : ∀ b', b'.length ≤ b.length → p (one b').1) : ∀ x ∈ (getL one m b).1, p x := by
  intro x hx
  unfold getL at hx
  by_cases h1 : (lenD b m).2.2 = 0
  · by_cases h2 : (getN one (lenD b m).1 (b.drop (lenD b m).2.1)).2.2 = 0
    · simp [h1, h2] at hx
      exact getN_all (N := b.length) hone _ _ (by rw [List.length_drop]; omega) x hx
    · simp [h1, h2] at hx
  · simp [h1] at hx
theorem getLI_all (b : List UInt8) : ∀ n ∈ (getL getI 1 b).1, -9223372036854775808 ≤ n ∧ n ≤ 9223372036854775807 := getL_all (fun b' _ => (getI_any b').2.2)
theorem getLS_all (b : List UInt8) (hb : b.length ≤ 4294967296) : ∀ s ∈ (getL getS 1 b).1, s.length ≤ 4294967296 := getL_all (fun b' h => Nat.le_trans (getS_any b').2 (by omega))
theorem getL_nil {α : Type} {one : List UInt8 → α × Nat × Nat} {m : Nat} {b : List UInt8} (h : (getL one m b).2.2 ≠ 0) : (getL one m b).1 = [] := by
  unfold getL at h ⊢
  by_cases h1 : (lenD b m).2.2 = 0
  · by_cases h2 : (getN one (lenD b m).1 (b.drop (lenD b m).2.1)).2.2 = 0
    · simp [h1, h2] at h
    · simp [h1, h2]
  · simp [h1]
theorem encL_nil {α : Type} {enc : α → List UInt8} : encL enc [] = [0] := by simp [encL, enc_0]
theorem getLS_len (b : List UInt8) : (encL encS (getL getS 1 b).1).length ≤ b.length + 1 := by
  by_cases h : (getL getS 1 b).2.2 = 0
  · rw [getLS_can h, List.length_take]; omega
  · rw [getL_nil h, encL_nil]; simp
end Go.Abs
