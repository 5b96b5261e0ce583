/-
  What was encoded is decoded, whatever stands behind it.
-/
import Derived.Test.YtbhlfdklpihaiaaWireSane
namespace Go.Abs
theorem getU_enc : ∀ (m z k : Nat) (t : List UInt8), z ≤ m → k ≤ 9 → z < 2 ^ (64 - 7 * k) → (0 < k → z ≠ 0) → getU k (encU z ++ t) = (z, (encU z).length, 0) := by
  intro m
  induction m with
  | zero =>
    intro z k t hm hk hz h0
    have : z = 0 := by omega
    subst this
    rw [encU_lt (by decide), List.singleton_append, getU_last _ (by decide)]
    · rfl
    · rintro (⟨_, h⟩ | ⟨h, _⟩)
      · revert h; decide
      · exact h0 h rfl
  | succ m ih =>
    intro z k t hm hk hz h0
    by_cases h : z < 128
    · have e : (UInt8.ofNat z).toNat = z := toNat_ofNat8 (by omega)
      rw [encU_lt h, List.singleton_append, getU_last _ (by omega), e]
      · rfl
      · rw [e]
        rintro (⟨h9, h1⟩ | ⟨h1, h2⟩)
        · subst h9; simp at hz; omega
        · exact h0 h1 h2
    · have h9 : k ≠ 9 := by rintro rfl; simp at hz; omega
      have e : (UInt8.ofNat (z % 128 + 128)).toNat = z % 128 + 128 := toNat_ofNat8 (by omega)
      have hz2 : z / 128 < 2 ^ (64 - 7 * (k + 1)) := by
        rw [Nat.div_lt_iff_lt_mul (by omega)]
        rw [show 64 - 7 * k = (64 - 7 * (k + 1)) + 7 by omega, Nat.pow_add] at hz
        omega
      have := ih (z / 128) (k + 1) t (by omega) (by omega) hz2 (by omega)
      rw [encU_ge h, List.cons_append, getU, if_neg (by rw [e]; omega), if_neg (by rw [e]; omega), this, e]
      simp only [if_pos, List.length_cons]
      ext <;> simp; omega
theorem getI_enc {n : Int} (h1 : -9223372036854775808 ≤ n) (h2 : n ≤ 9223372036854775807) (t : List UInt8) : getI (encI n ++ t) = (n, (encI n).length, 0) := by
  have h := getU_enc (zig n) (zig n) 0 t (Nat.le_refl _) (by omega) (by have := zig_lt h1 h2; omega) (by omega)
  unfold getI encI
  rw [h]
  simp [unzig_zig]
theorem lenD_enc {n least : Nat} (hn : n ≤ 9223372036854775807) (hl : 0 < least) {t : List UInt8} (ht : n * least ≤ t.length) : lenD (encI n ++ t) least = (n, (encI n).length, 0) := by
  have h := getI_enc (n := (n : Int)) (by omega) (by omega) t
  have hd : ¬ (t.length / least < n) := by
    rw [Nat.div_lt_iff_lt_mul hl]; omega
  unfold lenD
  simp only [h]
  rw [if_neg (by omega), if_neg (by omega), if_neg (by rw [List.length_append, Nat.add_sub_cancel_left, Int.toNat_natCast]; exact hd)]
  simp
theorem getS_enc {s : List UInt8} (hs : s.length ≤ 9223372036854775807) (t : List UInt8) : getS (encS s ++ t) = (s, (encS s).length, 0) := by
  have h := lenD_enc (n := s.length) (least := 1) hs (by omega) (t := s ++ t) (by rw [List.length_append]; omega)
  unfold getS encS
  rw [List.append_assoc, h]
  simp
theorem getD_enc {d : List UInt8} (hd : d.length = 16) (t : List UInt8) : getD (d ++ t) = (d, d.length, 0) := by
  unfold getD
  rw [← hd, List.take_left']
  rfl
theorem getN_enc {α : Type} {one : List UInt8 → α × Nat × Nat} {enc : α → List UInt8} : ∀ (l : List α) (t : List UInt8), (∀ x ∈ l, ∀ t, one (enc x ++ t) = (x, (enc x).length, 0)) →
    getN one l.length (l.flatMap enc ++ t) = (l, (l.flatMap enc).length, 0)
  | [], t, _ => by simp [getN]
  | x :: l, t, h => by
    have ih := getN_enc l t (fun y hy => h y (List.mem_cons_of_mem _ hy))
    have hx := h x (List.mem_cons_self ..) (l.flatMap enc ++ t)
    rw [List.flatMap_cons, List.append_assoc, List.length_cons, getN]
    simp only [hx]
    simp [ih]
theorem flat_ge {α : Type} {enc : α → List UInt8} {m : Nat} : ∀ (l : List α), (∀ x ∈ l, m ≤ (enc x).length) → l.length * m ≤ (l.flatMap enc).length
  | [], _ => by simp
  | x :: l, h => by
    have ih := flat_ge l (fun y hy => h y (List.mem_cons_of_mem _ hy))
    have hx := h x (List.mem_cons_self ..)
    rw [List.flatMap_cons, List.length_append, List.length_cons, Nat.succ_mul]
    omega
theorem getL_enc {α : Type} {one : List UInt8 → α × Nat × Nat} {enc : α → List UInt8} {m : Nat} (hm : 0 < m) (l : List α) (t : List UInt8) (hl : l.length ≤ 9223372036854775807) (hlen : ∀ x ∈ l, m ≤ (enc x).length)
    (h : ∀ x ∈ l, ∀ t, one (enc x ++ t) = (x, (enc x).length, 0)) : getL one m (encL enc l ++ t) = (l, (encL enc l).length, 0) := by
  have h1 := lenD_enc (n := l.length) (least := m) hl hm (t := l.flatMap enc ++ t) (by have := flat_ge l hlen; rw [List.length_append]; omega)
  have h2 := getN_enc l t h
  unfold getL encL
  rw [List.append_assoc, h1]
  simp [h2]
theorem encS_ge (s : List UInt8) : 1 ≤ (encS s).length := by have := encU_pos (zig s.length); unfold encS encI; rw [List.length_append]; omega
theorem getLI_enc (l : List Int) (t : List UInt8) (hl : l.length ≤ 9223372036854775807) (hn : ∀ n ∈ l, -9223372036854775808 ≤ n ∧ n ≤ 9223372036854775807) : getL getI 1 (encL encI l ++ t) = (l, (encL encI l).length, 0) :=
  getL_enc (by decide) l t hl (fun x _ => encU_pos _) (fun x hx t => getI_enc (hn x hx).1 (hn x hx).2 t)
theorem getLS_enc (l : List (List UInt8)) (t : List UInt8) (hl : l.length ≤ 9223372036854775807) (hn : ∀ s ∈ l, s.length ≤ 9223372036854775807) : getL getS 1 (encL encS l ++ t) = (l, (encL encS l).length, 0) :=
  getL_enc (by decide) l t hl (fun x _ => encS_ge _) (fun x hx t => getS_enc (hn x hx) t)
theorem getLD_enc (l : List (List UInt8)) (t : List UInt8) (hl : l.length ≤ 9223372036854775807) (hn : ∀ d ∈ l, d.length = 16) : getL getD 16 (encL (fun d => d) l ++ t) = (l, (encL (fun d => d) l).length, 0) :=
  getL_enc (by decide) l t hl (fun x hx => by rw [hn x hx]; exact Nat.le_refl _) (fun x hx t => getD_enc (hn x hx) t)
/-! how long encodings are -/
theorem encL_len {α : Type} {enc : α → List UInt8} {m : Nat} : ∀ (l : List α), (∀ x ∈ l, (enc x).length ≤ m) → (l.flatMap enc).length ≤ l.length * m
  | [], _ => by simp
  | x :: l, h => by
    have ih := encL_len l (fun y hy => h y (List.mem_cons_of_mem _ hy))
    have hx := h x (List.mem_cons_self ..)
    rw [List.flatMap_cons, List.length_append, List.length_cons, Nat.succ_mul]
    omega
theorem encLI_len (l : List Int) (hl : l.length ≤ 4294967296) (hn : ∀ n ∈ l, -9223372036854775808 ≤ n ∧ n ≤ 9223372036854775807) : (encL encI l).length ≤ 10 + l.length * 10 := by
  have h := encL_len (enc := encI) (m := 10) l (fun x hx => (encI_len (hn x hx).1 (hn x hx).2).2)
  have h2 := (encI_len (n := (l.length : Int)) (by omega) (by omega)).2
  unfold encL; rw [List.length_append]; omega
theorem encLD_len (l : List (List UInt8)) (hl : l.length ≤ 4294967296) (hn : ∀ d ∈ l, d.length = 16) : (encL (fun d => d) l).length ≤ 10 + l.length * 16 := by
  have h := encL_len (enc := fun d : List UInt8 => d) (m := 16) l (fun x hx => by rw [hn x hx]; exact Nat.le_refl _)
  have h2 := (encI_len (n := (l.length : Int)) (by omega) (by omega)).2
  unfold encL; rw [List.length_append]; omega
end Go.Abs
