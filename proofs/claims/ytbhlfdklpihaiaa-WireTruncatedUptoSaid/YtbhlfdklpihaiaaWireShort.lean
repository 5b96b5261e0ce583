/-
  What is cut short is told so: a proper head part of an encoding decodes to the error 10.
-/
import Derived.Test.YtbhlfdklpihaiaaWireMore
namespace Go.Abs
theorem getU_short : ∀ (m z k j : Nat), z ≤ m → k ≤ 9 → z < 2 ^ (64 - 7 * k) → (0 < k → z ≠ 0) → j < (encU z).length → getU k ((encU z).take j) = (0, 0, 10) := by
  intro m
  induction m with
  | zero =>
    intro z k j hm hk hz h0 hj
    have : z = 0 := by omega
    subst this
    rw [encU_lt (by decide)] at hj ⊢
    have : j = 0 := by simpa using hj
    subst this
    rfl
  | succ m ih =>
    intro z k j hm hk hz h0 hj
    by_cases h : z < 128
    · rw [encU_lt h] at hj ⊢
      have : j = 0 := by simpa using hj
      subst this
      rfl
    · have h9 : k ≠ 9 := by rintro rfl; simp at hz; omega
      have e : (UInt8.ofNat (z % 128 + 128)).toNat = z % 128 + 128 := toNat_ofNat8 (by omega)
      have hz2 : z / 128 < 2 ^ (64 - 7 * (k + 1)) := by
        rw [Nat.div_lt_iff_lt_mul (by omega)]
        rw [show 64 - 7 * k = (64 - 7 * (k + 1)) + 7 by omega, Nat.pow_add] at hz
        omega
      rw [encU_ge h] at hj ⊢
      cases j with
      | zero => rfl
      | succ j =>
        have := ih (z / 128) (k + 1) j (by omega) (by omega) hz2 (by omega) (by simpa using hj)
        rw [List.take_succ_cons, getU, if_neg (by rw [e]; omega), if_neg (by rw [e]; omega), this]
        rfl
theorem getI_short {n : Int} (h1 : -9223372036854775808 ≤ n) (h2 : n ≤ 9223372036854775807) {j : Nat} (hj : j < (encI n).length) : getI ((encI n).take j) = (0, 0, 10) := by
  have h := getU_short (zig n) (zig n) 0 j (Nat.le_refl _) (by omega) (by have := zig_lt h1 h2; omega) (by omega) hj
  unfold getI encI
  rw [h]
  rfl
theorem lenD_enc2 {n least : Nat} (hn : n ≤ 9223372036854775807) (t : List UInt8) : lenD (encI n ++ t) least = if t.length / least < n then (0, 0, 10) else (n, (encI n).length, 0) := by
  have h := getI_enc (n := (n : Int)) (by omega) (by omega) t
  unfold lenD
  simp only [h]
  rw [if_neg (by omega), if_neg (by omega), List.length_append, Nat.add_sub_cancel_left, Int.toNat_natCast]
theorem lenD_short {n least : Nat} (hn : n ≤ 9223372036854775807) {t : List UInt8} {j : Nat} (hj : j < (encI n).length) : lenD ((encI n ++ t).take j) least = (0, 0, 10) := by
  rw [List.take_append_of_le_length (by omega)]
  have h := getI_short (n := (n : Int)) (by omega) (by omega) hj
  rw [lenD_1 (by rw [h]; decide), h]
theorem take_past {a t : List UInt8} {j : Nat} (hj : a.length ≤ j) : (a ++ t).take j = a ++ t.take (j - a.length) := by
  rw [List.take_append, List.take_of_length_le hj]
theorem getS_short {s : List UInt8} (hs : s.length ≤ 9223372036854775807) {j : Nat} (hj : j < (encS s).length) : (getS ((encS s).take j)).2.2 = 10 := by
  have hl : (encS s).length = (encI s.length).length + s.length := List.length_append
  by_cases h : j < (encI s.length).length
  · have h1 := lenD_short (least := 1) hs (t := s) h
    rw [encS, getS_1 (by rw [h1]; decide), h1]
  · have h1 := lenD_enc2 (least := 1) hs (s.take (j - (encI s.length).length))
    rw [Nat.div_one, List.length_take, if_pos (by omega)] at h1
    rw [encS, take_past (by omega), getS_1 (by rw [h1]; decide), h1]
theorem getN_short {α : Type} {one : List UInt8 → α × Nat × Nat} {enc : α → List UInt8} : ∀ (l : List α) (j : Nat), (∀ x ∈ l, ∀ t, one (enc x ++ t) = (x, (enc x).length, 0)) → (∀ x ∈ l, ∀ j, j < (enc x).length → (one ((enc x).take j)).2.2 = 10) →
    j < (l.flatMap enc).length → (getN one l.length ((l.flatMap enc).take j)).2.2 = 10
  | [], j, _, _, h => by simp at h
  | x :: l, j, h1, h2, hj => by
    rw [List.flatMap_cons, List.length_append] at hj
    rw [List.flatMap_cons, List.length_cons, getN]
    by_cases h : j < (enc x).length
    · have e := h2 x (List.mem_cons_self ..) j h
      rw [List.take_append_of_le_length (by omega)]
      simp [e]
    · rw [take_past (by omega)]
      have e := h1 x (List.mem_cons_self ..) ((l.flatMap enc).take (j - (enc x).length))
      have ih := getN_short l (j - (enc x).length) (fun y hy => h1 y (List.mem_cons_of_mem _ hy)) (fun y hy => h2 y (List.mem_cons_of_mem _ hy)) (by omega)
      simp only [e]
      simp [ih]
theorem getL_short {α : Type} {one : List UInt8 → α × Nat × Nat} {enc : α → List UInt8} {m : Nat} (l : List α) (hl : l.length ≤ 9223372036854775807) (h1 : ∀ x ∈ l, ∀ t, one (enc x ++ t) = (x, (enc x).length, 0))
    (h2 : ∀ x ∈ l, ∀ j, j < (enc x).length → (one ((enc x).take j)).2.2 = 10) {j : Nat} (hj : j < (encL enc l).length) : (getL one m ((encL enc l).take j)).2.2 = 10 := by
  have hll : (encL enc l).length = (encI l.length).length + (l.flatMap enc).length := List.length_append
  by_cases h : j < (encI l.length).length
  · have e := lenD_short (least := m) hl (t := l.flatMap enc) h
    rw [encL, getL_err (by rw [e]; decide), e]
  · have e := lenD_enc2 (least := m) hl ((l.flatMap enc).take (j - (encI l.length).length))
    rw [encL, take_past (by omega)]
    by_cases h3 : ((l.flatMap enc).take (j - (encI l.length).length)).length / m < l.length
    · rw [if_pos h3] at e
      rw [getL_err (by rw [e]; decide), e]
    · rw [if_neg h3] at e
      have hs := getN_short l (j - (encI l.length).length) h1 h2 (by omega)
      unfold getL
      simp only [e]
      simp [hs]
theorem getLI_short (l : List Int) (hl : l.length ≤ 9223372036854775807) (hn : ∀ n ∈ l, -9223372036854775808 ≤ n ∧ n ≤ 9223372036854775807) {j : Nat} (hj : j < (encL encI l).length) : (getL getI 1 ((encL encI l).take j)).2.2 = 10 :=
  getL_short l hl (fun x hx t => getI_enc (hn x hx).1 (hn x hx).2 t) (fun x hx j hj => by rw [getI_short (hn x hx).1 (hn x hx).2 hj]) hj
theorem getLS_short (l : List (List UInt8)) (hl : l.length ≤ 9223372036854775807) (hn : ∀ s ∈ l, s.length ≤ 9223372036854775807) {j : Nat} (hj : j < (encL encS l).length) : (getL getS 1 ((encL encS l).take j)).2.2 = 10 :=
  getL_short l hl (fun x hx t => getS_enc (hn x hx) t) (fun x hx j hj => getS_short (hn x hx) hj) hj
theorem flat16 : ∀ (l : List (List UInt8)), (∀ d ∈ l, d.length = 16) → (l.flatMap fun d => d).length = l.length * 16
  | [], _ => rfl
  | d :: l, h => by
    rw [List.flatMap_cons, List.length_append, h d (List.mem_cons_self ..), flat16 l (fun y hy => h y (List.mem_cons_of_mem _ hy)), List.length_cons]; omega
theorem getLD_short (l : List (List UInt8)) (hl : l.length ≤ 9223372036854775807) (hn : ∀ d ∈ l, d.length = 16) {j : Nat} (hj : j < (encL (fun d => d) l).length) : (getL getD 16 ((encL (fun d => d) l).take j)).2.2 = 10 := by
  have hll : (encL (fun d => d) l).length = (encI l.length).length + (l.flatMap fun d => d).length := List.length_append
  have hf := flat16 l hn
  by_cases h : j < (encI l.length).length
  · have e := lenD_short (least := 16) hl (t := l.flatMap fun d => d) h
    rw [encL, getL_err (by rw [e]; decide), e]
  · have e := lenD_enc2 (least := 16) hl ((l.flatMap fun d => d).take (j - (encI l.length).length))
    rw [if_pos (by rw [List.length_take]; omega)] at e
    rw [encL, take_past (by omega), getL_err (by rw [e]; decide), e]
end Go.Abs
