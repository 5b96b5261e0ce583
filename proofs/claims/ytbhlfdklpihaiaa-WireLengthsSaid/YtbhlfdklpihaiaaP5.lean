/-
  The plain law WireLengths.
-/
import Derived.Test.YtbhlfdklpihaiaaL5
import Derived.Test.YtbhlfdklpihaiaaAbsPlain
import Derived.Test.YtbhlfdklpihaiaaAbsEnd4
namespace Go.Proofs.Ytbhlfdklpihaiaa
open Go.Abs
set_option linter.unusedSimpArgs false
set_option linter.unusedVariables false
theorem encU_mono : ∀ (z z' : Nat), z / 2 ≤ z' / 2 → (encU z).length ≤ (encU z').length := by
  intro z
  induction z using Nat.strongRecOn with
  | ind z ih =>
    intro z' h
    by_cases h1 : z < 128
    · rw [encU_lt h1]; exact encU_pos z'
    · have h2 : ¬ z' < 128 := by omega
      rw [encU_ge h1, encU_ge h2]
      have := ih (z / 128) (by omega) (z' / 128) (by omega)
      simp only [List.length_cons]; omega
theorem encU_one (z : Nat) : (encU z).length = 1 ↔ z < 128 := by
  by_cases h : z < 128
  · simp [encU_lt h, h]
  · rw [encU_ge h]
    have := encU_pos (z / 128)
    simp only [List.length_cons]; omega
theorem encU_prefix : ∀ (z z' : Nat) (t t' : List UInt8), encU z ++ t = encU z' ++ t' → z = z' := by
  intro z
  induction z using Nat.strongRecOn with
  | ind z ih =>
    intro z' t t' h
    by_cases h1 : z < 128
    · by_cases h2 : z' < 128
      · rw [encU_lt h1, encU_lt h2] at h
        simp only [List.cons_append, List.nil_append, List.cons.injEq] at h
        have := congrArg UInt8.toNat h.1
        rw [toNat_ofNat8 (by omega), toNat_ofNat8 (by omega)] at this; exact this
      · rw [encU_lt h1, encU_ge h2] at h
        simp only [List.cons_append, List.nil_append, List.cons.injEq] at h
        have := congrArg UInt8.toNat h.1
        rw [toNat_ofNat8 (by omega), toNat_ofNat8 (by omega)] at this; omega
    · by_cases h2 : z' < 128
      · rw [encU_ge h1, encU_lt h2] at h
        simp only [List.cons_append, List.nil_append, List.cons.injEq] at h
        have := congrArg UInt8.toNat h.1
        rw [toNat_ofNat8 (by omega), toNat_ofNat8 (by omega)] at this; omega
      · rw [encU_ge h1, encU_ge h2] at h
        simp only [List.cons_append, List.cons.injEq] at h
        have h3 := congrArg UInt8.toNat h.1
        rw [toNat_ofNat8 (by omega), toNat_ofNat8 (by omega)] at h3
        have := ih (z / 128) (by omega) (z' / 128) _ _ h.2
        omega
theorem zig_inj {m n : Int} (h : zig m = zig n) : m = n := by rw [← unzig_zig m, ← unzig_zig n, h]
theorem zig_half {m : Int} : ((zig m / 2 : Nat) : Int) = max m (-1 - m) := by unfold zig; split <;> omega
theorem encI_take {m n : Int} (h : (encI m).take (min (encI m).length (encI n).length) = (encI n).take (min (encI m).length (encI n).length)) : m = n := by
  unfold encI at h
  rcases Nat.le_total (encU (zig m)).length (encU (zig n)).length with hl | hl
  · rw [Nat.min_eq_left hl, List.take_length] at h
    refine zig_inj (encU_prefix _ _ ((encU (zig n)).drop (encU (zig m)).length) [] ?_)
    rw [List.append_nil]
    conv => lhs; arg 1; rw [h]
    exact List.take_append_drop _ _
  · rw [Nat.min_eq_right hl, List.take_length] at h
    refine (zig_inj (encU_prefix _ _ ((encU (zig m)).drop (encU (zig n)).length) [] ?_)).symm
    rw [List.append_nil]
    conv => lhs; arg 1; rw [← h]
    exact List.take_append_drop _ _
theorem lengths_true (m n : Int) (hm : wfI .i64 m) (hn : wfI .i64 n) : law01_WireLengths m n = some true := by
  have a := wf64 hm
  have b := wf64 hn
  unfold law01_WireLengths wire_Int law01_sanity
  rw [w64 (x := -1 - m) (by omega) (by omega), w64 (x := -1 - n) (by omega) (by omega), need_pos a, need_pos b, need_pos ⟨by omega, by omega⟩]
  have l1 := encI_len a.1 a.2
  have l2 := encI_len b.1 b.2
  have z1 := zig_half (m := m)
  have z2 := zig_half (m := n)
  have z3 := zig_half (m := -1 - m)
  have m1 : max m (-1 - m) ≤ max n (-1 - n) → (encI m).length ≤ (encI n).length := fun h => encU_mono _ _ (by omega)
  have m2 : max n (-1 - n) ≤ max m (-1 - m) → (encI n).length ≤ (encI m).length := fun h => encU_mono _ _ (by omega)
  have m3 : (encI (-1 - m)).length = (encI m).length := Nat.le_antisymm (encU_mono _ _ (by omega)) (encU_mono _ _ (by omega))
  have m4 : (encI m).length = 1 ↔ max m (-1 - m) < 64 := by
    have := encU_one (zig m)
    unfold encI
    rw [this]; omega
  have m5 : ((encI m).take (min (encI m).length (encI n).length) = (encI n).take (min (encI m).length (encI n).length)) ↔ m = n := ⟨encI_take, fun h => by rw [h]⟩
  generalize hL : encI m = la at *
  generalize hR : encI n = lb at *
  have e1 : (decide (max m (-1 - m) ≤ max n (-1 - n)) && decide ((lb.length : Int) < (la.length : Int))) = false := by
    rw [Bool.eq_false_iff]; intro h; simp only [Bool.and_eq_true, decide_eq_true_eq] at h; have := m1 h.1; omega
  have e2 : (decide (max n (-1 - n) ≤ max m (-1 - m)) && decide ((la.length : Int) < (lb.length : Int))) = false := by
    rw [Bool.eq_false_iff]; intro h; simp only [Bool.and_eq_true, decide_eq_true_eq] at h; have := m2 h.1; omega
  have e3 : decide ((la.length : Int) = 1) = decide (max m (-1 - m) < 64) := decide_eq_decide.2 (by omega)
  have e4 : decide ((10 : Int) < (la.length : Int)) = false := by simp; omega
  have e5 : decide ((la.length : Int) = 0) = false := by simp; intro h; rw [h] at l1; simp at l1
  have e6 : decide ((lb.length : Int) = 0) = false := by simp; intro h; rw [h] at l2; simp at l2
  have hmin : (min (la.length : Int) (lb.length : Int)).toNat = min la.length lb.length := by omega
  simp only [Option.bind_some, e1, e2, e3, e4, e5, e6, m3, hmin]
  rw [need_pos ⟨by omega, by omega, by omega⟩, need_pos ⟨by omega, by omega, by omega⟩]
  simp [m5]
end Go.Proofs.Ytbhlfdklpihaiaa
