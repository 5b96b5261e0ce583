/-
  The numbers of the wire format: what the program's bit operations come to.
-/
import Derived.Test.YtbhlfdklpihaiaaAbsAid
namespace Go.Abs

theorem ofInt_nat {n : Nat} (k : Nat) (h : n < 2 ^ k) : (BitVec.ofInt k (n : Int)).toNat = n := by
  simp
  norm_cast
  exact Nat.mod_eq_of_lt h

theorem bitOr_shift {z x n : Nat} (hz : z < 2 ^ n) (h : z + x * 2 ^ n < 2 ^ 64) : bitOr .u64 (z : Int) ((x * 2 ^ n : Nat) : Int) = ((z + x * 2 ^ n : Nat) : Int) := by
  unfold bitOr
  have h1 : z < 2 ^ 64 := by omega
  have h2 : x * 2 ^ n < 2 ^ 64 := by omega
  have e : z ||| x * 2 ^ n = z + x * 2 ^ n := by
    have := Nat.shiftLeft_add_eq_or_of_lt hz x
    rw [Nat.shiftLeft_eq] at this
    rw [Nat.or_comm, ← this, Nat.add_comm]
  rw [BitVec.toNat_or]
  have a1 := ofInt_nat (n := z) IntKind.u64.bits h1
  have a2 := ofInt_nat (n := x * 2 ^ n) IntKind.u64.bits h2
  rw [a1, a2, e, wrap_u64 (by omega) (by omega)]
theorem bitAnd_low {c : Nat} (h : c < 256) : bitAnd .u8 (c : Int) 127 = ((c % 128 : Nat) : Int) := by
  unfold bitAnd
  rw [BitVec.toNat_and]
  have a1 := ofInt_nat (n := c) IntKind.u8.bits h
  have a2 : (BitVec.ofInt IntKind.u8.bits 127).toNat = 127 := rfl
  have e : c &&& 127 = c % 128 := Nat.and_two_pow_sub_one_eq_mod c 7
  rw [a1, a2, e, wrap_u8]
  omega
theorem bitAnd_one {z : Nat} (h : z < 2 ^ 64) : bitAnd .u64 (z : Int) 1 = ((z % 2 : Nat) : Int) := by
  unfold bitAnd
  rw [BitVec.toNat_and]
  have a1 := ofInt_nat (n := z) IntKind.u64.bits h
  have a2 : (BitVec.ofInt IntKind.u64.bits 1).toNat = 1 := rfl
  rw [a1, a2, Nat.and_one_is_mod, wrap_u64 (by omega) (by omega)]
set_option maxRecDepth 20000 in
theorem or128 : ∀ n < 256, n ||| 128 = n % 128 + 128 := by decide
theorem bitOr_high {z : Nat} : bitOr .u8 (((z % 256 : Nat)) : Int) 128 = ((z % 128 + 128 : Nat) : Int) := by
  unfold bitOr
  rw [BitVec.toNat_or]
  have a1 := ofInt_nat (n := z % 256) IntKind.u8.bits (by show _ < 256; omega)
  have a2 : (BitVec.ofInt IntKind.u8.bits 128).toNat = 128 := rfl
  rw [a1, a2, or128 _ (by omega), wrap_u8]
  have : (z % 256) % 128 = z % 128 := by omega
  rw [this]
  omega
/-- the zigzag number of an integer -/
def zig (n : Int) : Nat := if 0 ≤ n then (2 * n).toNat else (-2 * n - 1).toNat
def unzig (z : Nat) : Int := if z % 2 = 1 then -1 - (z / 2 : Nat) else (z / 2 : Nat)
theorem zig_lt {n : Int} (h1 : -9223372036854775808 ≤ n) (h2 : n ≤ 9223372036854775807) : zig n < 2 ^ 64 := by unfold zig; split <;> omega
theorem unzig_zig (n : Int) : unzig (zig n) = n := by unfold unzig zig; split <;> split <;> omega
theorem zig_unzig (z : Nat) : zig (unzig z) = z := by unfold unzig zig; split <;> split <;> omega
theorem unzig_lo {z : Nat} (h : z < 2 ^ 64) : -9223372036854775808 ≤ unzig z := by unfold unzig; split <;> omega
theorem unzig_hi {z : Nat} (h : z < 2 ^ 64) : unzig z ≤ 9223372036854775807 := by unfold unzig; split <;> omega

theorem xor_zig {n : Int} (h1 : -9223372036854775808 ≤ n) (h2 : n ≤ 9223372036854775807) :
    bitXor .u64 (IntKind.u64.wrap (IntKind.u64.wrap n * 2 ^ (min (1 : Int).toNat IntKind.u64.bits))) (IntKind.u64.wrap (n.fdiv (2 ^ (min (63 : Int).toNat IntKind.i64.bits)))) = (zig n : Int) := by
  have e1 : min (1 : Int).toNat IntKind.u64.bits = 1 := rfl
  have e2 : min (63 : Int).toNat IntKind.i64.bits = 63 := rfl
  rw [e1, e2]
  by_cases hn : 0 ≤ n
  · have f1 : n.fdiv (2 ^ 63) = 0 := by rw [Int.fdiv_eq_ediv_of_nonneg _ (by omega)]; omega
    have f2 : IntKind.u64.wrap n = n := wrap_u64 hn (by omega)
    have f3 : IntKind.u64.wrap (n * 2 ^ 1) = n * 2 := wrap_u64 (by omega) (by omega)
    rw [f1, f2, f3, show IntKind.u64.wrap 0 = 0 from wrap_u64 (by omega) (by omega)]
    unfold bitXor
    rw [BitVec.toNat_xor]
    obtain ⟨m, rfl⟩ := Int.eq_ofNat_of_zero_le hn
    have a1 := ofInt_nat (n := m * 2) IntKind.u64.bits (by show _ < 2 ^ 64; omega)
    rw [show ((m : Int) * 2) = ((m * 2 : Nat) : Int) by omega, a1, show (BitVec.ofInt IntKind.u64.bits 0).toNat = 0 from rfl, Nat.xor_zero, wrap_u64 (by omega) (by omega)]
    unfold zig; rw [if_pos hn]; omega
  · have f1 : n.fdiv (2 ^ 63) = -1 := by rw [Int.fdiv_eq_ediv_of_nonneg _ (by omega)]; omega
    have f2 : IntKind.u64.wrap n = n + 18446744073709551616 := by
      unfold IntKind.wrap; simp only [IntKind.signed, IntKind.bits]; simp; omega
    have f3 : IntKind.u64.wrap ((n + 18446744073709551616) * 2 ^ 1) = n * 2 + 18446744073709551616 := by
      unfold IntKind.wrap; simp only [IntKind.signed, IntKind.bits]; simp; omega
    have f4 : IntKind.u64.wrap (-1) = 18446744073709551615 := by rfl
    rw [f1, f2, f3, f4]
    unfold bitXor
    obtain ⟨m, hm⟩ : ∃ m : Nat, n * 2 + 18446744073709551616 = (m : Int) := ⟨(n * 2 + 18446744073709551616).toNat, by omega⟩
    rw [hm]
    have hones : BitVec.ofInt IntKind.u64.bits 18446744073709551615 = BitVec.allOnes IntKind.u64.bits := by rfl
    rw [hones, BitVec.xor_allOnes, BitVec.toNat_not]
    have a1 := ofInt_nat (n := m) IntKind.u64.bits (by show _ < 2 ^ 64; omega)
    rw [a1]
    show IntKind.u64.wrap ((2 ^ 64 - 1 - m : Nat) : Int) = _
    rw [wrap_u64 (by omega) (by omega)]
    unfold zig; rw [if_neg hn]; omega
theorem unzig_xor {z : Nat} (h : z < 2 ^ 64) :
    bitXor .i64 ((z / 2 : Nat) : Int) (IntKind.i64.wrap (0 - ((z % 2 : Nat) : Int))) = unzig z := by
  have hl : z / 2 < 2 ^ 63 := by omega
  by_cases ho : z % 2 = 1
  · rw [ho]
    have f : IntKind.i64.wrap (0 - ((1 : Nat) : Int)) = -1 := by rfl
    rw [f]
    unfold bitXor
    have hones : BitVec.ofInt IntKind.i64.bits (-1) = BitVec.allOnes IntKind.i64.bits := by rfl
    rw [hones, BitVec.xor_allOnes, BitVec.toNat_not]
    have a1 := ofInt_nat (n := z / 2) IntKind.i64.bits (by show _ < 2 ^ 64; omega)
    rw [a1]
    show IntKind.i64.wrap ((2 ^ 64 - 1 - z / 2 : Nat) : Int) = _
    unfold unzig IntKind.wrap
    simp only [IntKind.signed, IntKind.bits, ho, if_pos]
    simp
    omega
  · have h0 : z % 2 = 0 := by omega
    rw [h0]
    have f : IntKind.i64.wrap (0 - ((0 : Nat) : Int)) = 0 := by rfl
    rw [f]
    unfold bitXor
    have a1 := ofInt_nat (n := z / 2) IntKind.i64.bits (by show _ < 2 ^ 64; omega)
    rw [BitVec.toNat_xor, a1, show (BitVec.ofInt IntKind.i64.bits 0).toNat = 0 from rfl, Nat.xor_zero, wrap_i64 (by omega) (by omega)]
    unfold unzig; rw [if_neg ho]

theorem shr7 (z : Nat) : (z : Int).fdiv (2 ^ (min (7 : Int).toNat IntKind.u64.bits)) = ((z / 128 : Nat) : Int) := by
  have e : min (7 : Int).toNat IntKind.u64.bits = 7 := rfl
  rw [e, Int.fdiv_eq_ediv_of_nonneg _ (by omega)]
  rfl
theorem shr1 (z : Nat) : (z : Int).fdiv (2 ^ (min (1 : Int).toNat IntKind.u64.bits)) = ((z / 2 : Nat) : Int) := by
  have e : min (1 : Int).toNat IntKind.u64.bits = 1 := rfl
  rw [e, Int.fdiv_eq_ediv_of_nonneg _ (by omega)]
  rfl
theorem mul2 {n : Int} (h : 0 ≤ n) (h2 : n ≤ 9223372036854775807) : IntKind.u64.wrap (IntKind.u64.wrap n * 2) = (zig n : Int) := by
  rw [wrap_u64 h (by omega), wrap_u64 (by omega) (by omega)]
  unfold zig; rw [if_pos h]; omega
theorem mul2neg {n : Int} (h1 : -9223372036854775808 ≤ n) (h : n < 0) : IntKind.u64.wrap (IntKind.u64.wrap (-1 - n) * 2) = ((zig n - 1 : Nat) : Int) := by
  rw [wrap_u64 (x := -1 - n) (by omega) (by omega), wrap_u64 (by omega) (by omega)]
  unfold zig; rw [if_neg (by omega)]; omega
theorem add1neg {n : Int} (h1 : -9223372036854775808 ≤ n) (h : n < 0) : IntKind.u64.wrap (((zig n - 1 : Nat) : Int) + 1) = (zig n : Int) := by
  have : zig n = (-2 * n - 1).toNat := by unfold zig; rw [if_neg (by omega)]
  rw [this, wrap_u64 (by omega) (by omega)]; omega
theorem toNat_ofNat8 {n : Nat} (h : n < 256) : (UInt8.ofNat n).toNat = n := by simp [UInt8.toNat_ofNat']; omega
end Go.Abs
