/-
  Texts that stand side by side: Pf, Pg, Ph, Pi, Pj, Pk, Pl, Pm, G5a, G3a, G3b, G3c, G3d, Pe, W5, P5, AbsEnd, AbsEnd2, AbsEnd3, AbsEnd4, AbsEnd5, Opm.
-/
import Derived.Test.YtgjdaamkfpbgpaaM1
import Derived.Test.YtgjdaamkfpbgpaaM0
import Derived.Test.YtgjdaamkfpbgpaaFh
import Derived.KernelRfl
import Derived.WalkKit
import Derived.ProofKit
import Derived.OpenShut
import Derived.ShutString
import Derived.ChangeOld
import Derived.Below
import Derived.SliceStrings
import Derived.ChangeArms
import Derived.Test.YtgjdaamkfpbgpaaFa
namespace Go.Proofs.Ytgjdaamkfpbgpaa
open Go.Abs
set_option linter.unusedVariables false
set_option linter.unusedSimpArgs false

theorem int_loop : ∀ (k n Z : Nat) (out : List UInt8), Z < 2 ^ (7 * (k + 1)) → k < n → out.length + k < 1073741824 →
    ∃ (z' : Nat) (pre : List UInt8), iter wire_Int_L1 n ((Z : Int), out) = some (.go ((z' : Int), out ++ pre)) ∧ z' < 128 ∧ encU Z = pre ++ [UInt8.ofNat z'] ∧ pre.length ≤ k
  | k, 0, Z, out, hZ, hn, hl => by omega
  | k, n + 1, Z, out, hZ, hn, hl => by
    by_cases h : Z < 128
    · refine ⟨Z, [], ?_, h, by rw [encU_lt h]; rfl, by simp⟩
      have hs : wire_Int_L1 ((Z : Int), out) = some (.stop (.go ((Z : Int), out))) := by
        unfold wire_Int_L1
        simp only [show decide ((127 : Int) < (Z : Int)) = false by simp; omega, cond_false]
      rw [iter_stop hs]; simp
    · cases k with
      | zero => simp at hZ; omega
      | succ k =>
        have hs : wire_Int_L1 ((Z : Int), out) = some (.go (((Z / 128 : Nat) : Int), out ++ [UInt8.ofNat (Z % 128 + 128)])) := by
          unfold wire_Int_L1
          simp only [show decide ((127 : Int) < (Z : Int)) = true by simp; omega, cond_true]
          have hb : bitOr .u8 (IntKind.u8.wrap (Z : Int)) 128 = ((Z % 128 + 128 : Nat) : Int) := by
            rw [show IntKind.u8.wrap (Z : Int) = ((Z % 256 : Nat) : Int) by rw [wrap_u8]; rfl]; exact bitOr_high
          rw [hb, need_pos (by omega), need_pos (by simp; omega), shr7]
          simp only [Int.toNat_natCast, Nat.toUInt8]
        have hZ2 : Z / 128 < 2 ^ (7 * (k + 1)) := by
          rw [Nat.div_lt_iff_lt_mul (by omega)]
          rw [show 7 * (k + 1 + 1) = 7 * (k + 1) + 7 by omega, Nat.pow_add] at hZ
          simpa using hZ
        obtain ⟨z', pre, h1, h2, h3, h4⟩ := int_loop k n (Z / 128) (out ++ [UInt8.ofNat (Z % 128 + 128)]) hZ2 (by omega) (by simp; omega)
        exact ⟨z', UInt8.ofNat (Z % 128 + 128) :: pre, by rw [iter_go hs, h1]; simp, h2, by rw [encU_ge h, h3]; simp, by simp; omega⟩
theorem int_enc {n : Nat} {v : Int} (hn : 10 < n) (h1 : -9223372036854775808 ≤ v) (h2 : v ≤ 9223372036854775807) : wire_Int n v = some (encI v) := by
  unfold wire_Int
  rw [xor_zig h1 h2]
  obtain ⟨z', pre, e1, e2, e3, e4⟩ := int_loop 9 n (zig v) [] (by have := zig_lt h1 h2; exact Nat.lt_of_lt_of_le this (by decide)) (by omega) (by simp)
  rw [e1]
  simp only [bindJ_go, List.nil_append]
  have hw : (IntKind.u8.wrap (z' : Int)).toNat.toUInt8 = UInt8.ofNat z' := by
    rw [wrap_u8, show ((z' : Int) % 256) = (z' : Int) by omega]; simp
  rw [need_pos (by simp; omega), hw]
  unfold encI
  rw [e3]
theorem bytes_enc {n : Nat} {s : List UInt8} (hn : 10 < n) (h : s.length < 1073741824) : wire_Bytes n s = some (encS s) := by
  unfold wire_Bytes
  have := (encI_len (n := (s.length : Int)) (by omega) (by omega)).2
  rw [int_enc hn (by omega) (by omega)]
  simp only [obind, Option.bind_some]
  rw [need_pos (by omega)]; rfl
theorem w_suc {k N : Nat} (h : k ≤ N) (hN : N ≤ 1073741824) : IntKind.i64.wrap ((k : Int) + 1) = ((k + 1 : Nat) : Int) := by rw [w64 (by omega) (by omega)]; try omega
theorem flat_len {α : Type} {one : α → List UInt8} (l : List α) {i : Nat} (h : i < l.length) : ((l.take i).flatMap one).length + (one l[i]).length ≤ (l.flatMap one).length := by
  have h1 : l.flatMap one = (l.take i).flatMap one ++ (one l[i] ++ (l.drop (i + 1)).flatMap one) := by
    rw [← List.append_assoc, ← flat_takeW one h, ← List.flatMap_append, List.take_append_drop]
  rw [h1]; simp
theorem iter_list {α T R : Type} {step : T → Option (Lp T R)} {l : List α} (mk : Nat → T) (r : R)
    (hgo : ∀ (i : Nat) (h : i < l.length), step (mk i) = some (.go (mk (i + 1)))) (hend : step (mk l.length) = some (.stop r)) :
    ∀ (n i : Nat), i ≤ l.length → l.length - i < n → iter step n (mk i) = some r
  | 0, i, _, h => by omega
  | n + 1, i, hle, h => by
    by_cases e : i = l.length
    · subst e; exact iter_stop hend
    · rw [iter_go (hgo i (by omega))]
      exact iter_list mk r hgo hend n (i + 1) (by omega) (by omega)
theorem ints_enc {n : Nat} {l : List Int} (hn : 10 < n) (hln : l.length < n) (h1 : ∀ v ∈ l, -9223372036854775808 ≤ v ∧ v ≤ 9223372036854775807) (hl : (l.flatMap encI).length < 1073741800) (hl2 : l.length < 1073741800) : wire_Ints n l = some (encL encI l) := by
  have hq := (encI_len (n := (l.length : Int)) (by omega) (by omega)).2
  have h := iter_list (l := l) (step := wire_list_int_51_L1 n l) (fun i => (encI l.length ++ (l.take i).flatMap encI, (i : Int))) (.go (encL encI l)) (fun i hi => by
    unfold wire_list_int_51_L1
    simp only [show decide ((i : Int) < (l.length : Int)) = true by simp; omega, cond_true]
    have := flat_len (one := encI) l hi
    rw [idx_get' hi, int_enc hn (h1 _ (List.getElem_mem hi)).1 (h1 _ (List.getElem_mem hi)).2]
    simp only [obind, Option.bind_some]
    rw [need_pos (by simp only [List.length_append]; omega), w_suc (N := l.length) (by omega) (by omega), flat_takeW encI hi]
    simp) (by unfold wire_list_int_51_L1; simp [encL]) n 0 (by omega) (by omega)
  simp only [List.take_zero, List.flatMap_nil, List.append_nil] at h
  unfold wire_Ints wire_list_int_51
  rw [int_enc hn (by omega) (by omega)]
  simp only [obind, Option.bind_some]
  have h' : iter (wire_list_int_51_L1 n l) n (encI l.length, 0) = some (.go (encL encI l)) := h
  rw [h']; rfl
theorem strings_enc {n : Nat} {l : List (List UInt8)} (hn : 10 < n) (hln : l.length < n) (h1 : ∀ v ∈ l, v.length < 1073741824) (hl : (l.flatMap encS).length < 1073741800) (hl2 : l.length < 1073741800) : wire_Strings n l = some (encL encS l) := by
  have hq := (encI_len (n := (l.length : Int)) (by omega) (by omega)).2
  have h := iter_list (l := l) (step := wire_list_string_49_L1 n l) (fun i => (encI l.length ++ (l.take i).flatMap encS, (i : Int))) (.go (encL encS l)) (fun i hi => by
    unfold wire_list_string_49_L1
    simp only [show decide ((i : Int) < (l.length : Int)) = true by simp; omega, cond_true]
    have := flat_len (one := encS) l hi
    rw [idx_get' hi, bytes_enc hn (h1 _ (List.getElem_mem hi))]
    simp only [obind, Option.bind_some]
    rw [need_pos (by simp only [List.length_append]; omega), w_suc (N := l.length) (by omega) (by omega), flat_takeW encS hi]
    simp) (by unfold wire_list_string_49_L1; simp [encL]) n 0 (by omega) (by omega)
  simp only [List.take_zero, List.flatMap_nil, List.append_nil] at h
  unfold wire_Strings wire_list_string_49
  rw [int_enc hn (by omega) (by omega)]
  simp only [obind, Option.bind_some]
  have h' : iter (wire_list_string_49_L1 n l) n (encI l.length, 0) = some (.go (encL encS l)) := h
  rw [h']; rfl
end Go.Proofs.Ytgjdaamkfpbgpaa
namespace Go.Proofs.Ytgjdaamkfpbgpaa
open Go.Abs
set_option linter.unusedVariables false
set_option linter.unusedSimpArgs false

def triI (x : Int × Nat × Nat) : Int × Int × Int := (x.1, (x.2.1 : Int), (x.2.2 : Int))
def gcont : Int × Int → Option (Int × Int × Int) := fun (z_1, used_2) =>
  cond (decide (used_2 = 0))
   (some (0, 0, 10))
   (some ((bitXor .i64 (IntKind.i64.wrap (Int.fdiv z_1 (2 ^ (min ((1 : Int).toNat) IntKind.u64.bits)))) (IntKind.i64.wrap (0 - (IntKind.i64.wrap (bitAnd .u64 z_1 1))))), used_2, 0))
theorem gcont_ok {z k : Nat} (hz : z < 2 ^ 64) : gcont ((z : Int), ((k + 1 : Nat) : Int)) = some (unzig z, ((k + 1 : Nat) : Int), 0) := by
  unfold gcont
  simp only [show decide (((k + 1 : Nat) : Int) = 0) = false by simp; omega, cond_false]
  rw [shr1, bitAnd_one hz, w64 (by omega) (by omega), w64 (x := ((z % 2 : Nat) : Int)) (by omega) (by omega), unzig_xor hz]
theorem get_loop (b : List UInt8) (hb : b.length < 1073741824) : ∀ (n k z : Nat), b.length - k < n → k ≤ b.length → k ≤ 9 → z < 2 ^ (7 * k) → finU k z (getU k (b.drop k)) = getU 0 b →
    bindJ (iter (wire_GetInt_L1 b) n ((z : Int), (k : Int))) gcont = some (triI (getI b))
  | 0, k, z, h, _, _, _, _ => by omega
  | n + 1, k, z, h, hk, h9, hz, hi => by
    by_cases hlt : k < b.length
    · have hd := drop_cons hlt
      have hc := UInt8.toNat_lt b[k]
      have hstep : wire_GetInt_L1 b ((z : Int), (k : Int)) = cond (decide ((k = 9 ∧ 1 < b[k].toNat) ∨ (0 < k ∧ b[k].toNat = 0))) (some (.stop (.stop (0, 0, 11)))) (cond (decide (b[k].toNat < 128))
          (some (.stop (.go ((bitOr .u64 (z : Int) (IntKind.u64.wrap ((IntKind.u64.wrap (bitAnd .u8 ((b[k]).toNat : Int) 127)) * 2 ^ (min (((7 * k : Nat) : Int)).toNat IntKind.u64.bits)))), ((k + 1 : Nat) : Int)))))
          (some (.go ((bitOr .u64 (z : Int) (IntKind.u64.wrap ((IntKind.u64.wrap (bitAnd .u8 ((b[k]).toNat : Int) 127)) * 2 ^ (min (((7 * k : Nat) : Int)).toNat IntKind.u64.bits)))), ((k + 1 : Nat) : Int))))) := by
        unfold wire_GetInt_L1
        simp only [show decide ((k : Int) < (b.length : Int)) = true by simp; omega, cond_true]
        rw [idx_get' hlt, show IntKind.i64.wrap (7 * (k : Int)) = ((7 * k : Nat) : Int) by rw [w64 (by omega) (by omega)]; omega, w_suc (N := b.length) (by omega) (by omega), need_pos (by omega)]
        have e1 : decide ((b[k].toNat : Int) < 128) = decide (b[k].toNat < 128) := by congr 1; exact propext (by omega)
        rw [e1]
        by_cases h1 : k = 9 ∧ 1 < b[k].toNat
        · rw [decide_eq_true (Or.inl h1 : (k = 9 ∧ 1 < b[k].toNat) ∨ (0 < k ∧ b[k].toNat = 0))]
          simp only [show (decide ((k : Int) = 9) && decide (1 < (b[k].toNat : Int))) = true by simp; omega, cond_true, bindJ_go]
        · simp only [show (decide ((k : Int) = 9) && decide (1 < (b[k].toNat : Int))) = false by simp; omega, cond_false, bindJ_go]
          rw [show (decide (0 < (k : Int)) && decide ((b[k].toNat : Int) = 0)) = decide ((k = 9 ∧ 1 < b[k].toNat) ∨ (0 < k ∧ b[k].toNat = 0)) by
            by_cases h2 : 0 < k ∧ b[k].toNat = 0
            · rw [decide_eq_true (Or.inr h2)]; simp; omega
            · rw [decide_eq_false (by omega : ¬ ((k = 9 ∧ 1 < b[k].toNat) ∨ (0 < k ∧ b[k].toNat = 0)))]; simp; omega]
      by_cases hbad : (k = 9 ∧ 1 < b[k].toNat) ∨ (0 < k ∧ b[k].toNat = 0)
      · rw [iter_stop (by rw [hstep, decide_eq_true hbad, cond_true])]
        rw [getI_bad hi (by rw [hd]; exact getU_bad hbad) (by omega)]; rfl
      · have hx : bitOr .u64 (z : Int) (IntKind.u64.wrap ((IntKind.u64.wrap (bitAnd .u8 ((b[k]).toNat : Int) 127)) * 2 ^ (min (((7 * k : Nat) : Int)).toNat IntKind.u64.bits))) = ((z + (b[k].toNat % 128) * 2 ^ (7 * k) : Nat) : Int) := by
          have hdl := dig_lt (c := b[k].toNat) h9 hz (fun h => by omega)
          rw [bitAnd_low hc, wrap_u64 (x := ((b[k].toNat % 128 : Nat) : Int)) (by omega) (by omega), shl7 h9 (by omega), bitOr_shift hz hdl]
        have hdl := dig_lt (c := b[k].toNat) h9 hz (fun h => by omega)
        by_cases h128 : b[k].toNat < 128
        · rw [iter_stop (by rw [hstep, decide_eq_false hbad, cond_false, decide_eq_true h128, cond_true])]
          simp only [bindJ_go]
          rw [hx, gcont_ok hdl, getI_good hi (by rw [hd]; exact getU_last hbad h128), Nat.mod_eq_of_lt h128]; rfl
        · rw [iter_go (by rw [hstep, decide_eq_false hbad, cond_false, decide_eq_false h128, cond_false]), hx]
          have h9' : k ≠ 9 := fun h => hbad (.inl ⟨h, by omega⟩)
          refine get_loop b hb n (k + 1) _ (by omega) (by omega) (by omega) (dig_lt2 hz) ?_
          rw [← hi, hd, finU_step hbad h128]
    · have hs : wire_GetInt_L1 b ((z : Int), (k : Int)) = some (.stop (.go ((z : Int), 0))) := by
        unfold wire_GetInt_L1
        simp only [show decide ((k : Int) < (b.length : Int)) = false by simp; omega, cond_false]
      rw [iter_stop hs]
      have : b.drop k = [] := List.drop_eq_nil_of_le (by omega)
      rw [getI_bad hi (by rw [this]; rfl) (by omega)]; rfl
theorem get_int {n : Nat} {b : List UInt8} (hb : b.length < 1073741824) (hn : b.length < n) : wire_GetInt n b = some (triI (getI b)) := by
  have := get_loop b hb n 0 0 (by omega) (by omega) (by omega) (by simp) (by simpa using finU_start b)
  exact this
theorem get_len {n : Nat} {b : List UInt8} (hb : b.length < 1073741824) (hn : b.length < n) : wire_length n b 1 = some (((lenD b 1).1 : Int), ((lenD b 1).2.1 : Int), ((lenD b 1).2.2 : Int)) := by
  unfold wire_length
  rw [get_int hb hn]
  simp only [obind, Option.bind_some, triI]
  have ha := getI_any b
  unfold lenD
  by_cases h0 : (getI b).2.2 = 0
  · simp only [h0, ne_eq, Int.natCast_zero, not_true_eq_false, decide_false, cond_false, if_false]
    by_cases h1 : (getI b).1 < 0
    · simp [h1]
    · simp only [h1, decide_false, cond_false, if_false]
      rw [need_pos (by omega), w64 (x := (b.length : Int) - ((getI b).2.1 : Int)) (by omega) (by omega), Int.tdiv_one, w64 (by omega) (by omega), Nat.div_one]
      by_cases h2 : b.length - (getI b).2.1 < (getI b).1.toNat
      · rw [if_pos h2, show decide ((b.length : Int) - ((getI b).2.1 : Int) < (getI b).1) = true by simp; omega]; rfl
      · rw [if_neg h2, show decide ((b.length : Int) - ((getI b).2.1 : Int) < (getI b).1) = false by simp; omega]
        simp; omega
  · simp [h0]
theorem get_bytes {n : Nat} {b : List UInt8} (hb : b.length < 1073741824) (hn : b.length < n) : wire_GetBytes n b = some ((getS b).1, ((getS b).2.1 : Int), ((getS b).2.2 : Int)) := by
  unfold wire_GetBytes
  rw [get_len hb hn]
  simp only [obind, Option.bind_some]
  have ha := lenD_any (b := b) (least := 1) (by omega)
  unfold getS
  by_cases h0 : (lenD b 1).2.2 = 0
  · simp only [h0, ne_eq, Int.natCast_zero, not_true_eq_false, decide_false, cond_false, if_false]
    rw [w64 (by omega) (by omega), need_pos (by omega)]
    rw [show (((lenD b 1).2.1 : Int) + ((lenD b 1).1 : Int)).toNat = (lenD b 1).2.1 + (lenD b 1).1 by omega, Int.toNat_natCast, List.drop_take]
    simp
  · simp [h0]
end Go.Proofs.Ytgjdaamkfpbgpaa
namespace Go.Proofs.Ytgjdaamkfpbgpaa
open Go.Abs
set_option linter.unusedVariables false
set_option linter.unusedSimpArgs false

theorem get_list {α : Type} {one : List UInt8 → α × Nat × Nat} {b : List UInt8} {N : Nat} {step : Int × List α × Int → Option (Lp (Int × List α × Int) (Lp (Int × List α) (List α × Int × Int)))}
    (hstep : ∀ (A i : Nat) (out : List α), i < N → A ≤ b.length → out.length ≤ N → step ((A : Int), out, (i : Int)) = if (one (b.drop A)).2.2 ≠ 0 then some (.stop (.stop ([], 0, ((one (b.drop A)).2.2 : Int)))) else some (.go (((A + (one (b.drop A)).2.1 : Nat) : Int), out ++ [(one (b.drop A)).1], ((i + 1 : Nat) : Int))))
    (hend : ∀ (A : Nat) (out : List α), step ((A : Int), out, (N : Int)) = some (.stop (.go ((A : Int), out)))) (hle : ∀ b', (one b').2.1 ≤ b'.length) :
    ∀ (j n i A : Nat) (out : List α), i + j = N → A ≤ b.length → out.length = i → j < n →
      iter step n ((A : Int), out, (i : Int)) = some (if (getN one j (b.drop A)).2.2 ≠ 0 then .stop ([], 0, ((getN one j (b.drop A)).2.2 : Int)) else .go (((A + (getN one j (b.drop A)).2.1 : Nat) : Int), out ++ (getN one j (b.drop A)).1))
  | j, 0, i, A, out, _, _, _, h => by omega
  | 0, n + 1, i, A, out, hi, hA, ho, h => by
    obtain rfl : i = N := by omega
    rw [iter_stop (hend A out)]
    simp [getN]
  | j + 1, n + 1, i, A, out, hi, hA, ho, h => by
    have hs := hstep A i out (by omega) hA (by omega)
    by_cases he : (one (b.drop A)).2.2 = 0
    · rw [if_neg (by simpa using he)] at hs
      have hu := hle (b.drop A)
      rw [List.length_drop] at hu
      rw [iter_go hs, get_list hstep hend hle j n (i + 1) (A + (one (b.drop A)).2.1) _ (by omega) (Nat.le_trans (Nat.add_le_add_left hu A) (by omega)) (by simp [ho]) (by omega)]
      simp only [getN, he, ne_eq, not_true_eq_false, if_false]
      rw [List.drop_drop]
      generalize getN one j (b.drop (A + (one (b.drop A)).2.1)) = y
      by_cases h2 : y.2.2 = 0
      · simp [h2, Int.add_assoc]
      · simp [h2]
    · rw [if_pos he] at hs
      rw [iter_stop hs]
      simp [getN, he]
theorem get_ints {n : Nat} {b : List UInt8} (hb : b.length < 1073741824) (hn : b.length < n) : wire_GetInts n b = some ((getL getI 1 b).1, ((getL getI 1 b).2.1 : Int), ((getL getI 1 b).2.2 : Int)) := by
  unfold wire_GetInts wire_get_int_46
  rw [get_len hb hn]
  simp only [obind, Option.bind_some]
  have ha := lenD_any (b := b) (least := 1) (by omega)
  unfold getL
  by_cases h0 : (lenD b 1).2.2 = 0
  · simp only [h0, ne_eq, Int.natCast_zero, not_true_eq_false, decide_false, cond_false, if_false]
    have h := get_list (one := getI) (b := b) (N := (lenD b 1).1) (step := wire_get_int_46_L1 n b (((lenD b 1).1 : Int), ((lenD b 1).2.1 : Int), 0)) (fun A i out hi hA ho => by
        unfold wire_get_int_46_L1
        simp only [show decide ((i : Int) < ((lenD b 1).1 : Int)) = true by simp; omega, cond_true, Int.toNat_natCast]
        rw [need_pos (by omega), get_int (by simp; omega) (by simp; omega)]
        simp only [obind, Option.bind_some, triI]
        have hu := (getI_any (b.drop A)).1
        rw [List.length_drop] at hu
        rw [need_pos (by simp; omega), w_suc (N := b.length) (by omega) (by omega), w64 (by omega) (by omega)]
        by_cases he : (getI (b.drop A)).2.2 = 0
        · simp [he]
        · simp [he]) (fun A out => by unfold wire_get_int_46_L1; simp) (fun b' => (getI_any b').1) (lenD b 1).1 n 0 (lenD b 1).2.1 [] (by omega) (by omega) rfl (by omega)
    have h' : iter (wire_get_int_46_L1 n b (((lenD b 1).1 : Int), ((lenD b 1).2.1 : Int), 0)) n (((lenD b 1).2.1 : Int), [], 0) = _ := h
    rw [h']
    by_cases h2 : (getN getI (lenD b 1).1 (b.drop (lenD b 1).2.1)).2.2 = 0
    · simp [h2]
    · simp [h2]
  · simp [h0]
theorem get_strings {n : Nat} {b : List UInt8} (hb : b.length < 1073741824) (hn : b.length < n) : wire_GetStrings n b = some ((getL getS 1 b).1, ((getL getS 1 b).2.1 : Int), ((getL getS 1 b).2.2 : Int)) := by
  unfold wire_GetStrings wire_get_string_44
  rw [get_len hb hn]
  simp only [obind, Option.bind_some]
  have ha := lenD_any (b := b) (least := 1) (by omega)
  unfold getL
  by_cases h0 : (lenD b 1).2.2 = 0
  · simp only [h0, ne_eq, Int.natCast_zero, not_true_eq_false, decide_false, cond_false, if_false]
    have h := get_list (one := getS) (b := b) (N := (lenD b 1).1) (step := wire_get_string_44_L1 n b (((lenD b 1).1 : Int), ((lenD b 1).2.1 : Int), 0)) (fun A i out hi hA ho => by
        unfold wire_get_string_44_L1
        simp only [show decide ((i : Int) < ((lenD b 1).1 : Int)) = true by simp; omega, cond_true, Int.toNat_natCast]
        rw [need_pos (by omega), get_bytes (by simp; omega) (by simp; omega)]
        simp only [obind, Option.bind_some]
        have hu := (getS_any (b.drop A)).1
        rw [List.length_drop] at hu
        rw [need_pos (by simp; omega), w_suc (N := b.length) (by omega) (by omega), w64 (by omega) (by omega)]
        by_cases he : (getS (b.drop A)).2.2 = 0
        · simp [he]
        · simp [he]) (fun A out => by unfold wire_get_string_44_L1; simp) (fun b' => (getS_any b').1) (lenD b 1).1 n 0 (lenD b 1).2.1 [] (by omega) (by omega) rfl (by omega)
    have h' : iter (wire_get_string_44_L1 n b (((lenD b 1).1 : Int), ((lenD b 1).2.1 : Int), 0)) n (((lenD b 1).2.1 : Int), [], 0) = _ := h
    rw [h']
    by_cases h2 : (getN getS (lenD b 1).1 (b.drop (lenD b 1).2.1)).2.2 = 0
    · simp [h2]
    · simp [h2]
  · simp [h0]
end Go.Proofs.Ytgjdaamkfpbgpaa
namespace Go.Proofs.Ytgjdaamkfpbgpaa
open Go.Abs
set_option linter.unusedVariables false
set_option linter.unusedSimpArgs false

theorem grow_ok {k : Nat} (h : k < 1073741824) : slices_Grow_byte_byte_48 (k : Int) = some [] := by
  unfold slices_Grow_byte_byte_48
  simp only [show decide ((k : Int) < 0) = false by simp, cond_false, Int.sub_zero]
  rw [w64 (by omega) (by omega)]
  by_cases h0 : 0 < k
  · simp only [show decide ((0 : Int) < (k : Int)) = true by simp; omega, cond_true]
    rw [need_pos (by omega), need_pos (by simp)]
    simp
  · simp only [show decide ((0 : Int) < (k : Int)) = false by simp; omega, cond_false, bindJ_go]
theorem concat_ok {n : Nat} {l : List (List UInt8)} (hn : l.length < n) (hl : l.length < 1073741824) (hs : (l.map List.length).sum < 1073741824) : slices_Concat_byte_byte_26 n l = some (l.flatMap id) := by
  unfold slices_Concat_byte_byte_26
  have h1 := iter_list (l := l) (step := slices_Concat_byte_byte_26_L1 l) (fun i => ((((l.take i).map List.length).sum : Nat), (i : Int))) (.go (((l.map List.length).sum : Nat) : Int)) (fun i hi => by
    unfold slices_Concat_byte_byte_26_L1
    have := sum_le hi
    simp only [show decide ((i : Int) < (l.length : Int)) = true by simp; omega, cond_true]
    rw [idx_get' hi, w64 (by omega) (by omega), show decide (((((l.take i).map List.length).sum : Nat) : Int) + (l[i].length : Int) < 0) = false by simp; omega]
    simp only [cond_false]
    rw [w_suc (N := l.length) (by omega) (by omega), sum_take hi]
    simp) (by unfold slices_Concat_byte_byte_26_L1; simp) n 0 (by omega) (by omega)
  have h1' : iter (slices_Concat_byte_byte_26_L1 l) n (0, 0) = some (.go (((l.map List.length).sum : Nat) : Int)) := h1
  rw [h1']
  simp only [bindJ_go, grow_ok hs, obind, Option.bind_some]
  have hfl : ∀ i, ((l.take i).flatMap id).length = ((l.take i).map List.length).sum := fun i => by simp [List.length_flatMap]
  have h2 := iter_list (l := l) (step := slices_Concat_byte_byte_26_L2 l) (fun i => ((l.take i).flatMap id, (i : Int))) (.go (l.flatMap id)) (fun i hi => by
    unfold slices_Concat_byte_byte_26_L2
    have := sum_le hi
    simp only [show decide ((i : Int) < (l.length : Int)) = true by simp; omega, cond_true]
    rw [idx_get' hi, need_pos (by rw [hfl]; omega), w_suc (N := l.length) (by omega) (by omega), flat_takeW id hi]
    rfl) (by unfold slices_Concat_byte_byte_26_L2; simp) n 0 (by omega) (by omega)
  have h2' : iter (slices_Concat_byte_byte_26_L2 l) n ([], 0) = some (.go (l.flatMap id)) := h2
  rw [h2']; rfl
def textsOf (m : S_api_Module) : List (List UInt8) := m.Name :: m.Code.map (·.S)
def numsOf (m : S_api_Module) : List Int := m.Code.flatMap fun x => [x.Op, x.A]
def encM (m : S_api_Module) : List UInt8 := encL encS (textsOf m) ++ encL encI m.Effects ++ encL encI (numsOf m)
theorem nums_len (l : List S_api_Instr) : (l.flatMap fun x => [x.Op, x.A]).length = 2 * l.length := by
  induction l with
  | nil => rfl
  | cons x r ih => simp [List.flatMap_cons, ih]; omega
theorem texts_take {l : List S_api_Instr} {i : Nat} (h : i < l.length) (a : List UInt8) : a :: (l.take (i + 1)).map (·.S) = (a :: (l.take i).map (·.S)) ++ [l[i].S] := by rw [List.take_succ_eq_append_getElem h, List.map_append]; rfl
theorem nums_take {l : List S_api_Instr} {i : Nat} (h : i < l.length) : (l.take (i + 1)).flatMap (fun x => [x.Op, x.A]) = (l.take i).flatMap (fun x => [x.Op, x.A]) ++ [l[i].Op, l[i].A] := by rw [List.take_succ_eq_append_getElem h, List.flatMap_append]; rfl
theorem encode_ok {n : Nat} {m : S_api_Module} (hn : 2 * m.Code.length + 10 < n) (hne : m.Effects.length < n) (hl : m.Code.length < 1000000) (hle : m.Effects.length < 1000000) (hT : ∀ v ∈ textsOf m, v.length < 1073741824)
    (hE : ∀ v ∈ m.Effects, -9223372036854775808 ≤ v ∧ v ≤ 9223372036854775807) (hN : ∀ v ∈ numsOf m, -9223372036854775808 ≤ v ∧ v ≤ 9223372036854775807)
    (h1 : ((textsOf m).flatMap encS).length < 200000000) (h2 : (m.Effects.flatMap encI).length < 200000000) (h3 : ((numsOf m).flatMap encI).length < 200000000) : compile_Encode n m = some (encM m) := by
  have hq := iter_list (l := m.Code) (step := compile_Encode_L1 m) (fun i => (m.Name :: (m.Code.take i).map (·.S), (m.Code.take i).flatMap (fun x => [x.Op, x.A]), (i : Int))) (.go (textsOf m, numsOf m)) (fun i hi => by
    unfold compile_Encode_L1
    simp only [show decide ((i : Int) < (m.Code.length : Int)) = true by simp; omega, cond_true]
    rw [idx_get' hi, need_pos (by simp; omega), need_pos (by rw [nums_len]; simp; omega), w_suc (N := m.Code.length) (by omega) (by omega), texts_take hi, nums_take hi]) (by unfold compile_Encode_L1; simp [textsOf, numsOf]) n 0 (by omega) (by omega)
  have hq' : iter (compile_Encode_L1 m) n ([m.Name], [], 0) = some (.go (textsOf m, numsOf m)) := hq
  have e1 : (textsOf m).length = m.Code.length + 1 := by simp [textsOf]
  have e2 : (numsOf m).length = 2 * m.Code.length := nums_len _
  have a1 := (encI_len (n := ((textsOf m).length : Int)) (by omega) (by omega)).2
  have a2 := (encI_len (n := (m.Effects.length : Int)) (by omega) (by omega)).2
  have a3 := (encI_len (n := ((numsOf m).length : Int)) (by omega) (by omega)).2
  unfold compile_Encode
  rw [hq']
  simp only [bindJ_go, obind]
  rw [strings_enc (by omega) (by omega) hT (by omega) (by omega)]
  simp only [Option.bind_some]
  rw [ints_enc (by omega) hne hE (by omega) (by omega)]
  simp only [Option.bind_some]
  rw [ints_enc (by omega) (by omega) hN (by omega) (by omega)]
  simp only [Option.bind_some]
  rw [concat_ok (by simp; omega) (by simp) (by simp only [encL, List.map_cons, List.map_nil, List.sum_cons, List.sum_nil, List.length_append]; omega)]
  simp [encM]
end Go.Proofs.Ytgjdaamkfpbgpaa
namespace Go.Proofs.Ytgjdaamkfpbgpaa
open Go.Abs
set_option linter.unusedVariables false
set_option linter.unusedSimpArgs false

def mkI : List (List UInt8) → List Int → List S_api_Instr
  | t :: ts, a :: b :: ns => ⟨a, b, t⟩ :: mkI ts ns
  | _, _ => []
theorem mkI_get : ∀ (ts : List (List UInt8)) (ns : List Int) (h : ns.length = 2 * ts.length) (i : Nat) (hi : i < ts.length), (mkI ts ns)[i]? = some ⟨ns[2 * i], ns[2 * i + 1], ts[i]⟩
  | t :: ts, a :: b :: ns, h, 0, hi => rfl
  | t :: ts, a :: b :: ns, h, i + 1, hi => by
    have := mkI_get ts ns (by simp at h; omega) i (by simpa using hi)
    simp only [mkI, List.getElem?_cons_succ, this]
    simp [Nat.mul_add]
  | t :: ts, [a], h, i, hi => by simp at h; omega
  | t :: ts, [], h, i, hi => by simp at h
theorem mkI_len : ∀ (ts : List (List UInt8)) (ns : List Int), ns.length = 2 * ts.length → (mkI ts ns).length = ts.length
  | [], ns, h => by cases ns <;> simp [mkI]
  | t :: ts, a :: b :: ns, h => by simp [mkI, mkI_len ts ns (by simp at h; omega)]
  | t :: ts, [a], h => by simp at h; omega
  | t :: ts, [], h => by simp at h
theorem mkI_of (l : List S_api_Instr) : mkI (l.map (·.S)) (l.flatMap fun x => [x.Op, x.A]) = l := by
  induction l with
  | nil => rfl
  | cons x r ih => simp only [List.map_cons, List.flatMap_cons, List.cons_append, List.nil_append, mkI, ih]
theorem mkI_S : ∀ (ts : List (List UInt8)) (ns : List Int), ns.length = 2 * ts.length → (mkI ts ns).map (·.S) = ts ∧ ((mkI ts ns).flatMap fun x => [x.Op, x.A]) = ns
  | [], [], h => by simp [mkI]
  | [], a :: ns, h => by simp at h
  | t :: ts, a :: b :: ns, h => by
    obtain ⟨h1, h2⟩ := mkI_S ts ns (by simp at h; omega)
    simp only [mkI, List.map_cons, List.flatMap_cons, h1, h2, List.cons_append, List.nil_append, and_self]
  | t :: ts, [a], h => by simp at h; omega
  | t :: ts, [], h => by simp at h
/-- the module that bytes are the code of, if any -/
def parts (b : List UInt8) : Option S_api_Module :=
  let t := getL getS 1 b
  if t.2.2 ≠ 0 then none else
  match t.1 with
  | [] => none
  | a :: ts =>
    let e := getL getI 1 (b.drop t.2.1)
    if e.2.2 ≠ 0 then none else
    let u := getL getI 1 (b.drop (t.2.1 + e.2.1))
    if u.2.2 ≠ 0 ∨ t.2.1 + e.2.1 + u.2.1 ≠ b.length ∨ u.1.length ≠ 2 * ts.length then none else some ⟨a, e.1, mkI ts u.1⟩
theorem parts_enc (m : S_api_Module) (hl : m.Code.length < 1000000) (hle : m.Effects.length < 1000000) (hT : ∀ v ∈ textsOf m, v.length < 1073741824)
    (hE : ∀ v ∈ m.Effects, -9223372036854775808 ≤ v ∧ v ≤ 9223372036854775807) (hN : ∀ v ∈ numsOf m, -9223372036854775808 ≤ v ∧ v ≤ 9223372036854775807) : parts (encM m) = some m := by
  have e1 : (textsOf m).length = m.Code.length + 1 := by simp [textsOf]
  have e2 : (numsOf m).length = 2 * m.Code.length := nums_len _
  have h1 := getLS_enc (textsOf m) (encL encI m.Effects ++ encL encI (numsOf m)) (by omega) (fun s hs => by have := hT s hs; omega)
  have h2 := getLI_enc m.Effects (encL encI (numsOf m)) (by omega) hE
  have h3 := getLI_enc (numsOf m) [] (by omega) hN
  rw [List.append_nil] at h3
  unfold parts
  have hm : encM m = encL encS (textsOf m) ++ (encL encI m.Effects ++ encL encI (numsOf m)) := by unfold encM; rw [List.append_assoc]
  have d1 : (encM m).drop (encL encS (textsOf m)).length = encL encI m.Effects ++ encL encI (numsOf m) := by rw [hm]; simp
  have d2 : (encM m).drop ((encL encS (textsOf m)).length + (encL encI m.Effects).length) = encL encI (numsOf m) := by rw [← List.drop_drop, d1]; simp
  rw [hm] at d1 d2 ⊢
  simp only [h1, d1, d2, h2, h3, ne_eq, not_true_eq_false, if_false]
  simp only [textsOf, List.length_map, false_or]
  rw [if_neg (by rw [e2]; simp [textsOf]; omega)]
  have := mkI_of m.Code
  unfold numsOf
  rw [this]
theorem parts_can {b : List UInt8} {m : S_api_Module} (h : parts b = some m) : encM m = b := by
  unfold parts at h
  simp only at h
  split at h
  · cases h
  · rename_i h1
    have c1 := getLS_can (b := b) (by simpa using h1)
    split at h
    · cases h
    · rename_i a ts ht
      split at h
      · cases h
      · rename_i h2
        have c2 := getLI_can (b := b.drop (getL getS 1 b).2.1) (by simpa using h2)
        split at h
        · cases h
        · rename_i h3
          simp only [not_or, Decidable.not_not, ne_eq] at h3
          have c3 := getLI_can (b := b.drop ((getL getS 1 b).2.1 + (getL getI 1 (b.drop (getL getS 1 b).2.1)).2.1)) h3.1
          obtain rfl := Option.some.inj h
          obtain ⟨k1, k2⟩ := mkI_S ts _ h3.2.2
          unfold encM textsOf numsOf
          simp only
          rw [k1, k2, ← ht, c1, c2, c3]
          generalize (getL getS 1 b).2.1 = p at *
          generalize (getL getI 1 (b.drop p)).2.1 = q at *
          generalize (getL getI 1 (b.drop (p + q))).2.1 = r at *
          rw [← List.take_add, ← List.take_add, h3.2.1, List.take_length]
end Go.Proofs.Ytgjdaamkfpbgpaa
namespace Go.Proofs.Ytgjdaamkfpbgpaa
open Go.Abs
set_option linter.unusedVariables false
set_option linter.unusedSimpArgs false

theorem decode_loop {n : Nat} {a : List UInt8} {ts : List (List UInt8)} {ns : List Int} {x y x' y' : Int} (h : ns.length = 2 * ts.length) (hn : ts.length < n) (hl : ts.length < 1000000) :
    iter (compile_Decode_L1 (a :: ts, x, y) (ns, x', y')) n (0, []) = some (.go (mkI ts ns)) := by
  have hk := mkI_len ts ns h
  have hq := iter_list (l := ts) (step := compile_Decode_L1 (a :: ts, x, y) (ns, x', y')) (fun i => ((i : Int), (mkI ts ns).take i)) (.go (mkI ts ns)) (fun i hi => by
    unfold compile_Decode_L1
    simp only [show (1 : Int).toNat = 1 from rfl, List.drop_succ_cons, List.drop_zero]
    simp only [show decide ((i : Int) < (ts.length : Int)) = true by simp; omega, cond_true]
    rw [idx_get' hi, w64 (x := 2 * (i : Int)) (by omega) (by omega), w64 (x := 2 * (i : Int) + 1) (by omega) (by omega)]
    rw [show (2 * (i : Int) + 1) = ((2 * i + 1 : Nat) : Int) by omega, show (2 * (i : Int)) = ((2 * i : Nat) : Int) by omega, idx_get' (by omega), idx_get' (by omega), need_pos (by simp; omega), w_suc (N := ts.length) (by omega) (by omega)]
    have hg := mkI_get ts ns h i hi
    have hlt : i < (mkI ts ns).length := by omega
    rw [List.getElem?_eq_getElem hlt] at hg
    rw [List.take_succ_eq_append_getElem hlt, Option.some.inj hg]) (by
    unfold compile_Decode_L1
    simp [← hk]) n 0 (by omega) (by omega)
  exact hq
theorem decode_ok {n : Nat} {b : List UInt8} (hb : b.length < 1000000) (hn : b.length < n) :
    compile_Decode n b = match parts b with | none => some (⟨[], [], []⟩, 11) | some m => obind (compile_Check n m) fun r => cond (decide (r ≠ 0)) (some (⟨[], [], []⟩, 11)) (some (m, 0)) := by
  unfold compile_Decode parts
  rw [get_strings (by omega) hn]
  simp only [obind, Option.bind_some]
  have a1 := getLS_any b
  generalize getL getS 1 b = t at *
  obtain ⟨tl, tu, te⟩ := t
  simp only at a1 ⊢
  by_cases h1 : te = 0
  · subst h1
    cases tl with
    | nil => simp
    | cons a ts =>
      simp only [List.length_cons] at a1
      simp only [Int.natCast_zero, ne_eq, not_true_eq_false, decide_false, Bool.false_or, List.length_cons, if_false]
      rw [show decide (((ts.length + 1 : Nat) : Int) = 0) = false by simp; omega]
      simp only [cond_false, Int.toNat_natCast]
      rw [need_pos (by omega), get_ints (by simp; omega) (by simp; omega)]
      simp only [Option.bind_some]
      have a2 := getLI_any (b.drop tu)
      rw [List.length_drop] at a2
      generalize getL getI 1 (b.drop tu) = e at *
      obtain ⟨el, eu, ee⟩ := e
      simp only at a2 ⊢
      by_cases h2 : ee = 0
      · subst h2
        simp only [Int.natCast_zero, not_true_eq_false, decide_false, cond_false, if_false]
        rw [w64 (x := (tu : Int) + (eu : Int)) (by omega) (by omega), need_pos (by omega), show ((tu : Int) + (eu : Int)).toNat = tu + eu by omega, get_ints (by simp; omega) (by simp; omega)]
        simp only [Option.bind_some]
        have a3 := getLI_any (b.drop (tu + eu))
        rw [List.length_drop] at a3
        generalize getL getI 1 (b.drop (tu + eu)) = u at *
        obtain ⟨ul, uu, ue⟩ := u
        simp only at a3 ⊢
        have w1 : IntKind.i64.wrap ((tu : Int) + (eu : Int) + (uu : Int)) = (tu : Int) + (eu : Int) + (uu : Int) := w64 (by omega) (by omega)
        have w2 : IntKind.i64.wrap (2 * ((ts.length + 1 : Nat) : Int)) = 2 * ((ts.length + 1 : Nat) : Int) := w64 (by omega) (by omega)
        have w3 : IntKind.i64.wrap (2 * ((ts.length + 1 : Nat) : Int) - 2) = 2 * ((ts.length + 1 : Nat) : Int) - 2 := w64 (by omega) (by omega)
        simp only [w1, w2, w3]
        by_cases h3 : ue = 0 ∧ tu + eu + uu = b.length ∧ ul.length = 2 * ts.length
        · obtain ⟨rfl, h4, h5⟩ := h3
          have c1 : (tu : Int) + (eu : Int) + (uu : Int) = (b.length : Int) := by omega
          have c2 : (ul.length : Int) = 2 * ((ts.length + 1 : Nat) : Int) - 2 := by omega
          rw [if_neg (by simp; exact ⟨h4, h5⟩)]
          simp only [c1, c2, Int.natCast_zero, not_true_eq_false, decide_false, Bool.or_self, cond_false]
          rw [idx_int (w := 0) (by omega) (by simp), need_pos (by omega), decode_loop h5 (by omega) (by omega)]
          rfl
        · rw [if_pos (by by_cases c1 : ue = 0 <;> by_cases c2 : tu + eu + uu = b.length <;> simp_all)]
          by_cases c1 : ue = 0
          · by_cases c2 : tu + eu + uu = b.length
            · have c3 : ¬ (ul.length : Int) = 2 * ((ts.length + 1 : Nat) : Int) - 2 := by omega
              simp only [c3, not_false_eq_true, decide_true, Bool.or_true, cond_true]
            · have c3 : ¬ ((tu : Int) + (eu : Int) + (uu : Int) = (b.length : Int)) := by omega
              simp only [c3, not_false_eq_true, decide_true, Bool.or_true, Bool.true_or, cond_true]
          · have c3 : ¬ ((ue : Int) = 0) := by omega
            simp only [c3, not_false_eq_true, decide_true, Bool.true_or, cond_true]
      · have c3 : ¬ ((ee : Int) = 0) := by omega
        rw [if_pos h2]
        simp only [c3, not_false_eq_true, decide_true, cond_true]
  · have c3 : ¬ ((te : Int) = 0) := by omega
    rw [if_pos h1]
    simp only [c3, ne_eq, not_false_eq_true, decide_true, Bool.true_or, cond_true]
end Go.Proofs.Ytgjdaamkfpbgpaa
namespace Go.Proofs.Ytgjdaamkfpbgpaa
open Go.Abs
set_option linter.unusedVariables false
set_option linter.unusedSimpArgs false

def Sm (k : Nat) (t : S_compile_types) : Prop := t.stack_.length ≤ k ∧ t.slots_.length ≤ k ∧ t.loops_.length ≤ k
theorem condX {α : Type} {p : α → Prop} {b : Bool} {x y : Option α} (h1 : b = true → ∃ r, x = some r ∧ p r) (h2 : b = false → ∃ r, y = some r ∧ p r) : ∃ r, cond b x y = some r ∧ p r := by cases b <;> simp_all
theorem cond_exC {α : Type} {b : Bool} {x y : Option α} (h1 : b = true → ∃ r, x = some r) (h2 : b = false → ∃ r, y = some r) : ∃ r, cond b x y = some r := by cases b <;> simp_all
theorem leafC (t : S_compile_types) (x : S_api_Instr) : ∃ r, weirgate_compile_types_leaf_66 t x = some r := by
  unfold weirgate_compile_types_leaf_66
  have key : ∀ s : Bool, ∃ r, (cond s (some (1 : Int)) (cond (((decide (x.Op = 2) || decide (x.Op = 6)) && decide (x.A = 0)) && decide ((x.S.length : Int) ≤ 200)) (some 2) (cond ((decide (x.Op = 4) || decide (x.Op = 5)) && (decide (x.A = 0) && decide (x.S = []))) (some 3)
      (cond (((decide (x.Op = 3) && decide (x.S = [])) && decide (0 ≤ x.A)) && decide (x.A < (t.slots_.length : Int))) (idx t.slots_ x.A fun x52 => some x52) (some 0))))) = some r := by
    intro s
    refine cond_exC (fun _ => ⟨_, rfl⟩) fun _ => cond_exC (fun _ => ⟨_, rfl⟩) fun _ => cond_exC (fun _ => ⟨_, rfl⟩) fun _ => cond_exC (fun h => ?_) fun _ => ⟨_, rfl⟩
    simp at h
    rw [idx_int h.1.2 (by omega)]
    exact ⟨_, rfl⟩
  cases (((decide (x.Op = 1) && decide (x.S = [])) && decide (0 ≤ x.A)) && decide (x.A < 1000000000000000000))
  · simp only [cond_false, bindJ_go]; exact key _
  · simp only [cond_true, bindJ_go]; exact key true
theorem pushC {k : Nat} {t : S_compile_types} (h : Sm k t) (hk : k < 1000000) (v : Int) : ∃ r, weirgate_compile_types_push_65 t v = some r ∧ Sm (k + 1) r.1 := by
  obtain ⟨h1, h2, h3⟩ := h
  unfold weirgate_compile_types_push_65 slices_Clone_int_int_57
  rw [need_pos (by simp; omega)]
  simp only [obind, Option.bind_some]
  rw [need_pos (by simp; omega)]
  exact ⟨_, rfl, by simp; omega, by simp; omega, by simp; omega⟩
theorem containsC (n : Nat) (l : List Int) (v : Int) (hn : l.length < n) (hl : l.length < 1000000) : ∃ r, slices_ContainsFunc_int_int_67 n l v = some r := by
  unfold slices_ContainsFunc_int_int_67 slices_IndexFunc_int_int_73
  obtain ⟨r, h1, _⟩ := iter_inv (step := slices_IndexFunc_int_int_73_L1 l v) (fun s => ∃ k : Nat, s = k) (fun s => l.length - s.toNat) (fun _ => True) (fun s ⟨k, hk⟩ => by
    subst hk
    unfold slices_IndexFunc_int_int_73_L1
    by_cases hc : k < l.length
    · simp only [show decide ((k : Int) < (l.length : Int)) = true by simp; omega, cond_true, weirgate_compile_types_operator_1_68, obind, Option.bind_some]
      rw [idx_get' hc, w64 (by omega) (by omega)]
      cases decide (l[k] ≠ v)
      · exact .inl ⟨_, rfl, ⟨k + 1, by omega⟩, by omega⟩
      · exact .inr ⟨_, rfl, trivial⟩
    · simp only [show decide ((k : Int) < (l.length : Int)) = false by simp; omega, cond_false]
      exact .inr ⟨_, rfl, trivial⟩) n 0 ⟨0, rfl⟩ (by simp; omega)
  rw [h1]
  cases r <;> exact ⟨_, rfl⟩
theorem popC {k : Nat} {t : S_compile_types} (h : Sm k t) (hk : k < 1000000) (v : Int) : ∃ r, weirgate_compile_types_pop_56 t v = some r ∧ Sm (k + 1) r.1 := by
  obtain ⟨h1, h2, h3⟩ := h
  unfold weirgate_compile_types_pop_56
  rw [w64 (by omega) (by omega)]
  by_cases h0 : t.stack_.length = 0
  · simp only [show decide ((t.stack_.length : Int) - 1 < 0) = true by simp; omega, cond_true, bindJ_go]
    exact ⟨_, rfl, by simp; omega, by simp; omega, by simp; omega⟩
  · simp only [show decide ((t.stack_.length : Int) - 1 < 0) = false by simp; omega, cond_false]
    rw [idx_int (by omega) (by omega)]
    simp only [bindJ_go]
    rw [need_pos (by omega)]
    exact condX (fun _ => ⟨_, rfl, by simp; omega, by simp; omega, by simp; omega⟩) fun _ => ⟨_, rfl, by simp; omega, by simp; omega, by simp; omega⟩
theorem equalC (n : Nat) (a b : List Int) (hn : a.length < n) (hl : a.length < 1000000) : ∃ r, slices_Equal_int_int_54 n a b = some r := by
  unfold slices_Equal_int_int_54
  refine cond_exC (fun _ => ⟨_, rfl⟩) fun hc => ?_
  have hab : a.length = b.length := by simp at hc; omega
  obtain ⟨r, h1, _⟩ := iter_inv (step := slices_Equal_int_int_54_L1 a b) (fun s => ∃ k : Nat, s = k) (fun s => a.length - s.toNat) (fun _ => True) (fun s ⟨k, hk⟩ => by
    subst hk
    unfold slices_Equal_int_int_54_L1
    by_cases hc : k < a.length
    · simp only [show decide ((k : Int) < (a.length : Int)) = true by simp; omega, cond_true]
      rw [idx_get' hc, idx_get' (by omega), w64 (by omega) (by omega)]
      cases decide (a[k] ≠ b[k]'(by omega))
      · exact .inl ⟨_, rfl, ⟨k + 1, by omega⟩, by omega⟩
      · exact .inr ⟨_, rfl, trivial⟩
    · simp only [show decide ((k : Int) < (a.length : Int)) = false by simp; omega, cond_false]
      exact .inr ⟨_, rfl, trivial⟩) n 0 ⟨0, rfl⟩ (by simp; omega)
  rw [h1]
  cases r <;> exact ⟨_, rfl⟩
theorem sameC {k : Nat} (n : Nat) {a : S_compile_types} (b : S_compile_types) (h : Sm k a) (hk : k < 1000000) (hn : k < n) : ∃ r, compile_same n a b = some r := by
  obtain ⟨h1, h2, h3⟩ := h
  unfold compile_same
  obtain ⟨r1, e1⟩ := equalC n a.loops_ b.loops_ (by omega) (by omega)
  obtain ⟨r2, e2⟩ := equalC n a.stack_ b.stack_ (by omega) (by omega)
  obtain ⟨r3, e3⟩ := equalC n a.slots_ b.slots_ (by omega) (by omega)
  simp only [e1, e2, e3, obind, Option.bind_some]
  cases r1 <;> cases r2 <;> exact ⟨_, rfl⟩
theorem bindJ_exC {S R : Type} {o : Option (Lp S R)} {f : S → Option R} (h : ∃ r, o = some r) (h2 : ∀ s, ∃ r, f s = some r) : ∃ r, bindJ o f = some r := by
  obtain ⟨r, rfl⟩ := h
  cases r with
  | go s => exact h2 s
  | stop r => exact ⟨r, rfl⟩
theorem valueC (op kind : Int) : ∃ r, compile_value op kind = some r := by
  unfold compile_value
  repeat' first | exact ⟨_, rfl⟩ | refine bindJ_exC ?_ fun _ => ?_ | refine cond_exC (fun _ => ?_) fun _ => ?_
theorem operatorC {k : Nat} (n : Nat) {t : S_compile_types} (h : Sm k t) (hk : k < 1000000) (hn : k < n) (x : S_api_Instr) (hx : -9223372036854775808 ≤ x.A ∧ x.A ≤ 9223372036854775807) : ∃ r, weirgate_compile_types_operator_55 n t x = some r ∧ Sm (k + 1) r.1 := by
  obtain ⟨h1, h2, h3⟩ := h
  unfold weirgate_compile_types_operator_55
  by_cases h7 : x.Op ≤ 7
  · obtain ⟨r, hr⟩ := leafC t x
    obtain ⟨q, hq, hs⟩ := pushC (k := k) (t := t) ⟨h1, h2, h3⟩ hk r
    simp only [h7, decide_true, cond_true, hr, hq, obind, Option.bind_some, bindJ_stop]
    exact ⟨_, rfl, hs⟩
  · have key : ∀ m : Int, m ≤ 9223372036854775807 → ∃ r, (cond ((((decide (m < 1) || (decide (x.Op = 23) && decide (m < 2))) || (decide (x.Op ≠ 23) && decide (x.A ≠ 0))) || (!decide (x.S = []))) || decide ((IntKind.i64.wrap ((t.stack_.length : Int) - m)) < 0)) (some (t, false))
      (idx t.stack_ (IntKind.i64.wrap ((t.stack_.length : Int) - m)) fun x47 =>
      need (0 ≤ (IntKind.i64.wrap ((t.stack_.length : Int) - m)) ∧ (IntKind.i64.wrap ((t.stack_.length : Int) - m)) ≤ (t.stack_.length : Int) ∧ (t.stack_.length : Int) ≤ (t.stack_.length : Int)) (
      obind (slices_ContainsFunc_int_int_67 n (t.stack_.drop (((IntKind.i64.wrap ((t.stack_.length : Int) - m))).toNat)) x47) fun r50 =>
      cond r50 (some (t, false))
      (need (0 ≤ (0 : Int) ∧ 0 ≤ (IntKind.i64.wrap ((t.stack_.length : Int) - m)) ∧ (IntKind.i64.wrap ((t.stack_.length : Int) - m)) ≤ (t.stack_.length : Int)) (
      obind (compile_value x.Op x47) fun r58 =>
      obind (weirgate_compile_types_push_65 (S_compile_types.mk (t.stack_.take (((IntKind.i64.wrap ((t.stack_.length : Int) - m))).toNat)) t.slots_ t.loops_) r58) fun r60 =>
      some (r60.1, r60.2)))))) = some r ∧ Sm (k + 1) r.1 := by
      intro m hb
      have hdone : Sm (k + 1) t := ⟨by omega, by omega, by omega⟩
      refine condX (fun _ => ⟨_, rfl, hdone⟩) fun hc => ?_
      by_cases hm : 1 ≤ m ∧ 0 ≤ IntKind.i64.wrap ((t.stack_.length : Int) - m)
      · have hle : IntKind.i64.wrap ((t.stack_.length : Int) - m) < (t.stack_.length : Int) := by
          rw [w64 (by omega) (by omega)]; omega
        generalize IntKind.i64.wrap ((t.stack_.length : Int) - m) = w at *
        rw [idx_int (by omega) (by omega), need_pos (by omega)]
        obtain ⟨c, hcc⟩ := containsC n (t.stack_.drop w.toNat) t.stack_[w.toNat] (by simp; omega) (by simp; omega)
        simp only [hcc, obind, Option.bind_some]
        refine condX (fun _ => ⟨_, rfl, hdone⟩) fun _ => ?_
        rw [need_pos (by omega)]
        obtain ⟨v, hv⟩ := valueC x.Op t.stack_[w.toNat]
        obtain ⟨q, hq, hs⟩ := pushC (k := k) (t := ⟨t.stack_.take w.toNat, t.slots_, t.loops_⟩) ⟨by simp; omega, h2, h3⟩ hk v
        simp only [hv, hq, Option.bind_some]
        exact ⟨_, rfl, hs⟩
      · exfalso; simp at hc; omega
    have hj : ∀ (o : Option (Lp Int (S_compile_types × Bool))) (f : Int → Option (S_compile_types × Bool)), (∃ b, o = some (.go b) ∧ b ≤ 9223372036854775807) → (∀ b, b ≤ 9223372036854775807 → ∃ r, f b = some r ∧ Sm (k + 1) r.1) → ∃ r, bindJ o f = some r ∧ Sm (k + 1) r.1 := by
      rintro _ f ⟨b, rfl, hb⟩ hf; exact hf b hb
    refine hj _ _ ?_ key
    simp only [h7, decide_false, cond_false]
    cases (decide (x.Op = 8) || decide (x.Op = 9))
    · cases decide (x.Op = 23)
      · exact ⟨_, rfl, by omega⟩
      · exact ⟨_, rfl, hx.2⟩
    · exact ⟨_, rfl, by omega⟩
theorem afterC {k : Nat} (n : Nat) {t : S_compile_types} (h : Sm k t) (hk : k < 1000000) (hn : k < n) (x : S_api_Instr) (hx : -9223372036854775808 ≤ x.A ∧ x.A ≤ 9223372036854775807) (at' : Int) : ∃ r, weirgate_compile_types_after_32 n t x at' = some r ∧ Sm (k + 1) r.1 := by
  have hdone : Sm (k + 1) t := ⟨by have := h.1; omega, by have := h.2.1; omega, by have := h.2.2; omega⟩
  unfold weirgate_compile_types_after_32
  refine condX (fun _ => ?_) fun _ => condX (fun _ => ⟨_, rfl, hdone⟩) fun _ => condX (fun _ => ⟨_, rfl, hdone⟩) fun _ => condX (fun _ => ⟨_, rfl, hdone⟩) fun _ => condX (fun _ => ?_) fun _ => condX (fun _ => ?_) fun _ => ?_
  · obtain ⟨r, hr, hs⟩ := operatorC n h hk hn x hx
    rw [hr]; exact ⟨_, rfl, hs⟩
  · obtain ⟨r, hr, hs⟩ := popC h hk 3
    rw [hr]; exact ⟨_, rfl, hs⟩
  · obtain ⟨r, hr, hs⟩ := popC h hk 1
    rw [hr]; exact ⟨_, rfl, hs⟩
  · have hb : ∀ (o : Option (Lp Bool (S_compile_types × Bool))) (f : Bool → Option (S_compile_types × Bool)), (∃ b, o = some (.go b)) → (∀ b, ∃ r, f b = some r ∧ Sm (k + 1) r.1) → ∃ r, bindJ o f = some r ∧ Sm (k + 1) r.1 := by
      rintro _ f ⟨b, rfl⟩ hf; exact hf b
    refine hb _ _ ?_ fun s => ?_
    · cases decide (x.Op = 32) <;> cases decide (x.Op = 34) <;> cases decide (x.Op = 35) <;> exact ⟨_, rfl⟩
    refine condX (fun _ => ?_) fun _ => condX (fun _ => ?_) fun _ => condX (fun _ => ⟨_, rfl, hdone⟩) fun _ => condX (fun _ => condX (fun _ => ⟨_, rfl, hdone⟩) fun hc => ?_) fun _ => condX (fun _ => condX (fun _ => ⟨_, rfl, hdone⟩) fun hc => ?_) fun _ => ⟨_, rfl, hdone⟩
    · obtain ⟨r, hr, hs⟩ := popC h hk 2
      rw [hr]; exact ⟨_, rfl, hs⟩
    · obtain ⟨h1, h2, h3⟩ := h
      unfold slices_Clone_int_int_57
      rw [need_pos (by simp; omega)]
      simp only [obind, Option.bind_some]
      rw [need_pos (by simp; omega)]
      exact ⟨_, rfl, by simp; omega, by simp; omega, by simp; omega⟩
    · obtain ⟨h1, h2, h3⟩ := h
      simp at hc
      rw [need_pos (by omega)]
      exact ⟨_, rfl, by simp; omega, by simp; omega, by simp; omega⟩
    · obtain ⟨h1, h2, h3⟩ := h
      rw [w64 (by omega) (by omega)] at hc ⊢
      simp at hc
      rw [idx_int (by omega) (by omega), need_pos (by omega)]
      unfold slices_Clone_int_int_57
      rw [need_pos (by simp; omega)]
      simp only [obind, Option.bind_some]
      by_cases he : x.A = (t.slots_.length : Int)
      · simp only [he, decide_true, cond_true]
        rw [need_pos (by simp; omega)]
        simp only [bindJ_go]
        rw [idx_int (by omega) (by simp)]
        exact ⟨_, rfl, by simp; omega, by simp; omega, by simp; omega⟩
      · simp only [he, decide_false, cond_false, bindJ_go]
        rw [idx_int (by omega) (by omega)]
        exact ⟨_, rfl, by simp; omega, by simp; omega, by simp; omega⟩
theorem mget_put {V : Type} (l : List (Int × V)) (k : Int) (v : V) (k' : Int) : mget (mput l k v) k' = if k' = k then some v else mget l k' := by
  induction l with
  | nil => simp only [mput, mget]; by_cases h : k = k' <;> simp [h, eq_comm]
  | cons p r ih =>
    simp only [mput]
    by_cases h : p.1 = k
    · simp only [h, if_true, mget]
      by_cases e : k = k'
      · simp [e]
      · rw [if_neg e, if_neg e, if_neg (fun q => e q.symm)]
    · simp only [h, if_false, mget, ih]
      by_cases e : p.1 = k'
      · simp only [e, if_true]; rw [if_neg (fun q => h (e.trans q))]
      · simp only [e, if_false]
def AllSm (k : Nat) (l : List (Int × S_compile_types)) : Prop := ∀ (i : Int) (t : S_compile_types), mget l i = some t → Sm k t
theorem AllSm.put {k : Nat} {l : List (Int × S_compile_types)} (h : AllSm k l) (i : Int) {t : S_compile_types} (ht : Sm k t) : AllSm k (mput l i t) := by
  intro j u hu
  rw [mget_put] at hu
  split at hu
  · cases hu; exact ht
  · exact h j u hu
theorem Sm.mono {j k : Nat} {t : S_compile_types} (h : Sm j t) (hk : j ≤ k) : Sm k t := ⟨by have := h.1; omega, by have := h.2.1; omega, by have := h.2.2; omega⟩
theorem AllSm.mono {j k : Nat} {l : List (Int × S_compile_types)} (h : AllSm j l) (hk : j ≤ k) : AllSm k l := fun i t ht => (h i t ht).mono hk
theorem meetC {k : Nat} (n : Nat) (at' : Int) {t : S_compile_types} {l : List (Int × S_compile_types)} (h : Sm k t) (hl : AllSm k l) (hk : k < 1000000) (hn : k < n) : ∃ r, compile_Check_1_30 n at' t l = some r ∧ AllSm k r.2 := by
  unfold compile_Check_1_30
  refine condX (fun _ => ?_) fun _ => ⟨_, rfl, hl.put at' h⟩
  obtain ⟨r, hr⟩ := sameC n (S_compile_types.mk (((mget l at').getD (S_compile_types.mk [] [] [])).stack_) (((mget l at').getD (S_compile_types.mk [] [] [])).slots_) (((mget l at').getD (S_compile_types.mk [] [] [])).loops_)) h hk hn
  rw [hr]; exact ⟨_, rfl, hl⟩
def Jx (k : Nat) (o : Option (Lp (List (Int × S_compile_types)) (Lp (Int × (List (Int × S_compile_types))) (Lp (List (Int × S_compile_types)) Int)))) : Prop := o = some (.stop (.stop (.stop 280))) ∨ ∃ q, o = some (.go q) ∧ AllSm k q
def Jl {R : Type} (k : Nat) (u : S_compile_types) (o : Option (Lp (List Int) R)) : Prop := ∃ w, o = some (.go w) ∧ w.length ≤ k
theorem turnC {n : Nat} {t : S_compile_types} {x : S_api_Instr} {a : Int} {r : S_compile_types × Bool} (h : weirgate_compile_types_after_32 n t x a = some r) (hx : x.Op = 40) (hr : r.2 = true) : 0 < r.1.loops_.length := by
  unfold weirgate_compile_types_after_32 at h
  simp only [hx] at h
  revert h
  generalize (decide ((40 : Int) ≠ 32) && (!decide (x.S = [])) || decide (200 < (x.S.length : Int))) = b
  cases b <;> simp <;> rintro rfl <;> simp_all
theorem checkC (n : Nat) (m : S_api_Module) (hn : m.Code.length + 1 < n) (hl : m.Code.length < 100000) (hA : ∀ x ∈ m.Code, -9223372036854775808 ≤ x.A ∧ x.A ≤ 9223372036854775807) : ∃ r, iter (compile_Check_L1 n m) n (0, (mput ([] : (List (Int × S_compile_types))) (0 : Int) (S_compile_types.mk [] [] []))) = some r ∧ (∀ q, r = .stop q → q = 280) := by
  refine iter_inv (step := compile_Check_L1 n m) (fun s => ∃ k : Nat, s.1 = k ∧ AllSm k s.2) (fun s => m.Code.length - s.1.toNat) (fun r => ∀ q, r = .stop q → q = 280) (fun ⟨i, l⟩ ⟨k, hk, hs⟩ => ?_) n (0, mput [] 0 (S_compile_types.mk [] [] [])) ⟨0, rfl, AllSm.put (fun i t h => by simp [mget] at h) 0 ⟨by simp, by simp, by simp⟩⟩ (by simp; omega)
  simp only at hk hs
  subst hk
  unfold compile_Check_L1
  by_cases hc : k < m.Code.length
  · simp only [show decide ((k : Int) < (m.Code.length : Int)) = true by simp; omega, cond_true]
    have hx := hA m.Code[k] (List.getElem_mem _)
    rw [idx_get' hc]
    generalize m.Code[k] = x at hx
    have hbad : ∀ {p : Prop}, p ∨ ∃ r, (some (.stop (.stop 280)) : Option (Lp (Int × (List (Int × S_compile_types))) (Lp ((List (Int × S_compile_types))) (Int)))) = some (.stop r) ∧ ∀ q, r = .stop q → q = 280 := fun {p} => .inr ⟨_, rfl, fun q h => by cases h; rfl⟩
    cases hg : mget l (k : Int) with
    | none => simp only [Option.isSome_none, Bool.not_false, cond_true]; exact hbad
    | some t =>
      have ht := hs _ _ hg
      simp only [Option.isSome_some, Bool.not_true, cond_false, Option.getD_some]
      obtain ⟨r, hr, hrs⟩ := afterC (k := k) n (t := ⟨t.stack_, t.slots_, t.loops_⟩) ht (by omega) (by omega) x hx k
      simp only [hr, obind, Option.bind_some]
      obtain ⟨u, ub⟩ := r
      simp only at hrs ⊢
      cases hub : ub
      · simp only [Bool.not_false, cond_true]; exact hbad
      · simp only [Bool.not_true, cond_false]
        have hm1 : AllSm (k + 1) l := hs.mono (by omega)
        have hJ : ∀ o, Jx (k + 1) o → (∃ s', bindJ o (fun x_48 => bindJ (S := Bool × (List (Int × S_compile_types)))
            (cond (decide (x.Op ≠ 37)) (obind (compile_Check_1_30 n (IntKind.i64.wrap ((k : Int) + 1)) u x_48) fun r106 => some (.go ((!r106.1), r106.2))) (some (.go (false, x_48))))
            (fun (b99, y102) => cond b99 (some (.stop (.stop 280))) (some (.go ((IntKind.i64.wrap ((k : Int) + 1)), y102))))) = some (.go s') ∧ (∃ j : Nat, s'.1 = j ∧ AllSm j s'.2) ∧ m.Code.length - s'.1.toNat < m.Code.length - ((k : Int)).toNat) ∨
            ∃ r, bindJ o (fun x_48 => bindJ (S := Bool × (List (Int × S_compile_types)))
            (cond (decide (x.Op ≠ 37)) (obind (compile_Check_1_30 n (IntKind.i64.wrap ((k : Int) + 1)) u x_48) fun r106 => some (.go ((!r106.1), r106.2))) (some (.go (false, x_48))))
            (fun (b99, y102) => cond b99 (some (.stop (.stop 280))) (some (.go ((IntKind.i64.wrap ((k : Int) + 1)), y102))))) = some (.stop r) ∧ ∀ q, r = .stop q → q = 280 := by
          rintro o (rfl | ⟨q, rfl, hq⟩)
          · exact hbad
          · simp only [bindJ_go]
            rw [w64 (by omega) (by omega)]
            cases decide (x.Op ≠ 37)
            · simp only [cond_false, bindJ_go]
              exact .inl ⟨_, rfl, ⟨k + 1, rfl, hq⟩, by simp; omega⟩
            · obtain ⟨r2, hr2, hs2⟩ := meetC (k := k + 1) n ((k : Int) + 1) hrs hq (by omega) (by omega)
              simp only [cond_true, hr2, obind, Option.bind_some, bindJ_go]
              cases r2.1
              · exact hbad
              · exact .inl ⟨_, rfl, ⟨k + 1, rfl, hs2⟩, by simp; omega⟩
        refine hJ _ ?_
        cases decide (x.Op = 37) || decide (x.Op = 38) || decide (x.Op = 40)
        · exact .inr ⟨l, rfl, hm1⟩
        · simp only [cond_true]
          have hB : ∃ b : Bool, (cond (decide (x.A < 0) || decide ((m.Code.length : Int) < x.A)) (some (.go true)) (bindJ (S := Bool) (cond (decide (x.A ≤ (k : Int))) (bindJ (S := Bool) (cond (decide (x.Op ≠ 37)) (some (.go true)) (idx m.Code x.A fun x81 => some (.go (decide (x81.Op ≠ 40))))) (fun b75 => some (.go b75))) (some (.go false))) (fun b69 => some (.go b69))) : Option (Lp Bool (Lp (List (Int × S_compile_types)) (Lp (Int × (List (Int × S_compile_types))) (Lp (List (Int × S_compile_types)) Int))))) = some (.go b) := by
            by_cases h1 : x.A < 0 ∨ (m.Code.length : Int) < x.A
            · rw [show (decide (x.A < 0) || decide ((m.Code.length : Int) < x.A)) = true by simpa using h1]; exact ⟨_, rfl⟩
            · rw [show (decide (x.A < 0) || decide ((m.Code.length : Int) < x.A)) = false by simp; omega]
              by_cases h2 : x.A ≤ (k : Int)
              · simp only [h2, decide_true, cond_true, cond_false]
                rw [idx_int (by omega) (by omega)]
                cases decide (x.Op ≠ 37) <;> exact ⟨_, rfl⟩
              · simp only [h2, decide_false, cond_false]; exact ⟨_, rfl⟩
          obtain ⟨b, hb⟩ := hB
          rw [hb]
          cases b
          · simp only [bindJ_go, cond_false]
            have hL : Jl (R := Lp (List (Int × S_compile_types)) (Lp (Int × (List (Int × S_compile_types))) (Lp (List (Int × S_compile_types)) Int))) (k + 1) u (cond (decide (x.Op = 40)) (need (0 ≤ (0 : Int) ∧ 0 ≤ (IntKind.i64.wrap ((u.loops_.length : Int) - 1)) ∧ (IntKind.i64.wrap ((u.loops_.length : Int) - 1)) ≤ (u.loops_.length : Int)) (some (.go (u.loops_.take (((IntKind.i64.wrap ((u.loops_.length : Int) - 1))).toNat))))) (some (.go u.loops_))) := by
              by_cases h4 : x.Op = 40
              · have := turnC hr h4 hub
                simp only at this
                rw [w64 (by omega) (by have := hrs.2.2; omega)]
                simp only [h4, decide_true, cond_true]
                rw [need_pos (by omega)]
                exact ⟨_, rfl, by have := hrs.2.2; simp; omega⟩
              · simp only [h4, decide_false, cond_false]
                exact ⟨_, rfl, hrs.2.2⟩
            obtain ⟨w, hw, hwl⟩ := hL
            rw [hw]
            simp only [bindJ_go]
            obtain ⟨r3, hr3, hs3⟩ := meetC (k := k + 1) n x.A (t := ⟨u.stack_, u.slots_, w⟩) (l := l) ⟨hrs.1, hrs.2.1, hwl⟩ hm1 (by omega) (by omega)
            simp only [hr3, Option.bind_some]
            cases r3.1
            · exact .inl rfl
            · exact .inr ⟨_, rfl, hs3⟩
          · exact .inl rfl
  · simp only [show decide ((k : Int) < (m.Code.length : Int)) = false by simp; omega, cond_false]
    exact .inr ⟨_, rfl, fun q h => by cases h⟩
end Go.Proofs.Ytgjdaamkfpbgpaa
namespace Go.Proofs.Ytgjdaamkfpbgpaa
open Go.Abs
set_option linter.unusedVariables false
set_option linter.unusedSimpArgs false

def R64 (x : Int) : Prop := -9223372036854775808 ≤ x ∧ x ≤ 9223372036854775807
theorem trightC (n : Nat) (l : List Int) (hn : l.length < n) (hl : l.length < 1000000) : ∃ b, typing_Right n (S_api_Program.mk [] l []) = some b := by
  unfold typing_Right
  obtain ⟨r, h1, _⟩ := iter_inv (step := typing_Right_L1 (S_api_Program.mk [] l [])) (fun s => ∃ k : Nat, s = k) (fun s => l.length - s.toNat) (fun _ => True) (fun s ⟨k, hk⟩ => by
    subst hk
    unfold typing_Right_L1
    by_cases hc : k < l.length
    · simp only [show decide ((k : Int) < (l.length : Int)) = true by simp; omega, cond_true]
      rw [idx_get' hc, w64 (x := (k : Int) + 1) (by omega) (by omega)]
      have hq : ∃ b : Bool, (cond (decide (l[k] < 1) || decide (6 < l[k])) (some (.go true)) (bindJ (S := Bool) (cond (decide (0 < (k : Int))) (idx l (IntKind.i64.wrap ((k : Int) - 1)) fun x28 => some (.go (decide (l[k] ≤ x28)))) (some (.go false))) (fun b22 => some (.go b22))) : Option (Lp Bool (Lp Int (Lp Unit Bool)))) = some (.go b) := by
        cases (decide (l[k] < 1) || decide (6 < l[k]))
        · by_cases h0 : 0 < k
          · rw [w64 (by omega) (by omega), idx_int (by omega) (by omega)]
            cases decide (0 < (k : Int)) <;> exact ⟨_, rfl⟩
          · rw [show decide (0 < (k : Int)) = false by simp; omega]; exact ⟨_, rfl⟩
        · exact ⟨_, rfl⟩
      obtain ⟨b, hb⟩ := hq
      rw [hb]
      cases b
      · exact .inl ⟨_, rfl, ⟨k + 1, rfl⟩, by simp; omega⟩
      · exact .inr ⟨_, rfl, trivial⟩
    · simp only [show decide ((k : Int) < (l.length : Int)) = false by simp; omega, cond_false]
      exact .inr ⟨_, rfl, trivial⟩) n 0 ⟨0, rfl⟩ (by simp; omega)
  rw [h1]
  cases r <;> exact ⟨_, rfl⟩
theorem checkE (n : Nat) (m : S_api_Module) (hn : m.Code.length + 1 < n) (hl : m.Code.length < 100000) (hA : ∀ x ∈ m.Code, R64 x.A) (hne : m.Effects.length < n) (hle : m.Effects.length < 1000000) : ∃ r, compile_Check n m = some r ∧ (r = 0 ∨ r = 280) := by
  unfold compile_Check
  obtain ⟨b, hb⟩ := trightC n m.Effects hne hle
  obtain ⟨r, hr, hq⟩ := checkC n m hn hl hA
  have key : ∀ (o : Option (Lp Bool Int)) (f : Bool → Option Int), (∃ b, o = some (.go b)) → (∀ b, ∃ r, f b = some r ∧ (r = 0 ∨ r = 280)) → ∃ r, bindJ o f = some r ∧ (r = 0 ∨ r = 280) := by
    rintro _ f ⟨b, rfl⟩ hf; exact hf b
  refine key _ _ ?_ fun b => ?_
  · cases (decide (65536 < (m.Code.length : Int)) || decide (200 < (m.Name.length : Int)))
    · simp only [cond_false, hb, obind, Option.bind_some]; exact ⟨_, rfl⟩
    · exact ⟨_, rfl⟩
  · cases b
    · simp only [cond_false, hr]
      cases r with
      | stop q => exact ⟨q, rfl, .inr (hq q rfl)⟩
      | go x =>
        simp only [bindJ_go]
        exact condX (fun _ => ⟨_, rfl, .inr rfl⟩) fun _ => ⟨_, rfl, .inl rfl⟩
    · exact ⟨_, rfl, .inr rfl⟩
theorem getL_rng (b : List UInt8) : ∀ x ∈ (getL getI 1 b).1, R64 x := by
  unfold getL
  simp only
  split
  · intro x h; cases h
  · split
    · intro x h; cases h
    · exact getN_all (p := R64) (N := b.length) (fun c hc => ⟨(getI_any c).2.2.1, (getI_any c).2.2.2⟩) _ _ (by simp)
theorem mkI_rng : ∀ (ts : List (List UInt8)) (ns : List Int), ns.length = 2 * ts.length → (∀ x ∈ ns, R64 x) → ∀ x ∈ mkI ts ns, R64 x.Op ∧ R64 x.A := by
  intro ts ns h hn x hx
  have h2 := (mkI_S ts ns h).2
  constructor
  · exact hn _ (by rw [← h2]; exact List.mem_flatMap.2 ⟨x, hx, by simp⟩)
  · exact hn _ (by rw [← h2]; exact List.mem_flatMap.2 ⟨x, hx, by simp⟩)
theorem parts_rng {b : List UInt8} {m : S_api_Module} (h : parts b = some m) : (∀ x ∈ m.Code, R64 x.Op ∧ R64 x.A) ∧ ∀ x ∈ m.Effects, R64 x := by
  unfold parts at h
  simp only at h
  split at h
  · cases h
  · split at h
    · cases h
    · split at h
      · cases h
      · split at h
        · cases h
        · rename_i h3
          simp only [not_or, Decidable.not_not, ne_eq] at h3
          obtain rfl := Option.some.inj h
          exact ⟨mkI_rng _ _ h3.2.2 (getL_rng _), getL_rng _⟩
theorem flat_cnt {α : Type} {one : α → List UInt8} (h : ∀ x, 1 ≤ (one x).length) : ∀ l : List α, l.length ≤ (l.flatMap one).length
  | [] => by simp
  | x :: l => by have := flat_cnt h l; have := h x; simp only [List.flatMap_cons, List.length_append, List.length_cons]; omega
theorem flat_max {α : Type} {one : α → List UInt8} {k : Nat} : ∀ l : List α, (∀ x ∈ l, (one x).length ≤ k) → (l.flatMap one).length ≤ k * l.length
  | [], _ => by simp
  | x :: l, h => by
    have := flat_max l (fun y hy => h y (.tail _ hy)); have := h x (.head _)
    simp only [List.flatMap_cons, List.length_append, List.length_cons, Nat.mul_succ]; omega
theorem encS_pos (s : List UInt8) : 1 ≤ (encS s).length := by unfold encS; have := encU_pos (zig s.length); simp only [List.length_append]; unfold encI; omega
theorem encI_pos (x : Int) : 1 ≤ (encI x).length := encU_pos _
theorem encM_len (m : S_api_Module) : m.Code.length ≤ (encM m).length ∧ m.Effects.length ≤ (encM m).length ∧ ((textsOf m).flatMap encS).length ≤ (encM m).length ∧ (m.Effects.flatMap encI).length ≤ (encM m).length ∧ ((numsOf m).flatMap encI).length ≤ (encM m).length := by
  have h1 := flat_cnt encS_pos (textsOf m)
  have h2 := flat_cnt encI_pos m.Effects
  have h3 : (textsOf m).length = m.Code.length + 1 := by simp [textsOf]
  unfold encM encL
  simp only [List.length_append]
  omega
theorem encS_le {s : List UInt8} (h : s.length ≤ 1073741824) : (encS s).length ≤ s.length + 10 := by
  unfold encS; have := (encI_len (n := (s.length : Int)) (by omega) (by omega)).2; simp only [List.length_append]; omega
end Go.Proofs.Ytgjdaamkfpbgpaa
namespace Go.Proofs.Ytgjdaamkfpbgpaa
open Go.Abs
set_option linter.unusedVariables false
set_option linter.unusedSimpArgs false
set_option maxRecDepth 20000
set_option maxHeartbeats 4000000

def ref28_Few_L1 (m_0 : S_api_Module) (most_1 : Int) : (Int) → Option (Lp (Int) (Lp (Unit) (Bool))) :=
 fun i_6 =>
  cond (decide (i_6 < (m_0.Code.length : Int)) && decide (i_6 ≤ most_1))
   (idx m_0.Code i_6 fun x15 =>
   cond (decide (300 < (x15.S.length : Int)))
    (some (.stop (.stop false)))
    (some (.go (IntKind.i64.wrap (i_6 + 1)))))
   (some (.stop (.go ())))
def ref28_Few (n : Nat) (m_0 : S_api_Module) (most_1 : Int) : Option (Bool) :=
 bindJ (S := Unit)
  (iter (ref28_Few_L1 m_0 most_1) n 0)
 (fun _ =>
  some ((decide ((m_0.Code.length : Int) ≤ most_1) && decide ((m_0.Name.length : Int) ≤ 300)) && decide ((m_0.Effects.length : Int) ≤ 20)))
theorem ref28_Few_ok (n : Nat) (m_0 : S_api_Module) (most_1 : Int) (m_0_Effectsv : Value) (m_0_Codev : Value) {r : Bool} (h : ref28_Few n m_0 most_1 = some r) :
  Meets Try.prog 15 [.agg #[.string (bs m_0.Name), m_0_Effectsv, m_0_Codev], .int .i64 most_1] [ro m_0_Effectsv 1 (m_0.Effects.map (eInt .i64)), ro m_0_Codev 3 (m_0.Code.map S_api_Instr.enc)] (fun v G => v = .bool r ∧ G = []) := by
 refine fn_of_run Try.func15 rfl Try.ntmps15 rfl (fun w0 o0 => ?_)
 refine run_seq ?_
 refine run_region' ?_
 refine ot rfl rfl (t_box rfl) ?_
 rintro _ _ ⟨b1, rfl, rfl⟩
 refine oy rfl rfl (y_assign rfl) ?_
 refine ops_nil ?_
 refine goes_code ?_
 obtain ⟨o2, h, ho3⟩ := bindJ_some h
 refine run_cut ((Unit) × (Unit)) (fun σ => [(1, .int .i64 most_1), (2, boxP b1 0)]) (fun σ => [box b1 [.string (bs m_0.Name), m_0_Effectsv, m_0_Codev], ro m_0_Effectsv 1 (m_0.Effects.map (eInt .i64)), ro m_0_Codev 3 (m_0.Code.map S_api_Instr.enc)]) (fun σ => o2 = .go σ.1) (fun L5 hL4 => ?_) ?_
 ·
  refine run_seq ?_
  refine run_region' ?_
  refine oy rfl rfl (y_assign rfl) ?_
  refine ops_nil ?_
  refine goes_code ?_
  refine run_block ?_
  refine run_iter (step := ref28_Few_L1 m_0 most_1) (n := n) (s0 := 0) h (G := Unit) () (fun σ γ => [(5, .int .i64 σ), (1, .int .i64 most_1), (2, boxP b1 0)]) (fun σ γ => [box b1 [.string (bs m_0.Name), m_0_Effectsv, m_0_Codev], ro m_0_Effectsv 1 (m_0.Effects.map (eInt .i64)), ro m_0_Codev 3 (m_0.Code.map S_api_Instr.enc)]) [2, 0, 1] (qv3 rfl rfl rfl) (by decide) rfl ?_
  rintro i_6 _ o7 h L10 hgo8 hstop9
  change Run _ _ _ (VF.of [(5, .int .i64 i_6), (1, .int .i64 most_1), (2, boxP b1 0)]) [box b1 [.string (bs m_0.Name), m_0_Effectsv, m_0_Codev], ro m_0_Effectsv 1 (m_0.Effects.map (eInt .i64)), ro m_0_Codev 3 (m_0.Code.map S_api_Instr.enc)]
  refine run_seq ?_
  refine run_seq ?_
  refine run_region' ?_
  refine oy rfl rfl (y_move rfl) ?_
  refine oy rfl rfl (y_fieldAddr_box (sz := 0) Try.runUnderlying31 rfl Try.sizeOf29 rfl) ?_
  refine oy rfl rfl (y_load_box 0 Try.isAgg29 rfl rfl rfl) ?_
  refine oy rfl rfl ((y_len 2 rfl Try.runUnderlying29 rfl rfl reads_ro).to (v_len S_api_Instr.enc _)) ?_
  refine oy rfl rfl (y_lss rfl rfl) ?_
  refine oy rfl rfl (y_move rfl) ?_
  refine ops_cut 4 (Bool) (fun σ => [(5, .int .i64 i_6), (1, .int .i64 most_1), (2, boxP b1 0), (15, .bool σ)]) (fun σ => [box b1 [.string (bs m_0.Name), m_0_Effectsv, m_0_Codev], ro m_0_Effectsv 1 (m_0.Effects.map (eInt .i64)), ro m_0_Codev 3 (m_0.Code.map S_api_Instr.enc)]) (fun σ => σ = (decide (i_6 < (m_0.Code.length : Int)) && decide (i_6 ≤ most_1))) (fun L11 hL12 => ?_) ?_
  ·refine ops_split 11 (decide (i_6 < (m_0.Code.length : Int))) rfl (fun hg13 => ?_) (fun hg13 => ?_)
   ·skip
    refine ops_y (wg 5 true 11 rfl rfl rfl rfl) rfl (y_move rfl) ?_
    refine ops_y (wg 5 true 11 rfl rfl rfl rfl) rfl (y_move rfl) ?_
    refine ops_y (wg 5 true 11 rfl rfl rfl rfl) rfl (y_leq rfl rfl) ?_
    refine oy rfl rfl (y_pick (b := true) rfl rfl) ?_
    refine ops_nil ?_
    exact goes_cut hL12 (decide (i_6 ≤ most_1)) [0, 1, 2] (qv4 rfl rfl rfl rfl) (by decide) rfl (by rw [hg13]; simp)
   ·skip
    refine ops_no 5 true 11 rfl rfl rfl rfl rfl ?_
    refine ops_no 5 true 11 rfl rfl rfl rfl rfl ?_
    refine ops_no 5 true 11 rfl rfl rfl rfl rfl ?_
    refine oy rfl rfl (y_pick (b := false) rfl rfl) ?_
    refine ops_nil ?_
    exact goes_cut hL12 false [0, 1, 2] (qv4 rfl rfl rfl rfl) (by decide) rfl (by rw [hg13]; simp)
  rintro _ rfl
  refine ops_nil ?_
  refine goes_code ?_
  refine run_cond (decide (i_6 < (m_0.Code.length : Int)) && decide (i_6 ≤ most_1)) rfl (fun hc14 => ?_) (fun hc14 => ?_)
  ·replace h := cond_t h hc14
   refine run_skip ?_
   refine goes_code ?_
   refine run_seq ?_
   refine run_block ?_
   refine run_seq ?_
   refine run_region' ?_
   refine oy rfl rfl (y_fieldAddr_box (sz := 0) Try.runUnderlying31 rfl Try.sizeOf29 rfl) ?_
   refine oy rfl rfl (y_load_box 0 Try.isAgg29 rfl rfl rfl) ?_
   refine oy rfl rfl (y_move rfl) ?_
   obtain ⟨x15, hzx15, hlx15, hxx15, h⟩ := idx_some h
   refine oy rfl rfl (y_indexAddrI (kd := .i64) (i := i_6) 2 Try.runUnderlying29 Try.sizeOf55 rfl rfl rfl reads_ro hzx15 (map_lt hlx15)) ?_
   refine oy rfl rfl (y_fieldAddr_elem (sz := 0) Try.runUnderlying55 rfl Try.sizeOf9 rfl) ?_
   refine oy rfl rfl (y_load_field (i := i_6.toNat) (j := 2) 2 Try.isAgg9 rfl rfl reads_ro (map_get hxx15) rfl) ?_
   refine oy rfl rfl (y_len_str rfl Try.runUnderlying9 rfl) ?_
   refine oy rfl rfl (y_gtr rfl rfl) ?_
   refine ops_nil ?_
   refine goes_code ?_
   refine run_cond (decide (300 < (x15.S.length : Int))) rfl (fun hc16 => ?_) (fun hc16 => ?_)
   ·replace h := cond_t h hc16
    refine run_seq ?_
    refine run_weak [] [] [] vnil (by decide) rfl ?_
    refine run_region' ?_
    refine oy rfl rfl (y_assign rfl) ?_
    refine ops_nil ?_
    refine goes_code ?_
    refine run_ret ?_
    obtain rfl := some_eq h
    obtain rfl := hstop9 _ rfl
    skip
    obtain rfl := after_stop ho3
    refine fin_slots [4] [.bool false] [] [] Try.results15 rfl (by decide) rfl ?_
    exact ⟨rfl, rfl⟩
   ·replace h := cond_f h hc16
    refine run_skip ?_
    refine goes_blk ?_
    refine goes_code ?_
    refine run_weak [(5, .int .i64 i_6), (1, .int .i64 most_1), (2, boxP b1 0)] [0, 1, 2] [box b1 [.string (bs m_0.Name), m_0_Effectsv, m_0_Codev], ro m_0_Effectsv 1 (m_0.Effects.map (eInt .i64)), ro m_0_Codev 3 (m_0.Code.map S_api_Instr.enc)] (qv3 rfl rfl rfl) (by decide) rfl ?_
    refine run_region' ?_
    refine oy rfl rfl (y_move rfl) ?_
    refine oy rfl rfl (y_add rfl rfl) ?_
    refine oy rfl rfl (y_assign rfl) ?_
    refine ops_nil ?_
    obtain rfl := some_eq h
    exact goes_iter hgo8 (IntKind.i64.wrap (i_6 + 1)) () [0, 1, 2] rfl (qv3 rfl rfl rfl) (by decide) rfl
  ·replace h := cond_f h hc14
   refine run_exit _ rfl ?_
   obtain rfl := some_eq h
   obtain rfl := hstop9 _ rfl
   exact goes_cut hL4 ((), ()) [0, 1, 2] (qv2 rfl rfl) (by decide) rfl rfl
 rintro ⟨_, _⟩ hj
 obtain rfl : o2 = _ := hj
 replace h := after_go ho3
 clear ho3
 change Run _ _ _ (VF.of [(1, .int .i64 most_1), (2, boxP b1 0)]) [box b1 [.string (bs m_0.Name), m_0_Effectsv, m_0_Codev], ro m_0_Effectsv 1 (m_0.Effects.map (eInt .i64)), ro m_0_Codev 3 (m_0.Code.map S_api_Instr.enc)]
 refine run_seq ?_
 refine run_region' ?_
 refine oy rfl rfl (y_fieldAddr_box (sz := 0) Try.runUnderlying31 rfl Try.sizeOf29 rfl) ?_
 refine oy rfl rfl (y_load_box 0 Try.isAgg29 rfl rfl rfl) ?_
 refine oy rfl rfl ((y_len 2 rfl Try.runUnderlying29 rfl rfl reads_ro).to (v_len S_api_Instr.enc _)) ?_
 refine oy rfl rfl (y_move rfl) ?_
 refine oy rfl rfl (y_leq rfl rfl) ?_
 refine oy rfl rfl (y_move rfl) ?_
 refine ops_cut 5 (Bool) (fun σ => [(2, boxP b1 0), (36, .bool σ)]) (fun σ => [box b1 [.string (bs m_0.Name), m_0_Effectsv, m_0_Codev], ro m_0_Effectsv 1 (m_0.Effects.map (eInt .i64)), ro m_0_Codev 3 (m_0.Code.map S_api_Instr.enc)]) (fun σ => σ = (decide ((m_0.Code.length : Int) ≤ most_1) && decide ((m_0.Name.length : Int) ≤ 300))) (fun L17 hL18 => ?_) ?_
 ·refine ops_split 31 (decide ((m_0.Code.length : Int) ≤ most_1)) rfl (fun hg19 => ?_) (fun hg19 => ?_)
  ·skip
   refine ops_y (wg 5 true 31 rfl rfl rfl rfl) rfl (y_fieldAddr_box (sz := 0) Try.runUnderlying31 rfl Try.sizeOf9 rfl) ?_
   refine ops_y (wg 5 true 31 rfl rfl rfl rfl) rfl (y_load_box 0 Try.isAgg9 rfl rfl rfl) ?_
   refine ops_y (wg 5 true 31 rfl rfl rfl rfl) rfl (y_len_str rfl Try.runUnderlying9 rfl) ?_
   refine ops_y (wg 5 true 31 rfl rfl rfl rfl) rfl (y_leq rfl rfl) ?_
   refine oy rfl rfl (y_pick (b := true) rfl rfl) ?_
   refine ops_nil ?_
   exact goes_cut hL18 (decide ((m_0.Name.length : Int) ≤ 300)) [0, 1, 2] (qv2 rfl rfl) (by decide) rfl (by rw [hg19]; simp)
  ·skip
   refine ops_no 5 true 31 rfl rfl rfl rfl rfl ?_
   refine ops_no 5 true 31 rfl rfl rfl rfl rfl ?_
   refine ops_no 5 true 31 rfl rfl rfl rfl rfl ?_
   refine ops_no 5 true 31 rfl rfl rfl rfl rfl ?_
   refine oy rfl rfl (y_pick (b := false) rfl rfl) ?_
   refine ops_nil ?_
   exact goes_cut hL18 false [0, 1, 2] (qv2 rfl rfl) (by decide) rfl (by rw [hg19]; simp)
 rintro _ rfl
 refine oy rfl rfl (y_move rfl) ?_
 refine ops_cut 5 (Bool) (fun σ => [(42, .bool σ)]) (fun σ => []) (fun σ => σ = ((decide ((m_0.Code.length : Int) ≤ most_1) && decide ((m_0.Name.length : Int) ≤ 300)) && decide ((m_0.Effects.length : Int) ≤ 20))) (fun L20 hL21 => ?_) ?_
 ·refine ops_split 37 (decide ((m_0.Code.length : Int) ≤ most_1) && decide ((m_0.Name.length : Int) ≤ 300)) rfl (fun hg22 => ?_) (fun hg22 => ?_)
  ·skip
   refine ops_y (wg 11 true 37 rfl rfl rfl rfl) rfl (y_fieldAddr_box (sz := 0) Try.runUnderlying31 rfl Try.sizeOf22 rfl) ?_
   refine ops_y (wg 11 true 37 rfl rfl rfl rfl) rfl (y_load_box 0 Try.isAgg22 rfl rfl rfl) ?_
   refine ops_y (wg 11 true 37 rfl rfl rfl rfl) rfl ((y_len 1 rfl Try.runUnderlying22 rfl rfl reads_ro).to (v_len (eInt .i64) _)) ?_
   refine ops_y (wg 11 true 37 rfl rfl rfl rfl) rfl (y_leq rfl rfl) ?_
   refine oy rfl rfl (y_pick (b := true) rfl rfl) ?_
   refine ops_nil ?_
   exact goes_cut hL21 (decide ((m_0.Effects.length : Int) ≤ 20)) [] (qv1 rfl) (by decide) rfl (by rw [hg22]; simp)
  ·skip
   refine ops_no 11 true 37 rfl rfl rfl rfl rfl ?_
   refine ops_no 11 true 37 rfl rfl rfl rfl rfl ?_
   refine ops_no 11 true 37 rfl rfl rfl rfl rfl ?_
   refine ops_no 11 true 37 rfl rfl rfl rfl rfl ?_
   refine oy rfl rfl (y_pick (b := false) rfl rfl) ?_
   refine ops_nil ?_
   exact goes_cut hL21 false [] (qv1 rfl) (by decide) rfl (by rw [hg22]; simp)
 rintro _ rfl
 refine oy rfl rfl (y_assign rfl) ?_
 refine ops_nil ?_
 refine goes_code ?_
 refine run_ret ?_
 obtain rfl := some_eq h
 refine fin_slots [4] [.bool ((decide ((m_0.Code.length : Int) ≤ most_1) && decide ((m_0.Name.length : Int) ≤ 300)) && decide ((m_0.Effects.length : Int) ≤ 20))] [] [] Try.results15 rfl (by decide) rfl ?_
 exact ⟨rfl, rfl⟩

end Go.Proofs.Ytgjdaamkfpbgpaa
namespace Go.Proofs.Ytgjdaamkfpbgpaa
open Go.Abs
set_option linter.unusedVariables false
set_option linter.unusedSimpArgs false
set_option maxRecDepth 20000
set_option maxHeartbeats 4000000

end Go.Proofs.Ytgjdaamkfpbgpaa
namespace Go.Proofs.Ytgjdaamkfpbgpaa
open Go.Abs
set_option linter.unusedVariables false
set_option linter.unusedSimpArgs false
set_option maxRecDepth 20000
set_option maxHeartbeats 4000000

end Go.Proofs.Ytgjdaamkfpbgpaa
namespace Go.Proofs.Ytgjdaamkfpbgpaa
open Go.Abs
set_option linter.unusedVariables false
set_option linter.unusedSimpArgs false
set_option maxRecDepth 20000
set_option maxHeartbeats 4000000

end Go.Proofs.Ytgjdaamkfpbgpaa
namespace Go.Proofs.Ytgjdaamkfpbgpaa
open Go.Abs
set_option linter.unusedVariables false
set_option linter.unusedSimpArgs false
set_option maxRecDepth 20000
set_option maxHeartbeats 4000000

end Go.Proofs.Ytgjdaamkfpbgpaa
namespace Go.Proofs.Ytgjdaamkfpbgpaa
open Go.Abs
set_option linter.unusedVariables false
set_option linter.unusedSimpArgs false

theorem sane (n : Nat) : law28_sanity (n + 200) = some true := by kernel_rfl
theorem w_succ {k N : Nat} (h : k ≤ N) (hN : N ≤ 1073741824) : IntKind.i64.wrap ((k : Int) + 1) = ((k + 1 : Nat) : Int) := by rw [w64 (by omega) (by omega)]; try omega
theorem ints_same (n : Nat) (a : List Int) (h : a.length < n) (hl : a.length ≤ 1073741824) : ref28_ints n a a = some true := by
  unfold ref28_ints
  simp only [ne_eq, not_true_eq_false, decide_false, cond_false]
  have h1 : iter (ref28_ints_L1 a a) n 0 = some (.go ()) := iter_allgo (step := ref28_ints_L1 a a) a.length (.go ()) (fun i hi => by
    unfold ref28_ints_L1
    simp only [show decide ((i : Int) < (a.length : Int)) = true by simp; omega, cond_true]
    rw [idx_get' hi, idx_get' hi, w_succ (N := a.length) (by omega) (by omega)]
    simp) (by unfold ref28_ints_L1; simp) n h
  rw [h1]; rfl
theorem same_v1 (n : Nat) (a : S_api_Module) (h1 : a.Effects.length < n) (h2 : a.Code.length < n) (h3 : a.Effects.length ≤ 1073741824) (h4 : a.Code.length ≤ 1073741824) : ref28_Same_v1 n a a = some true := by
  unfold ref28_Same_v1
  simp only [decide_true, Bool.not_true, cond_false, ints_same n _ h1 h3, obind, Option.bind_some, bindJ_go, ne_eq, not_true_eq_false, decide_false, Bool.or_self]
  have h5 : iter (ref28_Same_v1_L1 a a) n 0 = some (.go ()) := iter_allgo (step := ref28_Same_v1_L1 a a) a.Code.length (.go ()) (fun i hi => by
    unfold ref28_Same_v1_L1
    simp only [show decide ((i : Int) < (a.Code.length : Int)) = true by simp; omega, cond_true]
    rw [idx_get' hi, idx_get' hi, w_succ (N := a.Code.length) (by omega) (by omega)]
    simp) (by unfold ref28_Same_v1_L1; simp) n h2
  rw [h5]; rfl
end Go.Proofs.Ytgjdaamkfpbgpaa
namespace Go.Proofs.Ytgjdaamkfpbgpaa
open Go.Abs
set_option linter.unusedVariables false
set_option linter.unusedSimpArgs false
set_option maxRecDepth 20000
set_option maxHeartbeats 4000000

def law28_CompileCodes (n : Nat) (m_0 : S_api_Module) (b_1 : (List UInt8)) : Option (Bool) :=
 obind (ref28_Few n m_0 200) fun r2 =>
 cond ((!r2) || decide (9000 < (b_1.length : Int)))
  (obind (law28_sanity n) fun r8 =>
  some r8)
  (obind (compile_Encode n m_0) fun r10 =>
  obind (compile_Decode n r10) fun r13 =>
  obind (compile_Check n m_0) fun r20 =>
  bindJ (S := Bool)
   (cond (decide (r20 = 0))
    (bindJ (S := Bool)
     (cond (decide (r13.2 ≠ 0))
      (some (.go true))
      (obind (ref28_Same_v1 n r13.1 m_0) fun r34 =>
      some (.go (!r34))))
    (fun b28 =>
     some (.go b28)))
    (some (.go false)))
  (fun b22 =>
   bindJ (S := Bool)
    (cond b22
     (some (.go true))
     (obind (compile_Check n m_0) fun r42 =>
     some (.go (decide (r42 ≠ 0) && decide (r13.2 ≠ 11)))))
   (fun b36 =>
    cond b36
     (some false)
     (obind (compile_Decode n b_1) fun r48 =>
     cond (decide (r48.2 ≠ 0))
      (obind (law28_sanity n) fun r56 =>
      some ((r56 && decide (r48.2 = 11)) && decide ((r48.1.Code.length : Int) = 0)))
      (obind (law28_sanity n) fun r64 =>
      bindJ (S := Bool)
       (cond r64
        (obind (compile_Check n r48.1) fun r72 =>
        some (.go (decide (r72 = 0))))
        (some (.go false)))
      (fun b66 =>
       bindJ (S := Bool)
        (cond b66
         (obind (compile_Encode n r48.1) fun r80 =>
         some (.go (decide (r80 = b_1))))
         (some (.go false)))
       (fun b74 =>
        some b74)))))))
theorem law28_CompileCodes_ok (n : Nat) (m_0 : S_api_Module) (b_1 : (List UInt8)) (m_0_Effectsv : Value) (m_0_Codev : Value) (b_1v : Value) {r : Bool} (h : law28_CompileCodes n m_0 b_1 = some r) :
  Meets Try.prog 5 [.agg #[.string (bs m_0.Name), m_0_Effectsv, m_0_Codev], b_1v] [ro m_0_Effectsv 1 (m_0.Effects.map (eInt .i64)), ro m_0_Codev 3 (m_0.Code.map S_api_Instr.enc), ro b_1v 1 (b_1.map eB8)] (fun v G => v = .bool r ∧ G = []) := by
 refine fn_of_run Try.func5 rfl Try.ntmps5 rfl (fun w0 o0 => ?_)
 refine run_seq ?_
 refine run_region' ?_
 refine ot rfl rfl (t_box rfl) ?_
 rintro _ _ ⟨b1, rfl, rfl⟩
 refine oy rfl rfl (y_assign rfl) ?_
 refine ops_nil ?_
 refine goes_code ?_
 refine run_seq ?_
 refine run_seq ?_
 refine run_region' ?_
 refine oy rfl rfl (y_load_boxagg (c := [.string (bs m_0.Name), m_0_Effectsv, m_0_Codev]) 3 Try.isAgg31 Try.sizeOf31 rfl rfl rfl) ?_
 obtain ⟨r2, hr3, h⟩ := obind_some h
 refine ot rfl rfl (t_callx (vs := [.agg #[.string (bs m_0.Name), m_0_Effectsv, m_0_Codev], .int .i64 200]) (cs := []) [(0, 0), (1, 0)] rfl Try.call15 rfl (ref28_Few_ok n  m_0 200 m_0_Effectsv m_0_Codev hr3) (showsX_view 0 rfl views_ro (showsX_view 1 rfl views_ro showsX_nil)) rfl (.inl rfl)) ?_
 rintro _ _ ⟨_, ⟨rfl, rfl⟩, rfl⟩
 refine oy rfl rfl (y_not rfl) ?_
 refine oy rfl rfl (y_move rfl) ?_
 refine ops_cut 4 (Bool) (fun σ => [(1, b_1v), (2, boxP b1 0), (16, .bool σ)]) (fun σ => [ro m_0_Effectsv 1 (m_0.Effects.map (eInt .i64)), ro m_0_Codev 3 (m_0.Code.map S_api_Instr.enc), ro b_1v 1 (b_1.map eB8), box b1 [.string (bs m_0.Name), m_0_Effectsv, m_0_Codev]]) (fun σ => σ = ((!r2) || decide (9000 < (b_1.length : Int)))) (fun L4 hL5 => ?_) ?_
 ·refine ops_split 12 (!r2) rfl (fun hg6 => ?_) (fun hg6 => ?_)
  ·skip
   refine ops_no 3 false 12 rfl rfl rfl rfl rfl ?_
   refine ops_no 3 false 12 rfl rfl rfl rfl rfl ?_
   refine ops_no 3 false 12 rfl rfl rfl rfl rfl ?_
   refine oy rfl rfl (y_pick (b := true) rfl rfl) ?_
   refine ops_nil ?_
   exact goes_cut hL5 true [0, 1, 2, 3] (qv3 rfl rfl rfl) (by decide) rfl (by rw [hg6]; simp)
  ·skip
   refine ops_y (wg 3 false 12 rfl rfl rfl rfl) rfl (y_move rfl) ?_
   refine ops_y (wg 3 false 12 rfl rfl rfl rfl) rfl ((y_len 2 rfl Try.runUnderlying40 rfl rfl reads_ro).to (v_len eB8 _)) ?_
   refine ops_y (wg 3 false 12 rfl rfl rfl rfl) rfl (y_gtr rfl rfl) ?_
   refine oy rfl rfl (y_pick (b := false) rfl rfl) ?_
   refine ops_nil ?_
   exact goes_cut hL5 (decide (9000 < (b_1.length : Int))) [0, 1, 2, 3] (qv3 rfl rfl rfl) (by decide) rfl (by rw [hg6]; simp)
 rintro _ rfl
 refine ops_nil ?_
 refine goes_code ?_
 refine run_cond ((!r2) || decide (9000 < (b_1.length : Int))) rfl (fun hc7 => ?_) (fun hc7 => ?_)
 ·replace h := cond_t h hc7
  refine run_seq ?_
  refine run_region' ?_
  obtain ⟨r8, hr9, h⟩ := obind_some h
  refine ot rfl rfl (t_callx (vs := []) (cs := []) [] rfl Try.call8 rfl (law28_sanity_ok n    hr9) showsX_nil rfl (.inl rfl)) ?_
  rintro _ _ ⟨_, ⟨rfl, rfl⟩, rfl⟩
  refine oy rfl rfl (y_assign rfl) ?_
  refine ops_nil ?_
  refine goes_code ?_
  refine run_ret ?_
  obtain rfl := some_eq h
  refine fin_slots [4] [.bool r8] [] [] Try.results5 rfl (by decide) rfl ?_
  exact ⟨rfl, rfl⟩
 ·replace h := cond_f h hc7
  refine run_skip ?_
  refine goes_code ?_
  refine run_seq ?_
  refine run_region' ?_
  refine oy rfl rfl (y_load_boxagg (c := [.string (bs m_0.Name), m_0_Effectsv, m_0_Codev]) 3 Try.isAgg31 Try.sizeOf31 rfl rfl rfl) ?_
  obtain ⟨r10, hr11, h⟩ := obind_some h
  refine ot rfl rfl (t_callx (vs := [.agg #[.string (bs m_0.Name), m_0_Effectsv, m_0_Codev]]) (cs := []) [(0, 0), (1, 0)] rfl Try.call13 rfl (compile_Encode_ok n  m_0 m_0_Effectsv m_0_Codev hr11) (showsX_view 0 rfl views_ro (showsX_view 1 rfl views_ro showsX_nil)) rfl (.inl rfl)) ?_
  rintro v12 _ ⟨_, ⟨_, rfl, rfl⟩, rfl⟩
  obtain ⟨r13, hr14, h⟩ := obind_some h
  refine ot rfl rfl (t_callx (vs := [v12]) (cs := []) [(4, 1)] rfl Try.call12 rfl (compile_Decode_ok n  r10 v12 hr14) (showsX_look 4 rfl views_row showsX_nil) rfl (.inr (by rintro _ _ ⟨_, _, rfl, rfl⟩ g hg; first | (cases hg; done) | (simp only [List.mem_cons, List.not_mem_nil, or_false] at hg; first | (subst hg; first | exact strict_row | exact strict_box) | (rcases hg with rfl | rfl <;> first | exact strict_row | exact strict_box) | (rcases hg with rfl | rfl | rfl <;> first | exact strict_row | exact strict_box))))) ?_
  rintro _ _ ⟨_, ⟨v15, v16, rfl, rfl⟩, rfl⟩
  refine oy rfl rfl (y_move rfl) ?_
  refine oy rfl rfl (y_extract rfl rfl) ?_
  refine oy rfl rfl (y_extract rfl rfl) ?_
  refine ot rfl rfl (t_alloc Try.zeroValue31) ?_
  rintro _ _ ⟨b17, rfl, rfl⟩
  refine ops_slc 5 rfl reads_row (fun hs18 hs18o => ?_)
  refine ops_slc 6 rfl reads_row (fun hs19 hs19o => ?_)
  refine ot rfl rfl (t_store 7 Try.sizeOf31 rfl rfl rfl rfl (by simp [Value.cells, boxP]) (allL_cons rfl (allL_cons hs18o (allL_cons hs19o (allL_nil))))) ?_
  rintro _ _ ⟨rfl, rfl⟩
  refine ops_turn (retell 7 (g := box b17 [.string (bs r13.1.Name), v15, v16]) rfl rfl) ?_
  refine oy rfl rfl (y_assign rfl) ?_
  refine ops_nil ?_
  refine goes_code ?_
  refine run_seq ?_
  refine run_seq ?_
  refine run_weak [(1, b_1v), (2, boxP b1 0), (5, boxP b17 0), (6, .int .i64 r13.2)] [0, 1, 2, 3, 5, 6, 7] [ro m_0_Effectsv 1 (m_0.Effects.map (eInt .i64)), ro m_0_Codev 3 (m_0.Code.map S_api_Instr.enc), ro b_1v 1 (b_1.map eB8), box b1 [.string (bs m_0.Name), m_0_Effectsv, m_0_Codev], row v15 1 (r13.1.Effects.map (eInt .i64)), row v16 3 (r13.1.Code.map S_api_Instr.enc), box b17 [.string (bs r13.1.Name), v15, v16]] (qv4 rfl rfl rfl rfl) (by decide) rfl ?_
  refine run_region' ?_
  refine oy rfl rfl (y_load_boxagg (c := [.string (bs m_0.Name), m_0_Effectsv, m_0_Codev]) 3 Try.isAgg31 Try.sizeOf31 rfl rfl rfl) ?_
  obtain ⟨r20, hr21, h⟩ := obind_some h
  refine ot rfl rfl (t_callx (vs := [.agg #[.string (bs m_0.Name), m_0_Effectsv, m_0_Codev]]) (cs := []) [(0, 0), (1, 0)] rfl Try.call14 rfl (compile_Check_ok n  m_0 m_0_Effectsv m_0_Codev hr21) (showsX_view 0 rfl views_ro (showsX_view 1 rfl views_ro showsX_nil)) rfl (.inl rfl)) ?_
  rintro _ _ ⟨_, ⟨rfl, rfl⟩, rfl⟩
  refine oy rfl rfl (y_eql rfl rfl) ?_
  refine oy rfl rfl (y_move rfl) ?_
  obtain ⟨o23, h, ho24⟩ := bindJ_some h
  refine ops_cut 9 (Bool) (fun σ => [(1, b_1v), (2, boxP b1 0), (6, .int .i64 r13.2), (36, .bool σ)]) (fun σ => [ro m_0_Effectsv 1 (m_0.Effects.map (eInt .i64)), ro m_0_Codev 3 (m_0.Code.map S_api_Instr.enc), ro b_1v 1 (b_1.map eB8), box b1 [.string (bs m_0.Name), m_0_Effectsv, m_0_Codev]]) (fun σ => o23 = .go σ) (fun L25 hL26 => ?_) ?_
  ·refine ops_split 27 (decide (r20 = 0)) rfl (fun hg27 => ?_) (fun hg27 => ?_)
   ·replace h := cond_t h hg27
    refine ops_y (wg 3 true 27 rfl rfl rfl rfl) rfl (y_move rfl) ?_
    refine ops_y (wg 3 true 27 rfl rfl rfl rfl) rfl (y_neq rfl rfl) ?_
    refine ops_y (wg 3 true 27 rfl rfl rfl rfl) rfl (y_move rfl) ?_
    obtain ⟨o29, h, ho30⟩ := bindJ_some h
    refine ops_cut 5 (Bool) (fun σ => [(1, b_1v), (2, boxP b1 0), (6, .int .i64 r13.2), (27, .bool true), (35, .bool σ)]) (fun σ => [ro m_0_Effectsv 1 (m_0.Effects.map (eInt .i64)), ro m_0_Codev 3 (m_0.Code.map S_api_Instr.enc), ro b_1v 1 (b_1.map eB8), box b1 [.string (bs m_0.Name), m_0_Effectsv, m_0_Codev]]) (fun σ => o29 = .go σ) (fun L31 hL32 => ?_) ?_
    ·refine ops_split 30 (decide (r13.2 ≠ 0)) rfl (fun hg33 => ?_) (fun hg33 => ?_)
     ·replace h := cond_t h hg33
      refine ops_no 6 false 30 rfl rfl rfl rfl rfl ?_
      refine ops_no 6 false 30 rfl rfl rfl rfl rfl ?_
      refine ops_no 6 false 30 rfl rfl rfl rfl rfl ?_
      refine ops_no 6 false 30 rfl rfl rfl rfl rfl ?_
      refine ops_y (wg 3 true 27 rfl rfl rfl rfl) rfl (y_pick (b := true) rfl rfl) ?_
      refine ops_nil ?_
      obtain rfl := some_eq h
      exact goes_cut hL32 true [0, 1, 2, 3] (qv5 rfl rfl rfl rfl rfl) (by decide) rfl rfl
     ·replace h := cond_f h hg33
      refine ops_y (wg 6 false 30 rfl rfl rfl rfl) rfl (y_load_boxagg (c := [.string (bs r13.1.Name), v15, v16]) 6 Try.isAgg31 Try.sizeOf31 rfl rfl rfl) ?_
      refine ops_y (wg 6 false 30 rfl rfl rfl rfl) rfl (y_load_boxagg (c := [.string (bs m_0.Name), m_0_Effectsv, m_0_Codev]) 3 Try.isAgg31 Try.sizeOf31 rfl rfl rfl) ?_
      obtain ⟨r34, hr35, h⟩ := obind_some h
      refine ops_t (wg 6 false 30 rfl rfl rfl rfl) rfl (t_callx (vs := [.agg #[.string (bs r13.1.Name), v15, v16], .agg #[.string (bs m_0.Name), m_0_Effectsv, m_0_Codev]]) (cs := []) [(4, 1), (5, 1), (0, 0), (1, 0)] rfl Try.call11 rfl (ref28_Same_v1_ok n  r13.1 m_0 v15 v16 m_0_Effectsv m_0_Codev hr35) (showsX_look 4 rfl views_row (showsX_look 5 rfl views_row (showsX_view 0 rfl views_ro (showsX_view 1 rfl views_ro showsX_nil)))) rfl (.inr (by rintro _ _ ⟨rfl, rfl⟩ g hg; first | (cases hg; done) | (simp only [List.mem_cons, List.not_mem_nil, or_false] at hg; first | (subst hg; first | exact strict_row | exact strict_box) | (rcases hg with rfl | rfl <;> first | exact strict_row | exact strict_box) | (rcases hg with rfl | rfl | rfl <;> first | exact strict_row | exact strict_box))))) ?_
      rintro _ _ ⟨_, ⟨rfl, rfl⟩, rfl⟩
      refine ops_y (wg 6 false 30 rfl rfl rfl rfl) rfl (y_not rfl) ?_
      refine ops_y (wg 3 true 27 rfl rfl rfl rfl) rfl (y_pick (b := false) rfl rfl) ?_
      refine ops_nil ?_
      obtain rfl := some_eq h
      exact goes_cut hL32 (!r34) [0, 1, 2, 3] (qv5 rfl rfl rfl rfl rfl) (by decide) rfl rfl
    rintro b28 hj
    obtain rfl : o29 = _ := hj
    replace h := after_go ho30
    clear ho30
    refine oy rfl rfl (y_pick (b := true) rfl rfl) ?_
    refine ops_nil ?_
    obtain rfl := some_eq h
    exact goes_cut hL26 b28 [0, 1, 2, 3] (qv4 rfl rfl rfl rfl) (by decide) rfl rfl
   ·replace h := cond_f h hg27
    refine ops_no 3 true 27 rfl rfl rfl rfl rfl ?_
    refine ops_no 3 true 27 rfl rfl rfl rfl rfl ?_
    refine ops_no 3 true 27 rfl rfl rfl rfl rfl ?_
    refine ops_un 6 false 30 rfl rfl rfl rfl rfl ?_
    refine ops_un 6 false 30 rfl rfl rfl rfl rfl ?_
    refine ops_un 6 false 30 rfl rfl rfl rfl rfl ?_
    refine ops_un 6 false 30 rfl rfl rfl rfl rfl ?_
    refine ops_no 3 true 27 rfl rfl rfl rfl rfl ?_
    refine oy rfl rfl (y_pick (b := false) rfl rfl) ?_
    refine ops_nil ?_
    obtain rfl := some_eq h
    exact goes_cut hL26 false [0, 1, 2, 3] (qv4 rfl rfl rfl rfl) (by decide) rfl rfl
  rintro b22 hj
  obtain rfl : o23 = _ := hj
  replace h := after_go ho24
  clear ho24
  refine oy rfl rfl (y_move rfl) ?_
  obtain ⟨o37, h, ho38⟩ := bindJ_some h
  refine ops_cut 8 (Bool) (fun σ => [(1, b_1v), (45, .bool σ)]) (fun σ => [ro b_1v 1 (b_1.map eB8)]) (fun σ => o37 = .go σ) (fun L39 hL40 => ?_) ?_
  ·refine ops_split 37 b22 rfl (fun hg41 => ?_) (fun hg41 => ?_)
   ·replace h := cond_t h hg41
    refine ops_no 13 false 37 rfl rfl rfl rfl rfl ?_
    refine ops_no 13 false 37 rfl rfl rfl rfl rfl ?_
    refine ops_no 13 false 37 rfl rfl rfl rfl rfl ?_
    refine ops_no 13 false 37 rfl rfl rfl rfl rfl ?_
    refine ops_un 17 true 41 rfl rfl rfl rfl rfl ?_
    refine ops_un 17 true 41 rfl rfl rfl rfl rfl ?_
    refine ops_no 13 false 37 rfl rfl rfl rfl rfl ?_
    refine oy rfl rfl (y_pick (b := true) rfl rfl) ?_
    refine ops_nil ?_
    obtain rfl := some_eq h
    exact goes_cut hL40 true [2] (qv2 rfl rfl) (by decide) rfl rfl
   ·replace h := cond_f h hg41
    refine ops_y (wg 13 false 37 rfl rfl rfl rfl) rfl (y_load_boxagg (c := [.string (bs m_0.Name), m_0_Effectsv, m_0_Codev]) 3 Try.isAgg31 Try.sizeOf31 rfl rfl rfl) ?_
    obtain ⟨r42, hr43, h⟩ := obind_some h
    refine ops_t (wg 13 false 37 rfl rfl rfl rfl) rfl (t_callx (vs := [.agg #[.string (bs m_0.Name), m_0_Effectsv, m_0_Codev]]) (cs := []) [(0, 0), (1, 0)] rfl Try.call14 rfl (compile_Check_ok n  m_0 m_0_Effectsv m_0_Codev hr43) (showsX_view 0 rfl views_ro (showsX_view 1 rfl views_ro showsX_nil)) rfl (.inl rfl)) ?_
    rintro _ _ ⟨_, ⟨rfl, rfl⟩, rfl⟩
    refine ops_y (wg 13 false 37 rfl rfl rfl rfl) rfl (y_neq rfl rfl) ?_
    refine ops_y (wg 13 false 37 rfl rfl rfl rfl) rfl (y_move rfl) ?_
    refine ops_cut 3 (Bool) (fun σ => [(1, b_1v), (37, .bool false), (44, .bool σ)]) (fun σ => [ro b_1v 1 (b_1.map eB8)]) (fun σ => σ = (decide (r42 ≠ 0) && decide (r13.2 ≠ 11))) (fun L44 hL45 => ?_) ?_
    ·refine ops_split 41 (decide (r42 ≠ 0)) rfl (fun hg46 => ?_) (fun hg46 => ?_)
     ·skip
      refine ops_y (wg 17 true 41 rfl rfl rfl rfl) rfl (y_move rfl) ?_
      refine ops_y (wg 17 true 41 rfl rfl rfl rfl) rfl (y_neq rfl rfl) ?_
      refine ops_y (wg 13 false 37 rfl rfl rfl rfl) rfl (y_pick (b := true) rfl rfl) ?_
      refine ops_nil ?_
      exact goes_cut hL45 (decide (r13.2 ≠ 11)) [2] (qv3 rfl rfl rfl) (by decide) rfl (by rw [hg46]; simp)
     ·skip
      refine ops_no 17 true 41 rfl rfl rfl rfl rfl ?_
      refine ops_no 17 true 41 rfl rfl rfl rfl rfl ?_
      refine ops_y (wg 13 false 37 rfl rfl rfl rfl) rfl (y_pick (b := false) rfl rfl) ?_
      refine ops_nil ?_
      exact goes_cut hL45 false [2] (qv3 rfl rfl rfl) (by decide) rfl (by rw [hg46]; simp)
    rintro _ rfl
    refine oy rfl rfl (y_pick (b := false) rfl rfl) ?_
    refine ops_nil ?_
    obtain rfl := some_eq h
    exact goes_cut hL40 (decide (r42 ≠ 0) && decide (r13.2 ≠ 11)) [0] (qv2 rfl rfl) (by decide) rfl rfl
  rintro b36 hj
  obtain rfl : o37 = _ := hj
  replace h := after_go ho38
  clear ho38
  refine ops_nil ?_
  refine goes_code ?_
  refine run_cond b36 rfl (fun hc47 => ?_) (fun hc47 => ?_)
  ·replace h := cond_t h hc47
   refine run_seq ?_
   refine run_region' ?_
   refine oy rfl rfl (y_assign rfl) ?_
   refine ops_nil ?_
   refine goes_code ?_
   refine run_ret ?_
   obtain rfl := some_eq h
   refine fin_slots [4] [.bool false] [] [] Try.results5 rfl (by decide) rfl ?_
   exact ⟨rfl, rfl⟩
  ·replace h := cond_f h hc47
   refine run_skip ?_
   refine goes_code ?_
   refine run_seq ?_
   refine run_region' ?_
   refine oy rfl rfl (y_move rfl) ?_
   obtain ⟨r48, hr49, h⟩ := obind_some h
   refine ot rfl rfl (t_callx (vs := [b_1v]) (cs := []) [(0, 0)] rfl Try.call12 rfl (compile_Decode_ok n  b_1 b_1v hr49) (showsX_view 0 rfl views_ro showsX_nil) rfl (.inl rfl)) ?_
   rintro _ _ ⟨_, ⟨v50, v51, rfl, rfl⟩, rfl⟩
   refine oy rfl rfl (y_move rfl) ?_
   refine oy rfl rfl (y_extract rfl rfl) ?_
   refine oy rfl rfl (y_extract rfl rfl) ?_
   refine ot rfl rfl (t_alloc Try.zeroValue31) ?_
   rintro _ _ ⟨b52, rfl, rfl⟩
   refine ops_slc 1 rfl reads_row (fun hs53 hs53o => ?_)
   refine ops_slc 2 rfl reads_row (fun hs54 hs54o => ?_)
   refine ot rfl rfl (t_store 3 Try.sizeOf31 rfl rfl rfl rfl (by simp [Value.cells, boxP]) (allL_cons rfl (allL_cons hs53o (allL_cons hs54o (allL_nil))))) ?_
   rintro _ _ ⟨rfl, rfl⟩
   refine ops_turn (retell 3 (g := box b52 [.string (bs r48.1.Name), v50, v51]) rfl rfl) ?_
   refine oy rfl rfl (y_assign rfl) ?_
   refine ops_nil ?_
   refine goes_code ?_
   refine run_seq ?_
   refine run_seq ?_
   refine run_weak [(1, b_1v), (7, boxP b52 0), (8, .int .i64 r48.2)] [0, 1, 2, 3] [ro b_1v 1 (b_1.map eB8), row v50 1 (r48.1.Effects.map (eInt .i64)), row v51 3 (r48.1.Code.map S_api_Instr.enc), box b52 [.string (bs r48.1.Name), v50, v51]] (qv3 rfl rfl rfl) (by decide) rfl ?_
   refine run_region' ?_
   refine oy rfl rfl (y_move rfl) ?_
   refine oy rfl rfl (y_neq rfl rfl) ?_
   refine ops_nil ?_
   refine goes_code ?_
   refine run_cond (decide (r48.2 ≠ 0)) rfl (fun hc55 => ?_) (fun hc55 => ?_)
   ·replace h := cond_t h hc55
    refine run_seq ?_
    refine run_region' ?_
    obtain ⟨r56, hr57, h⟩ := obind_some h
    refine ot rfl rfl (t_callx (vs := []) (cs := []) [] rfl Try.call8 rfl (law28_sanity_ok n    hr57) showsX_nil rfl (.inl rfl)) ?_
    rintro _ _ ⟨_, ⟨rfl, rfl⟩, rfl⟩
    refine oy rfl rfl (y_move rfl) ?_
    refine ops_cut 3 (Bool) (fun σ => [(7, boxP b52 0), (57, .bool σ)]) (fun σ => [row v50 1 (r48.1.Effects.map (eInt .i64)), row v51 3 (r48.1.Code.map S_api_Instr.enc), box b52 [.string (bs r48.1.Name), v50, v51]]) (fun σ => σ = (r56 && decide (r48.2 = 11))) (fun L58 hL59 => ?_) ?_
    ·refine ops_split 54 r56 rfl (fun hg60 => ?_) (fun hg60 => ?_)
     ·skip
      refine ops_y (wg 1 true 54 rfl rfl rfl rfl) rfl (y_move rfl) ?_
      refine ops_y (wg 1 true 54 rfl rfl rfl rfl) rfl (y_eql rfl rfl) ?_
      refine oy rfl rfl (y_pick (b := true) rfl rfl) ?_
      refine ops_nil ?_
      exact goes_cut hL59 (decide (r48.2 = 11)) [1, 2, 3] (qv2 rfl rfl) (by decide) rfl (by rw [hg60]; simp)
     ·skip
      refine ops_no 1 true 54 rfl rfl rfl rfl rfl ?_
      refine ops_no 1 true 54 rfl rfl rfl rfl rfl ?_
      refine oy rfl rfl (y_pick (b := false) rfl rfl) ?_
      refine ops_nil ?_
      exact goes_cut hL59 false [1, 2, 3] (qv2 rfl rfl) (by decide) rfl (by rw [hg60]; simp)
    rintro _ rfl
    refine oy rfl rfl (y_move rfl) ?_
    refine ops_cut 5 (Bool) (fun σ => [(63, .bool σ)]) (fun σ => []) (fun σ => σ = ((r56 && decide (r48.2 = 11)) && decide ((r48.1.Code.length : Int) = 0))) (fun L61 hL62 => ?_) ?_
    ·refine ops_split 58 (r56 && decide (r48.2 = 11)) rfl (fun hg63 => ?_) (fun hg63 => ?_)
     ·skip
      refine ops_y (wg 5 true 58 rfl rfl rfl rfl) rfl (y_fieldAddr_box (sz := 0) Try.runUnderlying31 rfl Try.sizeOf29 rfl) ?_
      refine ops_y (wg 5 true 58 rfl rfl rfl rfl) rfl (y_load_box 2 Try.isAgg29 rfl rfl rfl) ?_
      refine ops_y (wg 5 true 58 rfl rfl rfl rfl) rfl ((y_len 1 rfl Try.runUnderlying29 rfl rfl reads_row).to (v_len S_api_Instr.enc _)) ?_
      refine ops_y (wg 5 true 58 rfl rfl rfl rfl) rfl (y_eql rfl rfl) ?_
      refine oy rfl rfl (y_pick (b := true) rfl rfl) ?_
      refine ops_nil ?_
      exact goes_cut hL62 (decide ((r48.1.Code.length : Int) = 0)) [] (qv1 rfl) (by decide) rfl (by rw [hg63]; simp)
     ·skip
      refine ops_no 5 true 58 rfl rfl rfl rfl rfl ?_
      refine ops_no 5 true 58 rfl rfl rfl rfl rfl ?_
      refine ops_no 5 true 58 rfl rfl rfl rfl rfl ?_
      refine ops_no 5 true 58 rfl rfl rfl rfl rfl ?_
      refine oy rfl rfl (y_pick (b := false) rfl rfl) ?_
      refine ops_nil ?_
      exact goes_cut hL62 false [] (qv1 rfl) (by decide) rfl (by rw [hg63]; simp)
    rintro _ rfl
    refine oy rfl rfl (y_assign rfl) ?_
    refine ops_nil ?_
    refine goes_code ?_
    refine run_ret ?_
    obtain rfl := some_eq h
    refine fin_slots [4] [.bool ((r56 && decide (r48.2 = 11)) && decide ((r48.1.Code.length : Int) = 0))] [] [] Try.results5 rfl (by decide) rfl ?_
    exact ⟨rfl, rfl⟩
   ·replace h := cond_f h hc55
    refine run_skip ?_
    refine goes_code ?_
    refine run_seq ?_
    refine run_drawany [ro b_1v 1 (b_1.map eB8), row v50 1 (r48.1.Effects.map (eInt .i64)), row v51 3 (r48.1.Code.map S_api_Instr.enc), box b52 [.string (bs r48.1.Name), v50, v51]] (by kernel_rfl) ?_
    refine any_all [0] (by kernel_rfl) rfl (anyo_cons ?_ anyo_nil)
    obtain ⟨r64, hr65, h⟩ := obind_some h
    refine any_t rfl (wn rfl) rfl (t_callx (vs := []) (cs := []) [] rfl Try.call8 rfl (law28_sanity_ok n    hr65) showsX_nil rfl (.inl rfl)) ?_
    rintro _ _ ⟨_, ⟨rfl, rfl⟩, rfl⟩
    refine ⟨(ss (ss (ss (ss (sn))))), ?_⟩
    refine any_y 1 rfl (by kernel_rfl) (by kernel_rfl) (by kernel_rfl) (ss (ss (ss (ss (sn))))) (wn rfl) rfl (y_move rfl) ?_
    obtain ⟨o67, h, ho68⟩ := bindJ_some h
    refine any_cut #[true, true, true, true, true, true, false, false, false, false, false, false, false, false, false] 9 Bool (fun σ => [(1, b_1v), (7, boxP b52 0), (69, .bool σ)]) (fun σ => [ro b_1v 1 (b_1.map eB8), row v50 1 (r48.1.Effects.map (eInt .i64)), row v51 3 (r48.1.Code.map S_api_Instr.enc), box b52 [.string (bs r48.1.Name), v50, v51]]) (fun σ => o67 = .go σ) (fun hL70 => ?_) ?_
    ·refine any_split 65 r64 rfl (fun hg71 => ?_) (fun hg71 => ?_)
     ·replace h := cond_t h hg71
      refine any_y 2 rfl (by kernel_rfl) (by kernel_rfl) (by kernel_rfl) (ss (ss (ss (ss (sn))))) (wg 1 true 65 rfl rfl rfl rfl) rfl (y_load_boxagg (c := [.string (bs r48.1.Name), v50, v51]) 3 Try.isAgg31 Try.sizeOf31 rfl rfl rfl) ?_
      refine any_all [3] (by kernel_rfl) rfl (anyo_cons ?_ anyo_nil)
      obtain ⟨r72, hr73, h⟩ := obind_some h
      refine any_t rfl (wg 1 true 65 rfl rfl rfl rfl) rfl (t_callx (vs := [.agg #[.string (bs r48.1.Name), v50, v51]]) (cs := []) [(1, 1), (2, 1)] rfl Try.call14 rfl (compile_Check_ok n  r48.1 v50 v51 hr73) (showsX_look 1 rfl views_row (showsX_look 2 rfl views_row showsX_nil)) rfl (.inr (by rintro _ _ ⟨rfl, rfl⟩ g hg; first | (cases hg; done) | (simp only [List.mem_cons, List.not_mem_nil, or_false] at hg; first | (subst hg; first | exact strict_row | exact strict_box) | (rcases hg with rfl | rfl <;> first | exact strict_row | exact strict_box) | (rcases hg with rfl | rfl | rfl <;> first | exact strict_row | exact strict_box))))) ?_
      rintro _ _ ⟨_, ⟨rfl, rfl⟩, rfl⟩
      refine ⟨(ss (ss (ss (ss (sn))))), ?_⟩
      refine any_y 4 rfl (by kernel_rfl) (by kernel_rfl) (by kernel_rfl) (ss (ss (ss (ss (sn))))) (wg 1 true 65 rfl rfl rfl rfl) rfl (y_eql rfl rfl) ?_
      refine any_y 5 rfl (by kernel_rfl) (by kernel_rfl) (by kernel_rfl) (ss (ss (ss (ss (sn))))) (wn rfl) rfl (y_pick (b := true) rfl rfl) ?_
      obtain rfl := some_eq h
      exact any_weak [(1, b_1v), (7, boxP b52 0), (69, .bool (decide (r72 = 0)))] [0, 1, 2, 3] [ro b_1v 1 (b_1.map eB8), row v50 1 (r48.1.Effects.map (eInt .i64)), row v51 3 (r48.1.Code.map S_api_Instr.enc), box b52 [.string (bs r48.1.Name), v50, v51]] (by kernel_rfl) (qv3 rfl rfl rfl) (by decide) rfl (hL70 (decide (r72 = 0)) rfl)
     ·replace h := cond_f h hg71
      refine any_no 2 rfl (by kernel_rfl) (by kernel_rfl) (by kernel_rfl) (ss (ss (ss (ss (sn))))) 1 true 65 rfl rfl rfl rfl rfl ?_
      refine any_no 3 rfl (by kernel_rfl) (by kernel_rfl) (by kernel_rfl) (ss (ss (ss (ss (sn))))) 1 true 65 rfl rfl rfl rfl rfl ?_
      refine any_no 4 rfl (by kernel_rfl) (by kernel_rfl) (by kernel_rfl) (ss (ss (ss (ss (sn))))) 1 true 65 rfl rfl rfl rfl rfl ?_
      refine any_y 5 rfl (by kernel_rfl) (by kernel_rfl) (by kernel_rfl) (ss (ss (ss (ss (sn))))) (wn rfl) rfl (y_pick (b := false) rfl rfl) ?_
      obtain rfl := some_eq h
      exact any_weak [(1, b_1v), (7, boxP b52 0), (69, .bool false)] [0, 1, 2, 3] [ro b_1v 1 (b_1.map eB8), row v50 1 (r48.1.Effects.map (eInt .i64)), row v51 3 (r48.1.Code.map S_api_Instr.enc), box b52 [.string (bs r48.1.Name), v50, v51]] (by kernel_rfl) (qv3 rfl rfl rfl) (by decide) rfl (hL70 false rfl)
    rintro b66 hj
    obtain rfl : o67 = _ := hj
    replace h := after_go ho68
    clear ho68
    refine any_y 6 rfl (by kernel_rfl) (by kernel_rfl) (by kernel_rfl) (ss (ss (ss (ss (sn))))) (wn rfl) rfl (y_move rfl) ?_
    obtain ⟨o75, h, ho76⟩ := bindJ_some h
    refine any_cut #[true, true, true, true, true, true, true, true, true, true, true, true, true, true, false] 1 Bool (fun σ => [(77, .bool σ)]) (fun σ => [ro b_1v 1 (b_1.map eB8), row v50 1 (r48.1.Effects.map (eInt .i64)), row v51 3 (r48.1.Code.map S_api_Instr.enc), box b52 [.string (bs r48.1.Name), v50, v51]]) (fun σ => o75 = .go σ) (fun hL78 => ?_) ?_
    ·refine any_split 70 b66 rfl (fun hg79 => ?_) (fun hg79 => ?_)
     ·replace h := cond_t h hg79
      refine any_y 7 rfl (by kernel_rfl) (by kernel_rfl) (by kernel_rfl) (ss (ss (ss (ss (sn))))) (wg 6 true 70 rfl rfl rfl rfl) rfl (y_load_boxagg (c := [.string (bs r48.1.Name), v50, v51]) 3 Try.isAgg31 Try.sizeOf31 rfl rfl rfl) ?_
      refine any_y 10 rfl (by kernel_rfl) (by kernel_rfl) (by kernel_rfl) (ss (ss (ss (ss (sn))))) (wg 6 true 70 rfl rfl rfl rfl) rfl (y_move rfl) ?_
      refine any_y 11 rfl (by kernel_rfl) (by kernel_rfl) (by kernel_rfl) (ss (ss (ss (ss (sn))))) (wg 6 true 70 rfl rfl rfl rfl) rfl (y_b2s (l := b_1) 0 Try.runUnderlying40 Try.runUnderlying5 Try.runUnderlying9 rfl rfl reads_ro) ?_
      refine any_all [8] (by kernel_rfl) rfl (anyo_cons ?_ anyo_nil)
      obtain ⟨r80, hr81, h⟩ := obind_some h
      refine any_t rfl (wg 6 true 70 rfl rfl rfl rfl) rfl (t_callx (vs := [.agg #[.string (bs r48.1.Name), v50, v51]]) (cs := []) [(1, 1), (2, 1)] rfl Try.call13 rfl (compile_Encode_ok n  r48.1 v50 v51 hr81) (showsX_look 1 rfl views_row (showsX_look 2 rfl views_row showsX_nil)) rfl (.inr (by rintro _ _ ⟨_, rfl, rfl⟩ g hg; first | (cases hg; done) | (simp only [List.mem_cons, List.not_mem_nil, or_false] at hg; first | (subst hg; first | exact strict_row | exact strict_box) | (rcases hg with rfl | rfl <;> first | exact strict_row | exact strict_box) | (rcases hg with rfl | rfl | rfl <;> first | exact strict_row | exact strict_box))))) ?_
      rintro v82 _ ⟨_, ⟨_, rfl, rfl⟩, rfl⟩
      refine ⟨(ss (ss (ss (ss (sn))))), ?_⟩
      refine any_all [9] (by kernel_rfl) rfl (anyo_cons ?_ anyo_nil)
      refine any_ty rfl (wg 6 true 70 rfl rfl rfl rfl) rfl (y_b2s (l := r80) 4 Try.runUnderlying40 Try.runUnderlying5 Try.runUnderlying9 rfl rfl reads_row) ⟨(ss (ss (ss (ss (sn))))), ?_⟩
      refine any_y 12 rfl (by kernel_rfl) (by kernel_rfl) (by kernel_rfl) (ss (ss (ss (ss (sn))))) (wg 6 true 70 rfl rfl rfl rfl) rfl (y_seql rfl rfl) ?_
      refine any_y 13 rfl (by kernel_rfl) (by kernel_rfl) (by kernel_rfl) (ss (ss (ss (ss (sn))))) (wn rfl) rfl (y_pick (b := true) rfl rfl) ?_
      obtain rfl := some_eq h
      exact any_weak [(77, .bool (decide (r80 = b_1)))] [0, 1, 2, 3] [ro b_1v 1 (b_1.map eB8), row v50 1 (r48.1.Effects.map (eInt .i64)), row v51 3 (r48.1.Code.map S_api_Instr.enc), box b52 [.string (bs r48.1.Name), v50, v51]] (by kernel_rfl) (qv1 rfl) (by decide) rfl (hL78 (decide (r80 = b_1)) rfl)
     ·replace h := cond_f h hg79
      refine any_no 7 rfl (by kernel_rfl) (by kernel_rfl) (by kernel_rfl) (ss (ss (ss (ss (sn))))) 6 true 70 rfl rfl rfl rfl rfl ?_
      refine any_no 10 rfl (by kernel_rfl) (by kernel_rfl) (by kernel_rfl) (ss (ss (ss (ss (sn))))) 6 true 70 rfl rfl rfl rfl rfl ?_
      refine any_no 11 rfl (by kernel_rfl) (by kernel_rfl) (by kernel_rfl) (ss (ss (ss (ss (sn))))) 6 true 70 rfl rfl rfl rfl rfl ?_
      refine any_no 8 rfl (by kernel_rfl) (by kernel_rfl) (by kernel_rfl) (ss (ss (ss (ss (sn))))) 6 true 70 rfl rfl rfl rfl rfl ?_
      refine any_no 9 rfl (by kernel_rfl) (by kernel_rfl) (by kernel_rfl) (ss (ss (ss (ss (sn))))) 6 true 70 rfl rfl rfl rfl rfl ?_
      refine any_no 12 rfl (by kernel_rfl) (by kernel_rfl) (by kernel_rfl) (ss (ss (ss (ss (sn))))) 6 true 70 rfl rfl rfl rfl rfl ?_
      refine any_y 13 rfl (by kernel_rfl) (by kernel_rfl) (by kernel_rfl) (ss (ss (ss (ss (sn))))) (wn rfl) rfl (y_pick (b := false) rfl rfl) ?_
      obtain rfl := some_eq h
      exact any_weak [(77, .bool false)] [0, 1, 2, 3] [ro b_1v 1 (b_1.map eB8), row v50 1 (r48.1.Effects.map (eInt .i64)), row v51 3 (r48.1.Code.map S_api_Instr.enc), box b52 [.string (bs r48.1.Name), v50, v51]] (by kernel_rfl) (qv1 rfl) (by decide) rfl (hL78 false rfl)
    rintro b74 hj
    obtain rfl : o75 = _ := hj
    replace h := after_go ho76
    clear ho76
    refine any_y 14 rfl (by kernel_rfl) (by kernel_rfl) (by kernel_rfl) (ss (ss (ss (ss (sn))))) (wn rfl) rfl (y_assign rfl) ?_
    refine any_nil (by kernel_rfl) ?_
    refine goes_code ?_
    refine run_ret ?_
    obtain rfl := some_eq h
    refine fin_slots [4] [.bool b74] [] [] Try.results5 rfl (by decide) rfl ?_
    exact ⟨rfl, rfl⟩

end Go.Proofs.Ytgjdaamkfpbgpaa
namespace Go.Proofs.Ytgjdaamkfpbgpaa
open Go.Abs
set_option linter.unusedVariables false
set_option linter.unusedSimpArgs false

theorem fewC (n : Nat) (m : S_api_Module) (hn : 300 < n) : ∃ b, ref28_Few n m 200 = some b ∧ (b = true → m.Code.length ≤ 200 ∧ m.Name.length ≤ 300 ∧ m.Effects.length ≤ 20 ∧ ∀ x ∈ m.Code, x.S.length ≤ 300) := by
  unfold ref28_Few
  obtain ⟨r, h1, h2⟩ := iter_inv (step := ref28_Few_L1 m 200) (fun s => ∃ k : Nat, s = k ∧ k ≤ 201 ∧ ∀ (j : Nat) (h : j < m.Code.length), j < k → m.Code[j].S.length ≤ 300) (fun s => 201 - s.toNat) (fun r => match r with | .go _ => m.Code.length ≤ 200 → ∀ (j : Nat) (h : j < m.Code.length), m.Code[j].S.length ≤ 300 | .stop b => b = false) (fun s ⟨k, hk, h201, hs⟩ => by
    subst hk
    unfold ref28_Few_L1
    by_cases hc : k < m.Code.length ∧ k ≤ 200
    · simp only [show (decide ((k : Int) < (m.Code.length : Int)) && decide ((k : Int) ≤ 200)) = true by simp; omega, cond_true]
      rw [idx_get' hc.1, w64 (by omega) (by omega)]
      by_cases h3 : 300 < m.Code[k].S.length
      · rw [show decide ((300 : Int) < (m.Code[k].S.length : Int)) = true by simp; omega]
        exact .inr ⟨_, rfl, rfl⟩
      · rw [show decide ((300 : Int) < (m.Code[k].S.length : Int)) = false by simp; omega]
        refine .inl ⟨_, rfl, ⟨k + 1, rfl, by omega, fun j hj hjk => ?_⟩, by simp; omega⟩
        by_cases hjk2 : j = k
        · subst hjk2; omega
        · exact hs j hj (by omega)
    · simp only [show (decide ((k : Int) < (m.Code.length : Int)) && decide ((k : Int) ≤ 200)) = false by simp; omega, cond_false]
      exact .inr ⟨_, rfl, fun hl j hj => hs j hj (by omega)⟩) n 0 ⟨0, rfl, by omega, fun j h h0 => by omega⟩ (by simp; omega)
  rw [h1]
  cases r with
  | stop b => exact ⟨b, rfl, fun h => by simp only at h2; simp [h2] at h⟩
  | go u =>
    refine ⟨_, rfl, fun h => ?_⟩
    simp at h
    simp only at h2
    refine ⟨by omega, by omega, by omega, fun x hx => ?_⟩
    obtain ⟨j, hj, rfl⟩ := List.getElem_of_mem hx
    exact h2 (by omega) j hj
theorem flat_mem {α : Type} {one : α → List UInt8} {v : α} : ∀ {l : List α}, v ∈ l → (one v).length ≤ (l.flatMap one).length
  | x :: l, h => by
    simp only [List.flatMap_cons, List.length_append]
    rcases List.mem_cons.1 h with rfl | h
    · omega
    · have := flat_mem (one := one) h; omega
theorem law5 (m : S_api_Module) (b : List UInt8) (hE : ∀ x ∈ m.Effects, R64 x) (hC : ∀ x ∈ m.Code, R64 x.Op ∧ R64 x.A) : ∃ n, law28_CompileCodes n m b = some true := by
  refine ⟨99800 + 200, ?_⟩
  have hs : law28_sanity (99800 + 200) = some true := sane _
  generalize hN : (99800 + 200 : Nat) = N at hs ⊢
  have hN' : N = 100000 := by omega
  clear hN
  unfold law28_CompileCodes
  obtain ⟨f, hf, hfew⟩ := fewC N m (by omega)
  simp only [hf, hs, obind, Option.bind_some]
  by_cases hb : f = true ∧ b.length ≤ 9000
  · obtain ⟨rfl, hb⟩ := hb
    obtain ⟨f1, f2, f3, f4⟩ := hfew rfl
    rw [show (!true || decide ((9000 : Int) < (b.length : Int))) = false by simp; omega]
    simp only [cond_false]
    have tT : ∀ v ∈ textsOf m, v.length ≤ 300 := by
      intro v hv
      rcases List.mem_cons.1 hv with rfl | hv
      · exact f2
      · obtain ⟨x, hx, rfl⟩ := List.mem_map.1 hv; exact f4 x hx
    have tN : ∀ v ∈ numsOf m, R64 v := by
      intro v hv
      obtain ⟨x, hx, hv⟩ := List.mem_flatMap.1 hv
      simp at hv
      rcases hv with rfl | rfl
      · exact (hC x hx).1
      · exact (hC x hx).2
    have l1 : (textsOf m).length = m.Code.length + 1 := by simp [textsOf]
    have l2 : (numsOf m).length = 2 * m.Code.length := nums_len _
    have s1 : ((textsOf m).flatMap encS).length ≤ 310 * (textsOf m).length := flat_max _ fun v hv => by have := encS_le (s := v) (by have := tT v hv; omega); have := tT v hv; omega
    have s2 : (m.Effects.flatMap encI).length ≤ 10 * m.Effects.length := flat_max _ fun v hv => (encI_len (hE v hv).1 (hE v hv).2).2
    have s3 : ((numsOf m).flatMap encI).length ≤ 10 * (numsOf m).length := flat_max _ fun v hv => (encI_len (tN v hv).1 (tN v hv).2).2
    have he := encode_ok (n := N) (m := m) (by omega) (by omega) (by omega) (by omega) (fun v hv => by have := tT v hv; omega) hE tN (by omega) (by omega) (by omega)
    have hel : (encM m).length < 70000 := by
      unfold encM encL
      have e1 := (encI_len (n := ((textsOf m).length : Int)) (by omega) (by omega)).2
      have e2 := (encI_len (n := (m.Effects.length : Int)) (by omega) (by omega)).2
      have e3 := (encI_len (n := ((numsOf m).length : Int)) (by omega) (by omega)).2
      simp only [List.length_append]; omega
    have hp := parts_enc m (by omega) (by omega) (fun v hv => by have := tT v hv; omega) hE tN
    have hd := decode_ok (n := N) (b := encM m) (by omega) (by omega)
    obtain ⟨r, hr, h0⟩ := checkE N m (by omega) (by omega) (fun x hx => (hC x hx).2) (by omega) (by omega)
    simp only [hp, hr, obind, Option.bind_some] at hd
    simp only [he, hd, hr, Option.bind_some]
    have hd2 := decode_ok (n := N) (b := b) (by omega) (by omega)
    have second : (obind (compile_Decode N b) fun r48 => cond (decide (r48.2 ≠ 0)) (some ((true && decide (r48.2 = 11)) && decide ((r48.1.Code.length : Int) = 0)))
        (bindJ (S := Bool) (cond true (obind (compile_Check N r48.1) fun r72 => some (.go (decide (r72 = 0)))) (some (.go false))) (fun b66 => bindJ (S := Bool) (cond b66 (obind (compile_Encode N r48.1) fun r80 => some (.go (decide (r80 = b)))) (some (.go false))) (fun b74 => some b74)))) = some true := by
      rw [hd2]
      cases hpb : parts b with
      | none => rfl
      | some y =>
        have hcan := parts_can hpb
        have hyl := encM_len y
        rw [hcan] at hyl
        obtain ⟨y1, y2⟩ := parts_rng hpb
        have yN : ∀ v ∈ numsOf y, R64 v := by
          intro v hv
          obtain ⟨x, hx, hv⟩ := List.mem_flatMap.1 hv
          simp at hv
          rcases hv with rfl | rfl
          · exact (y1 x hx).1
          · exact (y1 x hx).2
        obtain ⟨q, hq, q0⟩ := checkE N y (by omega) (by omega) (fun x hx => (y1 x hx).2) (by omega) (by omega)
        have hye := encode_ok (n := N) (m := y) (by omega) (by omega) (by omega) (by omega) (fun v hv => by
          have h1 : v.length ≤ (encS v).length := by unfold encS; simp
          have h2 : (encS v).length ≤ ((textsOf y).flatMap encS).length := flat_mem hv
          omega) y2 yN (by omega) (by omega) (by omega)
        rcases q0 with rfl | rfl
        · simp [hq, hye, hcan, obind]
        · simp [hq, obind]
    rcases h0 with rfl | rfl
    · simp only [decide_true, cond_true, ne_eq, not_true_eq_false, decide_false, cond_false, Option.bind_some]
      rw [same_v1 N m (by omega) (by omega) (by omega) (by omega)]
      simpa [obind] using second
    · simpa [obind] using second
  · have : (!f || decide ((9000 : Int) < (b.length : Int))) = true := by
      cases f
      · rfl
      · simp at hb ⊢; omega
    rw [this]; rfl
end Go.Proofs.Ytgjdaamkfpbgpaa
namespace Go.Abs
open Go.Sem Go.ChangeShapes Go.RowKit

/-- a law's contract, as the claim's frame wants it -/
theorem Meets.law {P : Program} {f : FuncId} {args : List Value} {H : List HA} (h : Meets P f args H (fun v G => v = .bool true ∧ G = [])) {w : World} (hs : Sats w (fun _ => .no) H) :
    Calls P f args.toArray w fun e w' => e = .returned (.bool true) ∧ Below w.heap.size w w' := by
  refine (h w (fun _ => .no) (fun _ _ => rfl) hs).mono fun e w' ⟨v, G, o', he, ⟨hv, _⟩, _, ht, _⟩ => ?_
  subst hv
  exact ⟨he, ht.os, ht.tape, ht.output, ht.size, fun k hk => (ht.no k hk rfl).2⟩

theorem cells_open {w : World} {a : Option Addr} {len cap es : Nat} {cells : List (List Value)} (hcl : cells.length = len) (h1 : len ≤ cap) (h2 : cap ≤ maxLen) (h3 : a = none → cap = 0) (hes : 0 < es)
    (he : ∀ c ∈ cells, c.length = es) (hc : ∀ x, a = some x → ∀ i c, cells[i]? = some c → ∀ j v, c[j]? = some v → w.cell? (x.add (i * es + j)) = some v) :
    SliceIs w (fun b => (fun _ => Ow.no : Own) b = .no) (.slice a len cap) es cells := by
  refine ⟨a, cap, by rw [hcl], by omega, h2, h3, ?_⟩
  intro i c hi
  have hlen := he c (List.mem_of_getElem? hi)
  cases a with
  | none =>
    have := (List.getElem?_eq_some_iff.1 hi).1
    have := h3 rfl
    omega
  | some x =>
    have e0 : c[0]? = some (c[0]'(by omega)) := List.getElem?_eq_getElem (by omega)
    have h := hc x rfl i c hi 0 _ e0
    have hs0 := World.cell?_spot h
    have hb : x.block < w.heap.size := by
      unfold World.cell? at h
      have e : (x.add (i * es + 0)).block = x.block := by unfold Addr.add; split <;> rfl
      rw [e] at h
      cases hh : w.heap[x.block]? with
      | none => rw [hh] at h; simp at h
      | some o => exact (Array.getElem?_eq_some_iff.1 hh).1
    obtain ⟨b, off, spot⟩ := x
    refine ⟨hlen, b, off, ?_, hb, rfl, ?_⟩
    · cases spot with
      | none => rfl
      | some q =>
        exfalso
        have hi0 : ∀ i c, cells[i]? = some c → i = 0 := by
          intro i c hi
          false_or_by_contra
          have hlen := he c (List.mem_of_getElem? hi)
          have hi00 : cells[0]? = some (cells[0]'(by have := (List.getElem?_eq_some_iff.1 hi).1; omega)) := List.getElem?_eq_getElem _
          have hl0 := he _ (List.mem_of_getElem? hi00)
          have h := hc _ rfl 0 _ hi00 0 _ (List.getElem?_eq_getElem (by omega))
          have := World.cell?_spot h
          simp [Addr.add] at this
        have := hi0 i c hi
        subst this
        simp [Addr.add] at hs0
    · intro j v hj
      have h' := hc _ rfl i c hi j v hj
      have hsp := World.cell?_spot h'
      rw [← h']
      congr 1
      unfold Addr.add at hsp ⊢
      split
      · rename_i h0
        rw [if_pos h0] at hsp
        simp only at hsp
        rw [hsp]
        have : off + i * es + j = off := by omega
        rw [this]
      · rw [Nat.add_assoc]
theorem slice_nil {w : World} {B : Nat → Prop} {es : Nat} : SliceIs w B (.slice none 0 0) es [] := ⟨none, 0, rfl, by simp, by unfold maxLen; omega, fun _ => rfl, fun i c h => by simp at h⟩
end Go.Abs
namespace Go.Abs
open Go.Sem Go.ChangeShapes Go.RowKit
end Go.Abs
namespace Go.Abs
open Go.Sem Go.ChangeShapes Go.RowKit
section
variable {H : Type} {enc : TypeId × Value → H} {P : Program} {w : World} {base : Nat} {sp : Nat → Bool} {held : Bool}
end
end Go.Abs
namespace Go.Abs
open Go.Sem Go.ChangeShapes Go.RowKit
section
variable {H : Type} {enc : TypeId × Value → H} {P : Program} {w : World} {base : Nat} {sp : Nat → Bool} {held : Bool}
def wfI (k : IntKind) (n : Int) : Prop := (Lit.int k n).wf = true
theorem wf64 {n : Int} (h : wfI .i64 n) : -9223372036854775808 ≤ n ∧ n ≤ 9223372036854775807 := by
  simp only [wfI, Lit.wf, Bool.and_eq_true, decide_eq_true_eq] at h; exact h
theorem wf8 {n : Int} (h : wfI .u8 n) : 0 ≤ n ∧ n ≤ 255 := by
  simp only [wfI, Lit.wf, Bool.and_eq_true, decide_eq_true_eq] at h; exact h
/-- a type is opened: what is read of it lies in the cells 'F a', and a is well formed -/
def Opens (enc : TypeId × Value → H) (P : Program) (w : World) (base : Nat) (sp : Nat → Bool) (held : Bool) (t : TypeId) {α : Type} (F : α → List Value) (wf : α → Prop) : Prop :=
  ∀ (fuel : Nat) (cs : List Value) (x : DataW H × List MemPlace), DataW.trod enc P w base sp held fuel t cs = some x → ∃ a, cs = F a ∧ wf a
theorem opn_int {t : TypeId} {k : IntKind} (ht : P.underlying t = some (.int k)) : Opens enc P w base sp held t (eInt k) (wfI k) := by
  intro fuel cs x h
  obtain ⟨n, hc, _, hw⟩ := DataW.trod_int ht h
  exact ⟨n, hc, hw⟩
/-- the elements of a slice that is opened -/
theorem opn_slice {t e : TypeId} {es : Nat} {α : Type} {F : α → List Value} {wf : α → Prop} (ht : P.underlying t = some (.slice e)) (hce : P.cellsOf e = es) (hes : 0 < es) (hF : ∀ a, (F a).length = es)
    (ho : Opens enc P w base sp held e F wf) {fuel : Nat} {cs : List Value} {x : DataW H × List MemPlace} (h : DataW.trod enc P w base sp held fuel t cs = some x) :
    ∃ (v : Value) (l : List α), cs = [v] ∧ (∀ a ∈ l, wf a) ∧ SliceIs w (fun b => (fun _ => Ow.no : Own) b = .no) v es (l.map F) ∧
      ((x = (.nil, []) ∧ l = []) ∨ ∃ ys rs ps, x = (.slice ys rs, ps) ∧ ys.length = l.length) := by
  rcases DataW.trod_slice ht h with ⟨rfl, hx⟩ | ⟨a, len, cap, elems, rest, m, _, rfl, rfl, hb, hl, hm, hlen, hel', hsp, hns⟩
  · exact ⟨_, [], rfl, by simp, slice_nil, .inl ⟨hx, rfl⟩⟩
  · have each : ∀ i, i < len → ∃ d : α, wf d ∧ ∀ j v, (F d)[j]? = some v → w.cell? (a.add (i * es + j)) = some v := by
      intro i hi
      have h1 := hel' i hi
      rw [List.getElem?_eq_getElem (by omega), hce, Option.bind_eq_some_iff] at h1
      obtain ⟨cs', hcs, hy⟩ := h1
      obtain ⟨d, rfl, hd⟩ := ho _ _ _ hy
      refine ⟨d, hd, fun j v hj => ?_⟩
      have hjlt : j < es := by have := (List.getElem?_eq_some_iff.1 hj).1; rw [hF] at this; omega
      have := (World.cells?_some hcs).2.2 j hjlt
      rw [hj] at this
      rw [← this]
      congr 1
      unfold Addr.add
      by_cases e1 : i * es = 0
      · rw [if_pos e1]; simp [e1]
      · rw [if_neg e1, if_neg (by omega)]
        by_cases e2 : j = 0
        · simp [e2]
        · rw [if_neg e2]; simp [Nat.add_assoc]
    have hch : ∃ l : List α, l.length = len ∧ ∀ i d, l[i]? = some d → wf d ∧ ∀ j v, (F d)[j]? = some v → w.cell? (a.add (i * es + j)) = some v := by
      clear hel' hlen hsp hns hl h
      induction len with
      | zero => exact ⟨[], rfl, by simp⟩
      | succ k ih =>
        obtain ⟨l, hl1, hl2⟩ := ih (fun i hi => each i (by omega))
        obtain ⟨d, hd1, hd2⟩ := each k (by omega)
        refine ⟨l ++ [d], by simp [hl1], fun i d' hi => ?_⟩
        by_cases hik : i < k
        · rw [List.getElem?_append_left (by omega)] at hi; exact hl2 i d' hi
        · rw [List.getElem?_append_right (by omega)] at hi
          have : i = k := by have := (List.getElem?_eq_some_iff.1 hi).1; simp at this; omega
          subst this
          rw [hl1, Nat.sub_self] at hi
          simp at hi
          subst hi
          exact ⟨hd1, hd2⟩
    obtain ⟨l, hl1, hl2⟩ := hch
    refine ⟨_, l, rfl, ?_, ?_, .inr ⟨_, _, _, rfl, by simp [hlen, hl1]⟩⟩
    · intro d hd
      obtain ⟨i, hi⟩ := List.getElem?_of_mem hd
      exact (hl2 i d hi).1
    · refine cells_open (by rw [List.length_map, hl1]) hl hm (by simp) hes ?_ ?_
      · intro c hc
        obtain ⟨d, hd, rfl⟩ := List.mem_map.1 hc
        exact hF d
      · intro x hx i c hi j v hj
        cases hx
        simp only [List.getElem?_map, Option.map_eq_some_iff] at hi
        obtain ⟨d, hd, rfl⟩ := hi
        exact (hl2 i d hd).2 j v hj
end
end Go.Abs
namespace Go.Abs
open Go.Sem Go.ChangeShapes Go.RowKit
section
variable {H : Type} {enc : TypeId × Value → H} {P : Program} {w : World} {base : Nat} {sp : Nat → Bool} {held : Bool}
theorem opn_str {t : TypeId} (ht : P.underlying t = some .string) : Opens enc P w base sp held t eStr (fun l => l.length ≤ maxLen) := by
  intro fuel cs x h
  obtain ⟨s, hc, _, hl⟩ := DataW.trod_string ht h
  exact ⟨s.data.toList, by rw [hc]; rfl, hl⟩
def noO : Own := fun _ => .no
def OpensN (enc : TypeId × Value → H) (P : Program) (w : World) (base : Nat) (sp : Nat → Bool) (held : Bool) (t : TypeId) {α : Type} (C : NC α) (wf : α → Prop) : Prop :=
  ∀ (fuel : Nat) (cs : List Value) (x : DataW H × List MemPlace), DataW.trod enc P w base sp held fuel t cs = some x → ∃ a g, cs = C.F a g ∧ wf a ∧ ∀ k, HsP (C.S a g) w noO k
theorem opn_leaf {t e : TypeId} {es : Nat} {α : Type} {F : α → List Value} {wf : α → Prop} (ht : P.underlying t = some (.slice e)) (hce : P.cellsOf e = es) (hes : 0 < es) (hF : ∀ a, (F a).length = es)
    (ho : Opens enc P w base sp held e F wf) {fuel : Nat} {cs : List Value} {x : DataW H × List MemPlace} (h : DataW.trod enc P w base sp held fuel t cs = some x) :
    ∃ (v : Value) (l : List α), cs = [v] ∧ (∀ a ∈ l, wf a) ∧ ∀ k, (ro v es (l.map F)).p w noO k := by
  obtain ⟨v, l, h1, h2, h3, _⟩ := opn_slice ht hce hes hF ho h
  exact ⟨v, l, h1, h2, fun _ => h3⟩
end
end Go.Abs
namespace Go.Proofs.Ytgjdaamkfpbgpaa
open Go.Abs
set_option linter.unusedVariables false
set_option linter.unusedSimpArgs false
set_option maxRecDepth 20000
set_option maxHeartbeats 4000000

open Go.Sem Go.ChangeShapes Go.RowKit
theorem opn_u8 {H : Type} {enc : TypeId × Value → H} {P : Program} {w : World} {base : Nat} {sp : Nat → Bool} {held : Bool} {t : TypeId} (ht : P.underlying t = some (.int .u8)) : Opens enc P w base sp held t eB8 (fun a => a = a) := by
  intro fuel cs x h
  obtain ⟨n, hc, _, hw⟩ := DataW.trod_int ht h
  exact ⟨n.toNat.toUInt8, by rw [hc, eB8_in (wf8 hw)], rfl⟩
def NC_api_Module_31 : NC S_api_Module where
  G := Value × Value
  es := 3
  F := fun x g => [.string (bs x.Name), g.1, g.2]
  S := fun x g => [ro g.1 1 (x.Effects.map (eInt .i64)), ro g.2 3 (x.Code.map S_api_Instr.enc)]
  free := by
    intro x g h hh
    simp only [List.mem_cons, List.not_mem_nil, or_false] at hh
    rcases hh with rfl | rfl <;> first | exact free_ro | exact free_nro
  ok := by
    intro x g w o k hh
    refine ⟨rfl, ?_⟩
    intro u hu
    simp only [List.mem_cons, List.not_mem_nil, or_false] at hu
    rcases hu with rfl | rfl | rfl <;> first | rfl | exact ro_one (hh _ (.head _)) | exact nro_one (hh _ (.head _)) | exact ro_one (hh _ (.tail _ (.head _))) | exact nro_one (hh _ (.tail _ (.head _)))

def S_api_Instr.wf (x : S_api_Instr) : Prop := wfI .i64 x.Op ∧ wfI .i64 x.A ∧ x.S.length ≤ maxLen
theorem S_api_Instr.opn {H : Type} {enc : TypeId × Value → H} {w : World} {base : Nat} {sp : Nat → Bool} {held : Bool} : Opens enc Try.prog w base sp held 55 S_api_Instr.enc S_api_Instr.wf := by
  intro fuel cs x h
  obtain ⟨xs, n, _, _, hl, hlen, hf⟩ := DataW.trod_struct Try.underlying55 h
  have hl' : cs.length = 3 := hl.trans (by kernel_rfl)
  have hx : xs.length = 3 := hlen
  have k3 : Try.prog.cellsOf 3 = 1 := by kernel_rfl
  have k9 : Try.prog.cellsOf 9 = 1 := by kernel_rfl
  match cs, hl' with
  | [c0, c1, c2], _ =>
    have f0 := hf 0 _ rfl
    rw [List.getElem?_eq_getElem (show 0 < xs.length by omega)] at f0
    obtain ⟨a0, e0, w0⟩ := (opn_int Try.underlying3) _ _ _ f0
    simp [k3, eInt, eStr, eBool] at e0
    have f1 := hf 1 _ rfl
    rw [List.getElem?_eq_getElem (show 1 < xs.length by omega)] at f1
    obtain ⟨a1, e1, w1⟩ := (opn_int Try.underlying3) _ _ _ f1
    simp [k3, eInt, eStr, eBool] at e1
    have f2 := hf 2 _ rfl
    rw [List.getElem?_eq_getElem (show 2 < xs.length by omega)] at f2
    obtain ⟨a2, e2, w2⟩ := (opn_str Try.underlying9) _ _ _ f2
    simp [k9, eInt, eStr, eBool] at e2
    exact ⟨⟨a0, a1, a2⟩, by simp [S_api_Instr.enc, e0, e1, e2], w0, w1, w2⟩
def S_api_Module.wf (x : S_api_Module) : Prop := x.Name.length ≤ maxLen ∧ (∀ a ∈ x.Effects, wfI .i64 a) ∧ (∀ a ∈ x.Code, S_api_Instr.wf a)
theorem S_api_Module.opnN {H : Type} {enc : TypeId × Value → H} {w : World} {base : Nat} {sp : Nat → Bool} {held : Bool} : OpensN enc Try.prog w base sp held 31 NC_api_Module_31 S_api_Module.wf := by
  intro fuel cs x h
  obtain ⟨xs, n, _, _, hl, hlen, hf⟩ := DataW.trod_struct Try.underlying31 h
  have hl' : cs.length = 3 := hl.trans (by kernel_rfl)
  have hx : xs.length = 3 := hlen
  have k9 : Try.prog.cellsOf 9 = 1 := by kernel_rfl
  have k22 : Try.prog.cellsOf 22 = 1 := by kernel_rfl
  have k29 : Try.prog.cellsOf 29 = 1 := by kernel_rfl
  match cs, hl' with
  | [c0, c1, c2], _ =>
    have f0 := hf 0 _ rfl
    rw [List.getElem?_eq_getElem (show 0 < xs.length by omega)] at f0
    obtain ⟨a0, e0, w0⟩ := (opn_str Try.underlying9) _ _ _ f0
    simp [k9, eInt, eStr, eBool] at e0
    have f1 := hf 1 _ rfl
    rw [List.getElem?_eq_getElem (show 1 < xs.length by omega)] at f1
    obtain ⟨v1, a1, e1, w1, s1⟩ := opn_leaf (es := 1) (F := (eInt .i64)) (wf := (fun a => wfI .i64 a)) Try.underlying22 (by kernel_rfl) (by decide) (fun a => ((eInt_ok _) a).1) (opn_int Try.underlying3) f1
    simp [k22, eInt, eStr, eBool] at e1
    have f2 := hf 2 _ rfl
    rw [List.getElem?_eq_getElem (show 2 < xs.length by omega)] at f2
    obtain ⟨v2, a2, e2, w2, s2⟩ := opn_leaf (es := 3) (F := S_api_Instr.enc) (wf := S_api_Instr.wf) Try.underlying29 (by kernel_rfl) (by decide) (fun a => (S_api_Instr.enc_ok a).1) S_api_Instr.opn f2
    simp [k29, eInt, eStr, eBool] at e2
    refine ⟨⟨a0, a1, a2⟩, (v1, v2), by simp [NC_api_Module_31, e0, e1, e2], ⟨w0, w1, w2⟩, fun k h hh => ?_⟩
    simp only [NC_api_Module_31, List.mem_cons, List.not_mem_nil, or_false] at hh
    rcases hh with rfl | rfl
    · exact s1 k
    · exact s2 k

end Go.Proofs.Ytgjdaamkfpbgpaa
