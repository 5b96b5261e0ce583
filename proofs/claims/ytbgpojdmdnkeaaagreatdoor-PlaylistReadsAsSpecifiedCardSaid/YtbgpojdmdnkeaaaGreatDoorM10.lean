/-
  Texts that stand side by side: Pq, W4, Pr, AbsEnd, AbsEnd2, AbsEnd3, AbsEnd4, AbsEnd5, AbsLaid, Opn, P4, LaidZ.
-/
import Derived.Test.YtbgpojdmdnkeaaaGreatDoorM8
import Derived.Test.YtbgpojdmdnkeaaaGreatDoorG4a
import Derived.Test.YtbgpojdmdnkeaaaGreatDoorM0
import Derived.WalkKit
import Derived.ProofKit
import Derived.OpenShut
import Derived.ShutString
import Derived.ChangeOld
import Derived.Below
import Derived.SliceStrings
import Derived.Test.YtbgpojdmdnkeaaaGreatDoorM1
import Derived.ChangeArms
import Derived.Test.YtbgpojdmdnkeaaaGreatDoorM2
import Derived.LaidHandle
import Derived.Deep.DeepHandedRow
import Derived.Test.YtbgpojdmdnkeaaaGreatDoorFe
import Derived.Test.YtbgpojdmdnkeaaaGreatDoorRows
import Derived.Test.YtbgpojdmdnkeaaaGreatDoorChecked
namespace Go.Proofs.YtbgpojdmdnkeaaaGreatDoor
open Go.Abs
set_option linter.unusedSimpArgs false
set_option linter.unusedVariables false
theorem decF_succ (m w : Nat) : decF (m + 1) w = if w < 10 then [UInt8.ofNat (48 + w)] else decF m (w / 10) ++ [UInt8.ofNat (48 + w % 10)] := by rw [decF]
theorem decF_more : ∀ k u, u < 10 ^ k → 0 < k → decF (k + 1) u = decF k u
  | 0, u, _, h => by omega
  | k + 1, u, h, _ => by
    rw [decF_succ (k + 1) u, decF_succ k u]
    by_cases hu : u < 10
    · rw [if_pos hu, if_pos hu]
    · rw [if_neg hu, if_neg hu]
      have hk : 0 < k := by
        rcases Nat.eq_zero_or_pos k with rfl | h'
        · simp at h; omega
        · exact h'
      rw [decF_more k (u / 10) (by rw [Nat.pow_succ] at h; omega) hk]
theorem itoa_step {v : Int} (h : 10 ≤ v) (h1 : v ≤ 9223372036854775807) : itoaP v = itoaP (v.tdiv 10) ++ [UInt8.ofNat (48 + (v.tmod 10).toNat)] := by
  obtain ⟨m, rfl⟩ : ∃ m : Nat, v = m := ⟨v.toNat, by omega⟩
  have e1 : (m : Int).tdiv 10 = ((m / 10 : Nat) : Int) := rfl
  have e2 : (m : Int).tmod 10 = ((m % 10 : Nat) : Int) := rfl
  unfold itoaP
  rw [e1, e2, if_neg (by omega), if_neg (by omega), Int.toNat_natCast, Int.toNat_natCast, Int.toNat_natCast, decF_succ 19 m, if_neg (by omega)]
  rw [decF_more 19 (m / 10) (Nat.lt_of_le_of_lt (show m / 10 ≤ 922337203685477580 by omega) (by decide)) (by omega)]
theorem itoa_small {v : Int} (h0 : 0 ≤ v) (h : v < 10) : itoaP v = [UInt8.ofNat (48 + v.toNat)] := by
  unfold itoaP
  rw [if_neg (by omega), decF_succ, if_pos (by omega)]
theorem dec_byte {d : Int} (h0 : 0 ≤ d) (h : d < 10) : ((IntKind.u8.wrap (IntKind.i64.wrap (48 + d)))).toNat.toUInt8 = UInt8.ofNat (48 + d.toNat) := by
  rw [w64 (by omega) (by omega), w8 (by omega) (by omega), show (48 + d).toNat = 48 + d.toNat by omega]
theorem tens {m : Int} (h : 0 ≤ m) : 0 ≤ m.tmod 10 ∧ m.tmod 10 < 10 ∧ 0 ≤ m.tdiv 10 ∧ m.tdiv 10 ≤ m := by
  obtain ⟨k, rfl⟩ : ∃ k : Nat, m = k := ⟨m.toNat, by omega⟩
  have e1 : (k : Int).tdiv 10 = ((k / 10 : Nat) : Int) := rfl
  have e2 : (k : Int).tmod 10 = ((k % 10 : Nat) : Int) := rfl
  rw [e1, e2]
  omega
theorem rdecimal_eq (v : Int) (h0 : 0 ≤ v) (h1 : v ≤ 9223372036854775807) (n : Nat) (hn : 30 < n) : ref43_decimal n v = some (itoaP v) := by
  unfold ref43_decimal
  obtain ⟨r, e, m, out, rfl, q0, q1, q2, q3⟩ := iter_inv (step := ref43_decimal_L1) (fun s => 0 ≤ s.1 ∧ s.1 ≤ 9223372036854775807 ∧ itoaP s.1 ++ s.2 = itoaP v) (fun s => (itoaP s.1).length)
    (fun r => ∃ m out, r = .go (m, out) ∧ 0 ≤ m ∧ m < 10 ∧ itoaP m ++ out = itoaP v ∧ out.length ≤ 21) (by
    rintro ⟨m, out⟩ ⟨a, b, c⟩
    simp only at a b c
    have hlen := itoaP_len v
    rw [← c, List.length_append] at hlen
    unfold ref43_decimal_L1
    by_cases h : 10 ≤ m
    · have st := itoa_step h b
      obtain ⟨t1, t2, t3, t4⟩ := tens a
      simp only
      rw [decide_eq_true h, cond_true, dec_byte t1 t2, need_pos (by simp; omega), w64 (by omega) (by omega)]
      refine .inl ⟨_, rfl, ⟨t3, by simp only; omega, ?_⟩, ?_⟩
      · simp only
        rw [← c, st]; simp
      · simp only
        rw [st]; simp
    · simp only
      rw [decide_eq_false h, cond_false]
      exact .inr ⟨_, rfl, m, out, rfl, a, by omega, c, by omega⟩) n (v, []) ⟨h0, h1, by simp⟩ (by have := itoaP_len v; simp only; omega)
  rw [e]
  simp only [bindJ_go]
  rw [dec_byte q0 q1, need_pos (by simp; omega), ← q2, itoa_small q0 q1]
theorem rdigit_all : ∀ a : Fin 16, ref43_digit ((a.val : Nat) : Int) = some [hexd a.val] := by decide +kernel
theorem rdigit_eq {a : Nat} (h : a < 16) : ref43_digit (a : Int) = some [hexd a] := rdigit_all ⟨a, h⟩
theorem rhex_eq {d : S_api_Digest} (hd : okDig d) (n : Nat) (hn : 16 < n) : ref43_hex n d = some (hexP d.toL) := by
  unfold ref43_hex
  have h16 : d.toL.length = 16 := rfl
  obtain ⟨r, e, rfl⟩ := iter_inv (step := ref43_hex_L1 d) (fun s => ∃ i : Nat, s = (hexP (d.toL.take i), (i : Int)) ∧ i ≤ 16) (fun s => 16 - s.2.toNat) (fun r => r = .go (hexP d.toL)) (by
    rintro s ⟨i, rfl, hi⟩
    unfold ref43_hex_L1
    by_cases hlt : i < 16
    · simp only
      have hg : S_api_Digest.get d (i : Int) = d.toL[i]'(by omega) := by
        unfold S_api_Digest.get
        rw [Int.toNat_natCast, List.getElem?_eq_getElem (by omega)]; rfl
      have hb := hd _ (List.getElem_mem (show i < d.toL.length by omega))
      have ht : hexP (d.toL.take (i + 1)) = hexP (d.toL.take i) ++ [hexd ((d.toL[i]'(by omega)).toNat / 16), hexd ((d.toL[i]'(by omega)).toNat % 16)] := by
        rw [← List.take_append_getElem (show i < d.toL.length by omega)]
        unfold hexP
        rw [List.flatMap_append]
        simp
      have hl : (hexP (d.toL.take i)).length ≤ 32 := by rw [hexP_len, List.length_take]; omega
      rw [decide_eq_true (by omega), cond_true, need_pos (by omega), hg]
      generalize d.toL[i]'(by omega) = b at hb ht
      obtain ⟨m, rfl⟩ : ∃ m : Nat, b = m := ⟨b.toNat, by omega⟩
      have e1 : (m : Int).tdiv 16 = ((m / 16 : Nat) : Int) := rfl
      have e2 : (m : Int).tmod 16 = ((m % 16 : Nat) : Int) := rfl
      simp only [obind, Option.bind_some]
      rw [need_pos (by omega), w64 (x := (m : Int)) (by omega) (by omega), e1, e2, w64 (by omega) (by omega), rdigit_eq (by omega), rdigit_eq (by omega)]
      simp only [Option.bind_some]
      rw [need_pos (by simp; omega), need_pos (by simp; omega), w64 (by omega) (by omega)]
      refine .inl ⟨_, rfl, ⟨i + 1, ?_, by omega⟩, by simp; omega⟩
      rw [ht]
      simp
    · obtain rfl : i = 16 := by omega
      exact .inr ⟨.go (hexP d.toL), rfl, rfl⟩) n ([], 0) ⟨0, rfl, by omega⟩ (by simpa using hn)
  rw [e]
  rfl
theorem rsplit_eq (s : List UInt8) (hs : s.length ≤ 1000000) (c : UInt8) (n : Nat) (hn : s.length < n) : ref43_split n s ((c.toNat : Nat) : Int) = some (splitP c s) := by
  unfold ref43_split
  obtain ⟨r, e, out, f, rfl, q1, q2, q3, q4⟩ := iter_inv (step := ref43_split_L1 s ((c.toNat : Nat) : Int)) (fun q => ∃ (out : List (List UInt8)) (f i : Nat), q = (out, (f : Int), (i : Int)) ∧ f ≤ i ∧ i ≤ s.length ∧ c ∉ (s.take i).drop f ∧ out ++ splitP c (s.drop f) = splitP c s ∧ out.length ≤ i) (fun q => s.length - q.2.2.toNat)
    (fun r => ∃ (out : List (List UInt8)) (f : Nat), r = .go (out, (f : Int)) ∧ f ≤ s.length ∧ c ∉ s.drop f ∧ out ++ splitP c (s.drop f) = splitP c s ∧ out.length ≤ s.length) (by
    rintro q ⟨out, f, i, rfl, hf, hi, hc, ho, hl⟩
    unfold ref43_split_L1
    simp only
    by_cases hlt : i < s.length
    · rw [decide_eq_true (by omega), cond_true, idx_get' hlt]
      have hdrop : s.drop f = (s.take i).drop f ++ s[i] :: s.drop (i + 1) := by
        have e1 : s = s.take i ++ s[i] :: s.drop (i + 1) := by rw [List.getElem_cons_drop, List.take_append_drop]
        conv => lhs; rw [e1]
        rw [List.drop_append_of_le_length (by simp; omega)]
      by_cases h : s[i] = c
      · rw [h] at hdrop
        have hsp := split_app c _ (s.drop (i + 1)) hc
        rw [← hdrop] at hsp
        rw [decide_eq_true (by rw [h]), cond_true, need_pos (by omega), need_pos (by simp; omega), w64 (by omega) (by omega), bindJ_go]
        refine .inl ⟨_, rfl, ⟨_, i + 1, i + 1, rfl, by omega, by omega, ?_, ?_, by simp; omega⟩, by simp; omega⟩
        · simp [List.drop_take]
        · rw [← ho, hsp]
          simp
      · rw [decide_eq_false (fun q => h (UInt8.toNat_inj.1 (by omega))), cond_false, bindJ_go, w64 (by omega) (by omega)]
        refine .inl ⟨_, rfl, ⟨out, f, i + 1, rfl, by omega, by omega, ?_, ho, by omega⟩, by simp; omega⟩
        rw [← List.take_append_getElem hlt, List.drop_append_of_le_length (by simp; omega)]
        intro q
        rcases List.mem_append.1 q with q | q
        · exact hc q
        · exact h (List.mem_singleton.1 q).symm
    · obtain rfl : i = s.length := by omega
      rw [decide_eq_false (by omega), cond_false]
      refine .inr ⟨_, rfl, out, f, rfl, hf, ?_, ho, hl⟩
      rwa [List.take_length] at hc) n ([], 0, 0) ⟨[], 0, 0, rfl, by omega, by omega, by simp, by simp, by simp⟩ (by simpa using hn)
  rw [e]
  simp only [bindJ_go]
  rw [need_pos (by omega), need_pos (by simp; omega), ← q3, Int.toNat_natCast, split_one c _ q2]
/-- the value of digits -/
def dval (a : Nat) (l : List UInt8) : Nat := l.foldl (fun a b => 10 * a + (b.toNat - 48)) a
theorem dval_app (a : Nat) (x y : List UInt8) : dval a (x ++ y) = dval (dval a x) y := by unfold dval; rw [List.foldl_append]
theorem dval_le : ∀ (l : List UInt8) (a : Nat), a ≤ dval a l
  | [], a => Nat.le_refl _
  | b :: r, a => by
    have := dval_le r (10 * a + (b.toNat - 48))
    unfold dval at this ⊢
    rw [List.foldl_cons]
    omega
theorem dval_dec : ∀ (k u : Nat), u < 10 ^ k → 0 < k → dval 0 (decF k u) = u
  | 0, u, _, h => by omega
  | k + 1, u, h, _ => by
    rw [decF_succ]
    by_cases hu : u < 10
    · have := dig_nat' hu
      rw [if_pos hu]
      simp only [dval, List.foldl_cons, List.foldl_nil]
      omega
    · have := dig_nat' (show u % 10 < 10 by omega)
      have hk : 0 < k := by
        rcases Nat.eq_zero_or_pos k with rfl | h'
        · simp at h; omega
        · exact h'
      rw [if_neg hu, dval_app, dval_dec k (u / 10) (by rw [Nat.pow_succ] at h; omega) hk]
      simp only [dval, List.foldl_cons, List.foldl_nil]
      omega
theorem dval_itoa {v : Int} (h0 : 0 ≤ v) (h1 : v ≤ 9223372036854775807) : ((dval 0 (itoaP v) : Nat) : Int) = v := by
  unfold itoaP
  rw [if_neg (by omega), dval_dec 20 v.toNat (Nat.lt_of_le_of_lt (show v.toNat ≤ 9223372036854775807 by omega) (by decide)) (by omega)]
  omega
theorem rnumber_eq (s : List UInt8) (hs : s.length ≤ 1000000) (n : Nat) (hn : s.length < n) (h30 : 30 < n) :
    ∃ r, ref43_number n s = some r ∧ -1 ≤ r ∧ r ≤ 1152921504606846976 ∧ (∀ v, 0 ≤ v → v ≤ 1099511627776 → itoaP v = s → r = v) ∧ (0 ≤ r → itoaP r = s) := by
  unfold ref43_number
  obtain ⟨r, e, h⟩ := iter_inv (step := ref43_number_L1 s) (fun q => ∃ i : Nat, q = (((dval 0 (s.take i) : Nat) : Int), (i : Int)) ∧ i ≤ s.length ∧ dval 0 (s.take i) ≤ 11258999068426240) (fun q => s.length - q.2.toNat)
    (fun r => (r = .go ((dval 0 s : Nat) : Int) ∧ dval 0 s ≤ 11258999068426240) ∨ (r = .stop (-1) ∧ ∀ v, 0 ≤ v → v ≤ 1099511627776 → itoaP v ≠ s)) (by
    rintro q ⟨i, rfl, hi, hd⟩
    unfold ref43_number_L1
    simp only
    by_cases hlt : i < s.length
    · rw [decide_eq_true (by omega), cond_true, idx_get' hlt]
      have hc : bindJ (S := Bool) (R := Lp (Int × Int) (Lp Int Int)) (cond (decide ((s[i].toNat : Int) < 48)) (some (.go true)) (idx s (i : Int) fun c20 => some (.go (decide (57 < (c20.toNat : Int)))))) = fun k => k (decide (¬ (48 ≤ s[i].toNat ∧ s[i].toNat ≤ 57))) := by
        funext k
        by_cases h1 : s[i].toNat < 48
        · rw [decide_eq_true (show ((s[i].toNat : Nat) : Int) < 48 by omega), cond_true, decide_eq_true (show ¬ (48 ≤ s[i].toNat ∧ s[i].toNat ≤ 57) by omega)]; rfl
        · rw [decide_eq_false (show ¬ ((s[i].toNat : Nat) : Int) < 48 by omega), cond_false, idx_get' hlt, bindJ_go]
          congr 1
          rw [Bool.eq_iff_iff]
          simp only [decide_eq_true_eq]
          omega
      rw [hc]
      simp only
      have hpre : ∀ v, 0 ≤ v → v ≤ 1099511627776 → itoaP v = s → dval 0 (s.take i) ≤ 1099511627776 := by
        intro v a b c
        have h1 := dval_itoa a (by omega)
        rw [c, ← List.take_append_drop i s, dval_app] at h1
        have := dval_le (s.drop i) (dval 0 (s.take i))
        omega
      by_cases hg : 48 ≤ s[i].toNat ∧ s[i].toNat ≤ 57
      · rw [decide_eq_false (show ¬ ¬ (48 ≤ s[i].toNat ∧ s[i].toNat ≤ 57) from fun h => h hg), Bool.false_or]
        by_cases hb : 1125899906842624 ≤ dval 0 (s.take i)
        · rw [decide_eq_true (by omega), cond_true]
          refine .inr ⟨_, rfl, .inr ⟨rfl, fun v a b c => ?_⟩⟩
          have := hpre v a b c
          omega
        · rw [decide_eq_false (by omega), cond_false, idx_get' hlt, w8 (by omega) (by omega), w64 (x := 10 * ((dval 0 (s.take i) : Nat) : Int)) (by omega) (by omega), w64 (x := ((s[i].toNat : Nat) : Int) - 48) (by omega) (by omega), w64 (by omega) (by omega), w64 (by omega) (by omega)]
          have hv : dval 0 (s.take (i + 1)) = 10 * dval 0 (s.take i) + (s[i].toNat - 48) := by
            rw [← List.take_append_getElem hlt, dval_app]; rfl
          refine .inl ⟨_, rfl, ⟨i + 1, ?_, by omega, by omega⟩, by simp; omega⟩
          rw [hv]
          congr 1
          omega
      · rw [decide_eq_true (show ¬ (48 ≤ s[i].toNat ∧ s[i].toNat ≤ 57) from hg), Bool.true_or, cond_true]
        refine .inr ⟨_, rfl, .inr ⟨rfl, fun v a b c => ?_⟩⟩
        subst c
        exact hg (itoaP_dig a _ (List.getElem_mem hlt))
    · obtain rfl : i = s.length := by omega
      rw [decide_eq_false (by omega), cond_false, List.take_length] at *
      exact .inr ⟨_, rfl, .inl ⟨rfl, hd⟩⟩) n (0, 0) ⟨0, rfl, by omega, by simp [dval]⟩ (by simpa using hn)
  rw [e]
  rcases h with ⟨rfl, h⟩ | ⟨rfl, h⟩
  · simp only [bindJ_go]
    rw [rdecimal_eq _ (by omega) (by omega) n h30]
    simp only [obind, Option.bind_some]
    by_cases he : itoaP ((dval 0 s : Nat) : Int) = s
    · rw [decide_eq_true he]
      refine ⟨_, rfl, by omega, by omega, fun v a b c => ?_, fun _ => he⟩
      have h1 := dval_itoa a (by omega)
      rw [c] at h1
      exact h1
    · rw [decide_eq_false he]
      refine ⟨_, rfl, by omega, by omega, fun v a b c => ?_, fun q => by omega⟩
      have h1 := dval_itoa a (by omega)
      rw [c] at h1
      rw [h1] at he
      exact absurd c he
  · exact ⟨-1, rfl, by omega, by omega, fun v a b c => absurd c (h v a b), fun q => by omega⟩
theorem rvalue_all : ∀ a : Fin 256, ref43_value ((a.val : Nat) : Int) = some (idxP digs (UInt8.ofNat a.val)) := by decide +kernel
theorem rvalue_eq (c : UInt8) : ref43_value ((c.toNat : Nat) : Int) = some (idxP digs c) := by
  have := rvalue_all ⟨c.toNat, c.toNat_lt⟩
  simpa using this
def badSeg : S_api_Segment := ⟨0, -1, 0, ⟨0, 0, 0, 0, 0, 0, 0, 0, 0, 0, 0, 0, 0, 0, 0, 0⟩, 0⟩
theorem rseg_loop (r2 : List (List UInt8)) (x : List UInt8) (hr : r2[3]? = some x) (hx : x.length = 32) (n : Nat) (hn : 16 < n) :
    ∃ r, iter (ref43_line_L1 r2) n (0, 0, 0, 0, 0, 0, 0, 0, 0, 0, 0, 0, 0, 0, 0, 0, 0) = some r ∧
      ((∃ d, r = .go (tupD d) ∧ (∀ j, j < 16 → good x j) ∧ d.toL = (List.range 16).map (val x)) ∨ (r = .stop badSeg ∧ ∃ j, j < 16 ∧ ¬ good x j)) := by
  refine iter_inv (step := ref43_line_L1 r2) (fun s => ∃ (i : Nat) (d : S_api_Digest), s = tupS i d ∧ i ≤ 16 ∧ (∀ j, j < i → good x j) ∧ d.toL = (List.range 16).map fun j => if j < i then val x j else 0) (fun s => 16 - s.1.toNat) _ ?_ n _ ⟨0, ⟨0, 0, 0, 0, 0, 0, 0, 0, 0, 0, 0, 0, 0, 0, 0, 0⟩, rfl, by omega, fun j hj => by omega, rfl⟩ (by simpa using hn)
  rintro s ⟨i, d, rfl, hi, hg, hd⟩
  by_cases hlt : i < 16
  · have e : decide ((i : Int) < 16) = true := by simp; omega
    have c1 : x[2 * i]? = some (chr x (2 * i)) := by unfold chr; rw [List.getElem?_eq_getElem (by omega)]; rfl
    have c2 : x[2 * i + 1]? = some (chr x (2 * i + 1)) := by unfold chr; rw [List.getElem?_eq_getElem (by omega)]; rfl
    have l1 := idxP_lt (chr x (2 * i)); have l2 := idxP_lt (chr x (2 * i + 1))
    unfold ref43_line_L1 tupS
    simp only [e, cond_true]
    rw [show (3 : Int) = ((3 : Nat) : Int) from rfl, idx_get hr, w64 (x := 2 * (i : Int)) (by omega) (by omega), show 2 * (i : Int) = ((2 * i : Nat) : Int) by omega, idx_get c1,
      w64 (x := ((2 * i : Nat) : Int) + 1) (by omega) (by omega), show ((2 * i : Nat) : Int) + 1 = ((2 * i + 1 : Nat) : Int) by omega, rvalue_eq]
    simp only [obind, Option.bind_some]
    rw [idx_get c2, rvalue_eq]
    simp only [Option.bind_some]
    by_cases hk : good x i
    · left
      obtain ⟨k1, k2⟩ := hk
      have e1 : (decide (idxP digs (chr x (2 * i)) < 0) || decide (idxP digs (chr x (2 * i + 1)) < 0)) = false := by rw [Bool.eq_false_iff]; intro h; simp only [Bool.or_eq_true, decide_eq_true_eq] at h; omega
      rw [w64 (x := 16 * idxP digs (chr x (2 * i))) (by omega) (by omega), w64 (x := 16 * idxP digs (chr x (2 * i)) + idxP digs (chr x (2 * i + 1))) (by omega) (by omega), w8 (x := 16 * idxP digs (chr x (2 * i)) + idxP digs (chr x (2 * i + 1))) (by omega) (by omega)]
      simp only [e1, cond_false]
      rw [need_pos (by omega), w64 (x := (i : Int) + 1) (by omega) (by omega)]
      refine ⟨_, rfl, ⟨i + 1, S_api_Digest.put d (i : Int) (val x i), rfl, by omega, fun j hj => ?_, ?_⟩, ?_⟩
      · by_cases e : j = i
        · subst e; exact ⟨k1, k2⟩
        · exact hg j (by omega)
      · rw [S_api_Digest.put_toL, hd, Int.toNat_natCast]
        apply List.ext_getElem
        · simp
        · intro j h1 h2
          simp at h1
          rw [List.getElem_set]
          by_cases e : i = j
          · subst e; simp
          · simp [e]; by_cases h3 : j < i
            · simp [h3, show j < i + 1 by omega]
            · simp [h3, show ¬ j < i + 1 by omega]
      · simp; omega
    · right
      have e1 : (decide (idxP digs (chr x (2 * i)) < 0) || decide (idxP digs (chr x (2 * i + 1)) < 0)) = true := by
        simp only [Bool.or_eq_true, decide_eq_true_eq]
        unfold good at hk
        omega
      refine ⟨.stop badSeg, ?_, .inr ⟨rfl, i, hlt, hk⟩⟩
      simp only [e1, cond_true]
      rfl
  · have e : decide ((i : Int) < 16) = false := by simp; omega
    obtain rfl : i = 16 := by omega
    right
    refine ⟨.go (tupD d), by unfold ref43_line_L1 tupS; simp only [e, cond_false]; rfl, .inl ⟨d, rfl, hg, ?_⟩⟩
    rw [hd]
    exact List.map_congr_left fun j hj => by simp at hj; simp [hj]
theorem split_line {z : S_api_Segment} (h : okSeg z) (hd : okDig z.Body) : splitP 32 (lineP z) = [itoaP z.Begin, itoaP z.Len, itoaP z.Size, hexP z.Body.toL] := by
  unfold okSeg at h
  unfold lineP
  rw [split_app 32 _ _ (fun q => (dig_ne (itoaP_dig (by omega) _ q)).2 rfl), split_app 32 _ _ (fun q => (dig_ne (itoaP_dig (by omega) _ q)).2 rfl), split_app 32 _ _ (fun q => (dig_ne (itoaP_dig (by omega) _ q)).2 rfl),
    split_one 32 _ (fun q => (hexP_no _ hd _ q).2 rfl)]
theorem split4_back {x a b c d : List UInt8} (h : splitP 32 x = [a, b, c, d]) : a ++ 32 :: (b ++ 32 :: (c ++ 32 :: d)) = x := by
  have hb := split_back 32 x
  simp only [h] at hb
  simpa using hb
theorem rline_eq (x : List UInt8) (hx : x.length ≤ 1000000) (n : Nat) (hn : x.length + 100 < n) :
    ∃ y, ref43_line n x = some y ∧ (∀ z, okSeg z → okDig z.Body → lineP z = x → y = ⟨0, z.Begin, z.Len, z.Body, z.Size⟩) ∧ (0 ≤ y.Begin → 0 ≤ y.Len → 0 ≤ y.Size → lineP y = x ∧ okDig y.Body) := by
  unfold ref43_line
  have hm := split_mem 32 x
  have hsl := fun z (a : okSeg z) (b : okDig z.Body) => split_line a b
  have hsp := rsplit_eq x hx 32 n (by omega)
  rw [show (((32 : UInt8).toNat : Nat) : Int) = 32 from rfl] at hsp
  rw [hsp]
  simp only [obind, Option.bind_some]
  have bad : (¬ ∃ a b c d, splitP 32 x = [a, b, c, d] ∧ d.length = 32) → ∃ y, some (S_api_Segment.mk 0 (-1) 0 (S_api_Digest.mk 0 0 0 0 0 0 0 0 0 0 0 0 0 0 0 0) 0) = some y ∧ (∀ z, okSeg z → okDig z.Body → lineP z = x → y = ⟨0, z.Begin, z.Len, z.Body, z.Size⟩) ∧ (0 ≤ y.Begin → 0 ≤ y.Len → 0 ≤ y.Size → lineP y = x ∧ okDig y.Body) := by
    intro h
    refine ⟨_, rfl, fun z a b c => absurd ?_ h, fun q => by simp at q⟩
    exact ⟨_, _, _, _, by rw [← c, split_line a b], by rw [hexP_len]; rfl⟩
  have hs := fun a b c d => split4_back (x := x) (a := a) (b := b) (c := c) (d := d)
  generalize hl : splitP 32 x = l at hm bad hs
  match l, hm, hs, bad, hl with
  | [], hm, hs, bad, hl => exact absurd hl (splitP_ne 32 x)
  | [a], hm, hs, bad, hl => exact bad (by rintro ⟨_, _, _, _, h, _⟩; simp at h)
  | [a, b], hm, hs, bad, hl => exact bad (by rintro ⟨_, _, _, _, h, _⟩; simp at h)
  | [a, b, c], hm, hs, bad, hl => exact bad (by rintro ⟨_, _, _, _, h, _⟩; simp at h)
  | a :: b :: c :: d :: e :: r, hm, hs, bad, hl =>
    have e4 : decide ((((a :: b :: c :: d :: e :: r).length : Nat) : Int) ≠ 4) = true := decide_eq_true (by simp; omega)
    rw [e4]
    exact bad (by rintro ⟨_, _, _, _, h, _⟩; simp at h)
  | [a, b, c, d], hm, hs, bad, hl =>
    have e4 : decide ((([a, b, c, d].length : Nat) : Int) ≠ 4) = false := rfl
    rw [e4, cond_false]
    have i3 : ∀ {β : Type} (k : List UInt8 → Option β), idx [a, b, c, d] 3 k = k d := fun k => rfl
    have i0 : ∀ {β : Type} (k : List UInt8 → Option β), idx [a, b, c, d] 0 k = k a := fun k => rfl
    have i1 : ∀ {β : Type} (k : List UInt8 → Option β), idx [a, b, c, d] 1 k = k b := fun k => rfl
    have i2 : ∀ {β : Type} (k : List UInt8 → Option β), idx [a, b, c, d] 2 k = k c := fun k => rfl
    rw [i3, bindJ_go]
    by_cases h32 : d.length = 32
    · rw [decide_eq_false (show ¬ ((d.length : Nat) : Int) ≠ 32 by omega), cond_false, i0]
      have la := hm a (by simp); have lb := hm b (by simp); have lc := hm c (by simp)
      obtain ⟨va, ea, a1, a2, a3, a4⟩ := rnumber_eq a (by omega) n (by omega) (by omega)
      obtain ⟨vb, eb, b1, b2, b3, b4⟩ := rnumber_eq b (by omega) n (by omega) (by omega)
      obtain ⟨vc, ec, c1, c2, c3, c4⟩ := rnumber_eq c (by omega) n (by omega) (by omega)
      obtain ⟨q, eq, h⟩ := rseg_loop [a, b, c, d] d rfl h32 n (by omega)
      rw [ea]
      simp only [obind, Option.bind_some]
      rw [i1, eb]
      simp only [obind, Option.bind_some]
      rw [i2, ec]
      simp only [obind, Option.bind_some]
      rw [eq]
      have sp : ∀ z, okSeg z → okDig z.Body → lineP z = x → a = itoaP z.Begin ∧ b = itoaP z.Len ∧ c = itoaP z.Size ∧ d = hexP z.Body.toL := by
        intro z h1 h2 h3
        have := split_line h1 h2
        rw [h3, hl] at this
        simpa using this
      rcases h with ⟨dg, rfl, hg, hd⟩ | ⟨rfl, j, hj, hg⟩
      · have hI := hexI_eq hd
        have hall := allgood_iff.2 hg
        refine ⟨⟨0, va, vb, dg, vc⟩, rfl, fun z h1 h2 h3 => ?_, fun p1 p2 p3 => ?_⟩
        · obtain ⟨s1, s2, s3, s4⟩ := sp z h1 h2 h3
          unfold okSeg at h1
          rw [a3 z.Begin (by omega) (by omega) s1.symm, b3 z.Len (by omega) (by omega) s2.symm, c3 z.Size (by omega) (by omega) s3.symm, hI, s4, hexI_hexP h2]
        · simp only at p1 p2 p3
          subst hI
          refine ⟨?_, okDig_hexI hall⟩
          unfold lineP
          simp only
          rw [a4 p1, b4 p2, c4 p3, hexP_hexI h32 hall, hs a b c d rfl]
      · refine ⟨badSeg, rfl, fun z h1 h2 h3 => ?_, fun p1 => by simp [badSeg] at p1⟩
        obtain ⟨s1, s2, s3, s4⟩ := sp z h1 h2 h3
        rw [s4] at hg
        exact absurd (hexP_good h2 j hj).1 hg
    · rw [decide_eq_true (show ((d.length : Nat) : Int) ≠ 32 by omega), cond_true]
      exact bad (by rintro ⟨_, _, _, _, h, h'⟩; simp at h; obtain ⟨_, _, _, rfl⟩ := h; exact h32 h')
end Go.Proofs.YtbgpojdmdnkeaaaGreatDoor
namespace Go.Proofs.YtbgpojdmdnkeaaaGreatDoor
open Go.Abs
set_option linter.unusedVariables false
set_option linter.unusedSimpArgs false
set_option maxRecDepth 20000
set_option maxHeartbeats 4000000

def law43_PlaylistReadsAsSpecified (n : Nat) (p_0 : S_api_Playlist) (s_1 : (List UInt8)) : Option (Bool) :=
 cond ((decide (101 < (p_0.L.length : Int)) || (decide (9000 < (s_1.length : Int)) && decide ((s_1.length : Int) ≤ 65536))) || decide (70000 < (s_1.length : Int)))
  (obind (law43_sanity n) fun r12 =>
  some r12)
  (obind (playlist_Text n p_0) fun r14 =>
  obind (ref43_Text n p_0) fun r16 =>
  obind (playlist_Parse n s_1) fun r19 =>
  obind (ref43_Parse n s_1) fun r24 =>
  obind (law43_sanity n) fun r29 =>
  bindJ (S := Bool)
   (cond ((r29 && decide (r14.1 = r16.S)) && decide (r14.2 = r16.E))
    (obind (ref43_Same n r19.1 r24.P) fun r43 =>
    some (.go r43))
    (some (.go false)))
  (fun b37 =>
   some (b37 && decide (r19.2 = r24.E))))
theorem law43_PlaylistReadsAsSpecified_ok (n : Nat) (p_0 : S_api_Playlist) (s_1 : (List UInt8)) (p_0_Lv : Value) {r : Bool} (h : law43_PlaylistReadsAsSpecified n p_0 s_1 = some r) :
  Meets Tryz.prog 4 [.agg #[.int .i64 p_0.First, p_0_Lv, .bool p_0.Done], .string (bs s_1)] [ro p_0_Lv 20 (p_0.L.map S_api_Segment.enc), globA] (fun v G => v = .bool r ∧ G = []) := by
 refine fn_of_run Tryz.func4 rfl Tryz.ntmps4 rfl (fun w0 o0 => ?_)
 refine run_seq ?_
 refine run_region' ?_
 refine ot rfl rfl (t_box rfl) ?_
 rintro _ _ ⟨b1, rfl, rfl⟩
 refine oy rfl rfl (y_assign rfl) ?_
 refine ops_nil ?_
 refine goes_code ?_
 refine run_seq ?_
 refine run_seq ?_
 refine run_region' ?_
 refine oy rfl rfl (y_fieldAddr_box (sz := 0) Tryz.runUnderlying24 rfl Tryz.sizeOf22 rfl) ?_
 refine oy rfl rfl (y_load_box 2 Tryz.isAgg22 rfl rfl rfl) ?_
 refine oy rfl rfl ((y_len 0 rfl Tryz.runUnderlying22 rfl rfl reads_ro).to (v_len S_api_Segment.enc _)) ?_
 refine oy rfl rfl (y_gtr rfl rfl) ?_
 refine oy rfl rfl (y_move rfl) ?_
 refine ops_cut 9 (Bool) (fun σ => [(1, .string (bs s_1)), (2, boxP b1 0), (24, .bool σ)]) (fun σ => [ro p_0_Lv 20 (p_0.L.map S_api_Segment.enc), globA, box b1 [.int .i64 p_0.First, p_0_Lv, .bool p_0.Done]]) (fun σ => σ = (decide (101 < (p_0.L.length : Int)) || (decide (9000 < (s_1.length : Int)) && decide ((s_1.length : Int) ≤ 65536)))) (fun L2 hL3 => ?_) ?_
 ·refine ops_split 15 (decide (101 < (p_0.L.length : Int))) rfl (fun hg4 => ?_) (fun hg4 => ?_)
  ·skip
   refine ops_no 4 false 15 rfl rfl rfl rfl rfl ?_
   refine ops_no 4 false 15 rfl rfl rfl rfl rfl ?_
   refine ops_no 4 false 15 rfl rfl rfl rfl rfl ?_
   refine ops_no 4 false 15 rfl rfl rfl rfl rfl ?_
   refine ops_un 8 true 19 rfl rfl rfl rfl rfl ?_
   refine ops_un 8 true 19 rfl rfl rfl rfl rfl ?_
   refine ops_un 8 true 19 rfl rfl rfl rfl rfl ?_
   refine ops_no 4 false 15 rfl rfl rfl rfl rfl ?_
   refine ops_weak [(1, .string (bs s_1)), (2, boxP b1 0), (15, .bool true), (23, undef)] [0, 1, 2] [ro p_0_Lv 20 (p_0.L.map S_api_Segment.enc), globA, box b1 [.int .i64 p_0.First, p_0_Lv, .bool p_0.Done]] (qv4 rfl rfl rfl rfl) (by decide) rfl ?_
   refine oy rfl rfl (y_pick (b := true) rfl rfl) ?_
   refine ops_nil ?_
   exact goes_cut hL3 true [0, 1, 2] (qv3 rfl rfl rfl) (by decide) rfl (by rw [hg4]; simp)
  ·skip
   refine ops_y (wg 4 false 15 rfl rfl rfl rfl) rfl (y_move rfl) ?_
   refine ops_y (wg 4 false 15 rfl rfl rfl rfl) rfl (y_len_str rfl Tryz.runUnderlying9 rfl) ?_
   refine ops_y (wg 4 false 15 rfl rfl rfl rfl) rfl (y_gtr rfl rfl) ?_
   refine ops_y (wg 4 false 15 rfl rfl rfl rfl) rfl (y_move rfl) ?_
   refine ops_cut 4 (Bool) (fun σ => [(1, .string (bs s_1)), (2, boxP b1 0), (15, .bool false), (23, .bool σ)]) (fun σ => [ro p_0_Lv 20 (p_0.L.map S_api_Segment.enc), globA, box b1 [.int .i64 p_0.First, p_0_Lv, .bool p_0.Done]]) (fun σ => σ = (decide (9000 < (s_1.length : Int)) && decide ((s_1.length : Int) ≤ 65536))) (fun L5 hL6 => ?_) ?_
   ·refine ops_split 19 (decide (9000 < (s_1.length : Int))) rfl (fun hg7 => ?_) (fun hg7 => ?_)
    ·skip
     refine ops_y (wg 8 true 19 rfl rfl rfl rfl) rfl (y_move rfl) ?_
     refine ops_y (wg 8 true 19 rfl rfl rfl rfl) rfl (y_len_str rfl Tryz.runUnderlying9 rfl) ?_
     refine ops_y (wg 8 true 19 rfl rfl rfl rfl) rfl (y_leq rfl rfl) ?_
     refine ops_weak [(1, .string (bs s_1)), (2, boxP b1 0), (15, .bool false), (19, .bool true), (22, .bool (decide ((s_1.length : Int) ≤ 65536)))] [0, 1, 2] [ro p_0_Lv 20 (p_0.L.map S_api_Segment.enc), globA, box b1 [.int .i64 p_0.First, p_0_Lv, .bool p_0.Done]] (qv5 rfl rfl rfl rfl rfl) (by decide) rfl ?_
     refine ops_y (wg 4 false 15 rfl rfl rfl rfl) rfl (y_pick (b := true) rfl rfl) ?_
     refine ops_nil ?_
     exact goes_cut hL6 (decide ((s_1.length : Int) ≤ 65536)) [0, 1, 2] (qv4 rfl rfl rfl rfl) (by decide) rfl (by rw [hg7]; simp)
    ·skip
     refine ops_no 8 true 19 rfl rfl rfl rfl rfl ?_
     refine ops_no 8 true 19 rfl rfl rfl rfl rfl ?_
     refine ops_no 8 true 19 rfl rfl rfl rfl rfl ?_
     refine ops_weak [(1, .string (bs s_1)), (2, boxP b1 0), (15, .bool false), (19, .bool false), (22, undef)] [0, 1, 2] [ro p_0_Lv 20 (p_0.L.map S_api_Segment.enc), globA, box b1 [.int .i64 p_0.First, p_0_Lv, .bool p_0.Done]] (qv5 rfl rfl rfl rfl rfl) (by decide) rfl ?_
     refine ops_y (wg 4 false 15 rfl rfl rfl rfl) rfl (y_pick (b := false) rfl rfl) ?_
     refine ops_nil ?_
     exact goes_cut hL6 false [0, 1, 2] (qv4 rfl rfl rfl rfl) (by decide) rfl (by rw [hg7]; simp)
   rintro _ rfl
   refine oy rfl rfl (y_pick (b := false) rfl rfl) ?_
   refine ops_nil ?_
   exact goes_cut hL3 (decide (9000 < (s_1.length : Int)) && decide ((s_1.length : Int) ≤ 65536)) [0, 1, 2] (qv3 rfl rfl rfl) (by decide) rfl (by rw [hg4]; simp)
 rintro _ rfl
 refine oy rfl rfl (y_move rfl) ?_
 refine ops_cut 4 (Bool) (fun σ => [(1, .string (bs s_1)), (2, boxP b1 0), (29, .bool σ)]) (fun σ => [ro p_0_Lv 20 (p_0.L.map S_api_Segment.enc), globA, box b1 [.int .i64 p_0.First, p_0_Lv, .bool p_0.Done]]) (fun σ => σ = ((decide (101 < (p_0.L.length : Int)) || (decide (9000 < (s_1.length : Int)) && decide ((s_1.length : Int) ≤ 65536))) || decide (70000 < (s_1.length : Int)))) (fun L8 hL9 => ?_) ?_
 ·refine ops_split 25 (decide (101 < (p_0.L.length : Int)) || (decide (9000 < (s_1.length : Int)) && decide ((s_1.length : Int) ≤ 65536))) rfl (fun hg10 => ?_) (fun hg10 => ?_)
  ·skip
   refine ops_no 14 false 25 rfl rfl rfl rfl rfl ?_
   refine ops_no 14 false 25 rfl rfl rfl rfl rfl ?_
   refine ops_no 14 false 25 rfl rfl rfl rfl rfl ?_
   refine oy rfl rfl (y_pick (b := true) rfl rfl) ?_
   refine ops_nil ?_
   exact goes_cut hL9 true [0, 1, 2] (qv3 rfl rfl rfl) (by decide) rfl (by rw [hg10]; simp)
  ·skip
   refine ops_y (wg 14 false 25 rfl rfl rfl rfl) rfl (y_move rfl) ?_
   refine ops_y (wg 14 false 25 rfl rfl rfl rfl) rfl (y_len_str rfl Tryz.runUnderlying9 rfl) ?_
   refine ops_y (wg 14 false 25 rfl rfl rfl rfl) rfl (y_gtr rfl rfl) ?_
   refine oy rfl rfl (y_pick (b := false) rfl rfl) ?_
   refine ops_nil ?_
   exact goes_cut hL9 (decide (70000 < (s_1.length : Int))) [0, 1, 2] (qv3 rfl rfl rfl) (by decide) rfl (by rw [hg10]; simp)
 rintro _ rfl
 refine ops_nil ?_
 refine goes_code ?_
 refine run_cond ((decide (101 < (p_0.L.length : Int)) || (decide (9000 < (s_1.length : Int)) && decide ((s_1.length : Int) ≤ 65536))) || decide (70000 < (s_1.length : Int))) rfl (fun hc11 => ?_) (fun hc11 => ?_)
 ·replace h := cond_t h hc11
  refine run_seq ?_
  refine run_region' ?_
  obtain ⟨r12, hr13, h⟩ := obind_some h
  refine ot rfl rfl (t_callx (vs := []) (cs := []) [(1, 0)] rfl Tryz.call8 rfl (law43_sanity_ok n   hr13) (showsX_view 1 rfl views_glob showsX_nil) rfl (.inl rfl)) ?_
  rintro _ _ ⟨_, ⟨rfl, rfl⟩, rfl⟩
  refine oy rfl rfl (y_assign rfl) ?_
  refine ops_nil ?_
  refine goes_code ?_
  refine run_ret ?_
  obtain rfl := some_eq h
  refine fin_slots [4] [.bool r12] [] [] Tryz.results4 rfl (by decide) rfl ?_
  exact ⟨rfl, rfl⟩
 ·replace h := cond_f h hc11
  refine run_skip ?_
  refine goes_code ?_
  refine run_seq ?_
  refine run_region' ?_
  refine oy rfl rfl (y_load_boxagg (c := [.int .i64 p_0.First, p_0_Lv, .bool p_0.Done]) 2 Tryz.isAgg24 Tryz.sizeOf24 rfl rfl rfl) ?_
  obtain ⟨r14, hr15, h⟩ := obind_some h
  refine ot rfl rfl (t_callx (vs := [.agg #[.int .i64 p_0.First, p_0_Lv, .bool p_0.Done]]) (cs := []) [(0, 0), (1, 0)] rfl Tryz.call12 rfl (playlist_Text_ok n p_0 p_0_Lv hr15) (showsX_view 0 rfl views_ro (showsX_view 1 rfl views_glob showsX_nil)) rfl (.inl rfl)) ?_
  rintro _ _ ⟨_, ⟨rfl, rfl⟩, rfl⟩
  refine oy rfl rfl (y_move rfl) ?_
  refine oy rfl rfl (y_extract rfl rfl) ?_
  refine oy rfl rfl (y_extract rfl rfl) ?_
  refine oy rfl rfl (y_assign rfl) ?_
  refine oy rfl rfl (y_assign rfl) ?_
  refine ops_nil ?_
  refine goes_code ?_
  refine run_seq ?_
  refine run_region' ?_
  refine oy rfl rfl (y_load_boxagg (c := [.int .i64 p_0.First, p_0_Lv, .bool p_0.Done]) 2 Tryz.isAgg24 Tryz.sizeOf24 rfl rfl rfl) ?_
  obtain ⟨r16, hr17, h⟩ := obind_some h
  refine ot rfl rfl (t_callx (vs := [.agg #[.int .i64 p_0.First, p_0_Lv, .bool p_0.Done]]) (cs := []) [(0, 0)] rfl Tryz.call13 rfl (ref43_Text_ok n p_0 p_0_Lv hr17) (showsX_view 0 rfl views_ro showsX_nil) rfl (.inl rfl)) ?_
  rintro _ _ ⟨_, ⟨rfl, rfl⟩, rfl⟩
  refine ot rfl rfl (t_alloc Tryz.zeroValue38) ?_
  rintro _ _ ⟨b18, rfl, rfl⟩
  refine ot rfl rfl (t_store 3 Tryz.sizeOf38 rfl rfl rfl rfl (by simp [Value.cells, boxP]) (by simp [Value.cells, Value.oneCell', boxP])) ?_
  rintro _ _ ⟨rfl, rfl⟩
  refine ops_turn (retell 3 (g := box b18 [.string (bs r16.S), .int .i64 r16.E]) rfl rfl) ?_
  refine ops_nil ?_
  refine goes_code ?_
  refine run_seq ?_
  refine run_weak [(1, .string (bs s_1)), (5, .string (bs r14.1)), (6, .int .i64 r14.2), (7, boxP b18 0)] [1, 3] [globA, box b18 [.string (bs r16.S), .int .i64 r16.E]] (qv4 rfl rfl rfl rfl) (by decide) rfl ?_
  refine run_region' ?_
  refine oy rfl rfl (y_move rfl) ?_
  obtain ⟨r19, hr20, h⟩ := obind_some h
  refine ot rfl rfl (t_callx (vs := [.string (bs s_1)]) (cs := []) [(0, 0)] rfl Tryz.call14 rfl (playlist_Parse_ok n s_1  hr20) (showsX_view 0 rfl views_glob showsX_nil) rfl (.inl rfl)) ?_
  rintro _ _ ⟨_, ⟨v21, rfl, rfl⟩, rfl⟩
  refine oy rfl rfl (y_move rfl) ?_
  refine oy rfl rfl (y_extract rfl rfl) ?_
  refine oy rfl rfl (y_extract rfl rfl) ?_
  refine ot rfl rfl (t_alloc Tryz.zeroValue24) ?_
  rintro _ _ ⟨b22, rfl, rfl⟩
  refine ops_slc 2 rfl reads_row (fun hs23 hs23o => ?_)
  refine ot rfl rfl (t_store 3 Tryz.sizeOf24 rfl rfl rfl rfl (by simp [Value.cells, boxP]) (allL_cons rfl (allL_cons hs23o (allL_cons rfl (allL_nil))))) ?_
  rintro _ _ ⟨rfl, rfl⟩
  refine ops_turn (retell 3 (g := box b22 [.int .i64 r19.1.First, v21, .bool r19.1.Done]) rfl rfl) ?_
  refine oy rfl rfl (y_assign rfl) ?_
  refine ops_nil ?_
  refine goes_code ?_
  refine run_seq ?_
  refine run_weak [(1, .string (bs s_1)), (5, .string (bs r14.1)), (6, .int .i64 r14.2), (7, boxP b18 0), (8, boxP b22 0), (9, .int .i64 r19.2)] [0, 1, 2, 3] [globA, box b18 [.string (bs r16.S), .int .i64 r16.E], row v21 20 (r19.1.L.map S_api_Segment.enc), box b22 [.int .i64 r19.1.First, v21, .bool r19.1.Done]] (qv6 rfl rfl rfl rfl rfl rfl) (by decide) rfl ?_
  refine run_region' ?_
  refine oy rfl rfl (y_move rfl) ?_
  obtain ⟨r24, hr25, h⟩ := obind_some h
  refine ot rfl rfl (t_callx (vs := [.string (bs s_1)]) (cs := []) [] rfl Tryz.call15 rfl (ref43_Parse_ok n s_1  hr25) showsX_nil rfl (.inl rfl)) ?_
  rintro _ _ ⟨_, ⟨v26, rfl, rfl⟩, rfl⟩
  refine ot rfl rfl (t_alloc Tryz.zeroValue31) ?_
  rintro _ _ ⟨b27, rfl, rfl⟩
  refine ops_slc 4 rfl reads_row (fun hs28 hs28o => ?_)
  refine ot rfl rfl (t_store 5 Tryz.sizeOf31 rfl rfl rfl rfl (by simp [Value.cells, boxP]) (allL_cons rfl (allL_cons hs28o (allL_cons rfl (allL_cons rfl (allL_nil)))))) ?_
  rintro _ _ ⟨rfl, rfl⟩
  refine ops_turn (retell 5 (g := box b27 [.int .i64 r24.P.First, v26, .bool r24.P.Done, .int .i64 r24.E]) rfl rfl) ?_
  refine ops_nil ?_
  refine goes_code ?_
  refine run_seq ?_
  refine run_region' ?_
  obtain ⟨r29, hr30, h⟩ := obind_some h
  refine ot rfl rfl (t_callx (vs := []) (cs := []) [(0, 0)] rfl Tryz.call8 rfl (law43_sanity_ok n   hr30) (showsX_view 0 rfl views_glob showsX_nil) rfl (.inl rfl)) ?_
  rintro _ _ ⟨_, ⟨rfl, rfl⟩, rfl⟩
  refine oy rfl rfl (y_move rfl) ?_
  refine ops_cut 5 (Bool) (fun σ => [(6, .int .i64 r14.2), (7, boxP b18 0), (8, boxP b22 0), (9, .int .i64 r19.2), (10, boxP b27 0), (51, .bool σ)]) (fun σ => [globA, box b18 [.string (bs r16.S), .int .i64 r16.E], row v21 20 (r19.1.L.map S_api_Segment.enc), box b22 [.int .i64 r19.1.First, v21, .bool r19.1.Done], row v26 20 (r24.P.L.map S_api_Segment.enc), box b27 [.int .i64 r24.P.First, v26, .bool r24.P.Done, .int .i64 r24.E]]) (fun σ => σ = (r29 && decide (r14.1 = r16.S))) (fun L31 hL32 => ?_) ?_
  ·refine ops_split 46 r29 rfl (fun hg33 => ?_) (fun hg33 => ?_)
   ·skip
    refine ops_y (wg 1 true 46 rfl rfl rfl rfl) rfl (y_move rfl) ?_
    refine ops_y (wg 1 true 46 rfl rfl rfl rfl) rfl (y_fieldAddr_box (sz := 0) Tryz.runUnderlying38 rfl Tryz.sizeOf9 rfl) ?_
    refine ops_y (wg 1 true 46 rfl rfl rfl rfl) rfl (y_load_box 1 Tryz.isAgg9 rfl rfl rfl) ?_
    refine ops_y (wg 1 true 46 rfl rfl rfl rfl) rfl (y_seql rfl rfl) ?_
    refine oy rfl rfl (y_pick (b := true) rfl rfl) ?_
    refine ops_nil ?_
    exact goes_cut hL32 (decide (r14.1 = r16.S)) [0, 1, 2, 3, 4, 5] (qv6 rfl rfl rfl rfl rfl rfl) (by decide) rfl (by rw [hg33]; simp)
   ·skip
    refine ops_no 1 true 46 rfl rfl rfl rfl rfl ?_
    refine ops_no 1 true 46 rfl rfl rfl rfl rfl ?_
    refine ops_no 1 true 46 rfl rfl rfl rfl rfl ?_
    refine ops_no 1 true 46 rfl rfl rfl rfl rfl ?_
    refine oy rfl rfl (y_pick (b := false) rfl rfl) ?_
    refine ops_nil ?_
    exact goes_cut hL32 false [0, 1, 2, 3, 4, 5] (qv6 rfl rfl rfl rfl rfl rfl) (by decide) rfl (by rw [hg33]; simp)
  rintro _ rfl
  refine oy rfl rfl (y_move rfl) ?_
  refine ops_cut 5 (Bool) (fun σ => [(8, boxP b22 0), (9, .int .i64 r19.2), (10, boxP b27 0), (57, .bool σ)]) (fun σ => [globA, row v21 20 (r19.1.L.map S_api_Segment.enc), box b22 [.int .i64 r19.1.First, v21, .bool r19.1.Done], row v26 20 (r24.P.L.map S_api_Segment.enc), box b27 [.int .i64 r24.P.First, v26, .bool r24.P.Done, .int .i64 r24.E]]) (fun σ => σ = ((r29 && decide (r14.1 = r16.S)) && decide (r14.2 = r16.E))) (fun L34 hL35 => ?_) ?_
  ·refine ops_split 52 (r29 && decide (r14.1 = r16.S)) rfl (fun hg36 => ?_) (fun hg36 => ?_)
   ·skip
    refine ops_y (wg 7 true 52 rfl rfl rfl rfl) rfl (y_move rfl) ?_
    refine ops_y (wg 7 true 52 rfl rfl rfl rfl) rfl (y_fieldAddr_box (sz := 0) Tryz.runUnderlying38 rfl Tryz.sizeOf27 rfl) ?_
    refine ops_y (wg 7 true 52 rfl rfl rfl rfl) rfl (y_load_box 1 Tryz.isAgg27 rfl rfl rfl) ?_
    refine ops_y (wg 7 true 52 rfl rfl rfl rfl) rfl (y_eql rfl rfl) ?_
    refine oy rfl rfl (y_pick (b := true) rfl rfl) ?_
    refine ops_nil ?_
    exact goes_cut hL35 (decide (r14.2 = r16.E)) [0, 2, 3, 4, 5] (qv4 rfl rfl rfl rfl) (by decide) rfl (by rw [hg36]; simp)
   ·skip
    refine ops_no 7 true 52 rfl rfl rfl rfl rfl ?_
    refine ops_no 7 true 52 rfl rfl rfl rfl rfl ?_
    refine ops_no 7 true 52 rfl rfl rfl rfl rfl ?_
    refine ops_no 7 true 52 rfl rfl rfl rfl rfl ?_
    refine oy rfl rfl (y_pick (b := false) rfl rfl) ?_
    refine ops_nil ?_
    exact goes_cut hL35 false [0, 2, 3, 4, 5] (qv4 rfl rfl rfl rfl) (by decide) rfl (by rw [hg36]; simp)
  rintro _ rfl
  refine oy rfl rfl (y_move rfl) ?_
  obtain ⟨o38, h, ho39⟩ := bindJ_some h
  refine ops_cut 5 (Bool) (fun σ => [(9, .int .i64 r19.2), (10, boxP b27 0), (63, .bool σ)]) (fun σ => [globA, row v26 20 (r24.P.L.map S_api_Segment.enc), box b27 [.int .i64 r24.P.First, v26, .bool r24.P.Done, .int .i64 r24.E]]) (fun σ => o38 = .go σ) (fun L40 hL41 => ?_) ?_
  ·refine ops_split 58 ((r29 && decide (r14.1 = r16.S)) && decide (r14.2 = r16.E)) rfl (fun hg42 => ?_) (fun hg42 => ?_)
   ·replace h := cond_t h hg42
    refine ops_y (wg 13 true 58 rfl rfl rfl rfl) rfl (y_load_boxagg (c := [.int .i64 r19.1.First, v21, .bool r19.1.Done]) 2 Tryz.isAgg24 Tryz.sizeOf24 rfl rfl rfl) ?_
    refine ops_y (wg 13 true 58 rfl rfl rfl rfl) rfl (y_fieldAddr_box (sz := 2) Tryz.runUnderlying31 rfl Tryz.sizeOf24 rfl) ?_
    refine ops_y (wg 13 true 58 rfl rfl rfl rfl) rfl (y_load_boxagg (c := [.int .i64 r24.P.First, v26, .bool r24.P.Done]) 4 Tryz.isAgg24 Tryz.sizeOf24 rfl rfl rfl) ?_
    obtain ⟨r43, hr44, h⟩ := obind_some h
    refine ops_t (wg 13 true 58 rfl rfl rfl rfl) rfl (t_callx (vs := [.agg #[.int .i64 r19.1.First, v21, .bool r19.1.Done], .agg #[.int .i64 r24.P.First, v26, .bool r24.P.Done]]) (cs := []) [(1, 1), (3, 1)] rfl Tryz.call11 rfl (ref43_Same_ok n r19.1 r24.P v21 v26 hr44) (showsX_look 1 rfl views_row (showsX_look 3 rfl views_row showsX_nil)) rfl (.inr (by rintro _ _ ⟨rfl, rfl⟩ g hg; first | (cases hg; done) | (simp only [List.mem_cons, List.not_mem_nil, or_false] at hg; first | (subst hg; first | exact strict_row | exact strict_box) | (rcases hg with rfl | rfl <;> first | exact strict_row | exact strict_box) | (rcases hg with rfl | rfl | rfl <;> first | exact strict_row | exact strict_box))))) ?_
    rintro _ _ ⟨_, ⟨rfl, rfl⟩, rfl⟩
    refine oy rfl rfl (y_pick (b := true) rfl rfl) ?_
    refine ops_nil ?_
    obtain rfl := some_eq h
    exact goes_cut hL41 r43 [0, 3, 4] (qv3 rfl rfl rfl) (by decide) rfl rfl
   ·replace h := cond_f h hg42
    refine ops_no 13 true 58 rfl rfl rfl rfl rfl ?_
    refine ops_no 13 true 58 rfl rfl rfl rfl rfl ?_
    refine ops_no 13 true 58 rfl rfl rfl rfl rfl ?_
    refine ops_no 13 true 58 rfl rfl rfl rfl rfl ?_
    refine oy rfl rfl (y_pick (b := false) rfl rfl) ?_
    refine ops_nil ?_
    obtain rfl := some_eq h
    exact goes_cut hL41 false [0, 3, 4] (qv3 rfl rfl rfl) (by decide) rfl rfl
  rintro b37 hj
  obtain rfl : o38 = _ := hj
  replace h := after_go ho39
  clear ho39
  refine oy rfl rfl (y_move rfl) ?_
  refine ops_cut 5 (Bool) (fun σ => [(69, .bool σ)]) (fun σ => [globA]) (fun σ => σ = (b37 && decide (r19.2 = r24.E))) (fun L45 hL46 => ?_) ?_
  ·refine ops_split 64 b37 rfl (fun hg47 => ?_) (fun hg47 => ?_)
   ·skip
    refine ops_y (wg 19 true 64 rfl rfl rfl rfl) rfl (y_move rfl) ?_
    refine ops_y (wg 19 true 64 rfl rfl rfl rfl) rfl (y_fieldAddr_box (sz := 0) Tryz.runUnderlying31 rfl Tryz.sizeOf27 rfl) ?_
    refine ops_y (wg 19 true 64 rfl rfl rfl rfl) rfl (y_load_box 2 Tryz.isAgg27 rfl rfl rfl) ?_
    refine ops_y (wg 19 true 64 rfl rfl rfl rfl) rfl (y_eql rfl rfl) ?_
    refine oy rfl rfl (y_pick (b := true) rfl rfl) ?_
    refine ops_nil ?_
    exact goes_cut hL46 (decide (r19.2 = r24.E)) [0] (qv1 rfl) (by decide) rfl (by rw [hg47]; simp)
   ·skip
    refine ops_no 19 true 64 rfl rfl rfl rfl rfl ?_
    refine ops_no 19 true 64 rfl rfl rfl rfl rfl ?_
    refine ops_no 19 true 64 rfl rfl rfl rfl rfl ?_
    refine ops_no 19 true 64 rfl rfl rfl rfl rfl ?_
    refine oy rfl rfl (y_pick (b := false) rfl rfl) ?_
    refine ops_nil ?_
    exact goes_cut hL46 false [0] (qv1 rfl) (by decide) rfl (by rw [hg47]; simp)
  rintro _ rfl
  refine oy rfl rfl (y_assign rfl) ?_
  refine ops_nil ?_
  refine goes_code ?_
  refine run_ret ?_
  obtain rfl := some_eq h
  refine fin_slots [4] [.bool (b37 && decide (r19.2 = r24.E))] [] [] Tryz.results4 rfl (by decide) rfl ?_
  exact ⟨rfl, rfl⟩

end Go.Proofs.YtbgpojdmdnkeaaaGreatDoor
namespace Go.Proofs.YtbgpojdmdnkeaaaGreatDoor
open Go.Abs
set_option linter.unusedSimpArgs false
set_option linter.unusedVariables false
theorem rtext_loop (p : S_api_Playlist) (hp : VP p) (hd : ∀ s ∈ p.L, okDig s.Body) (h : List UInt8) (hh : h.length ≤ 1000) (n : Nat) (hn : 1000 < n) :
    iter (ref43_Text_L1 n p) n (h, 0) = some (.go (h ++ (p.L.map lineP).flatMap fun l => l ++ [10])) := by
  have hL := hp.2.2.1
  have hF : ∀ (l : List S_api_Segment), ((l.map lineP).flatMap fun x => x ++ [10]).length ≤ 99 * l.length := by
    intro l
    induction l with
    | nil => simp
    | cons s r ih =>
      have := lineP_len s
      rw [List.map_cons, List.flatMap_cons, List.length_append, List.length_append]
      simp only [List.length_cons, List.length_nil]
      omega
  obtain ⟨r, e, rfl⟩ := iter_inv (step := ref43_Text_L1 n p) (fun s => ∃ i : Nat, s = (h ++ ((p.L.take i).map lineP).flatMap (fun l => l ++ [10]), (i : Int)) ∧ i ≤ p.L.length) (fun s => p.L.length - s.2.toNat) (fun r => r = .go (h ++ (p.L.map lineP).flatMap fun l => l ++ [10])) (by
    rintro s ⟨i, rfl, hi⟩
    unfold ref43_Text_L1
    simp only
    by_cases hlt : i < p.L.length
    · have ho := hp.2.2.2.2.1 i hlt
      have hdi := hd _ (List.getElem_mem hlt)
      have ht : ((p.L.take (i + 1)).map lineP).flatMap (fun l => l ++ [10]) = ((p.L.take i).map lineP).flatMap (fun l => l ++ [10]) ++ (lineP p.L[i] ++ [10]) := by
        rw [← List.take_append_getElem hlt, List.map_append, List.flatMap_append, List.map_cons, List.map_nil, List.flatMap_cons, List.flatMap_nil, List.append_nil]
      have hlen := hF (p.L.take i)
      rw [List.length_take] at hlen
      unfold okSeg at ho
      have hl1 := itoaP_len p.L[i].Begin; have hl2 := itoaP_len p.L[i].Len; have hl3 := itoaP_len p.L[i].Size
      have hl4 : (hexP p.L[i].Body.toL).length = 32 := by rw [hexP_len]; rfl
      have hout : (h ++ ((p.L.take i).map lineP).flatMap (fun l => l ++ [10])).length ≤ 11000 := by rw [List.length_append]; omega
      generalize hq : h ++ ((p.L.take i).map lineP).flatMap (fun l => l ++ [10]) = out at hout
      rw [decide_eq_true (by omega), cond_true, idx_get' hlt, rdecimal_eq _ (by omega) (by omega) n (by omega), rdecimal_eq _ (by omega) (by omega) n (by omega), rdecimal_eq _ (by omega) (by omega) n (by omega), rhex_eq hdi n (by omega)]
      simp only [obind, Option.bind_some]
      rw [need_pos (by (try simp); omega), need_pos (by (try simp); omega), need_pos (by (try simp); omega), need_pos (by (try simp); omega), need_pos (by (try simp); omega), need_pos (by (try simp); omega), need_pos (by (try simp); omega), need_pos (by (try simp); omega), w64 (by omega) (by omega)]
      refine .inl ⟨_, rfl, ⟨i + 1, ?_, by omega⟩, by simp; omega⟩
      rw [ht, ← List.append_assoc, hq]
      unfold lineP
      simp
    · obtain rfl : i = p.L.length := by omega
      rw [decide_eq_false (by omega), cond_false, List.take_length]
      exact .inr ⟨_, rfl, rfl⟩) n (h, 0) ⟨0, by simp, by omega⟩ (by simp; omega)
  exact e
open Classical in
theorem rtext_eq (p : S_api_Playlist) (hd : ∀ s ∈ p.L, okDig s.Body) (n : Nat) (hn : 1000 < n) : ref43_Text n p = some (if VP p then ⟨textP p, 0⟩ else ⟨[], 3⟩) := by
  unfold ref43_Text
  rw [rvalid_eq p n (by omega)]
  simp only [obind, Option.bind_some]
  by_cases hp : VP p
  · have h1 := itoaP_len p.First
    have hb := hp.2.1
    simp only [hp, decide_true, Bool.not_true, cond_false, if_true]
    rw [rdecimal_eq _ hp.1 (by omega) n (by omega)]
    simp only [Option.bind_some]
    rw [need_pos (by simp; omega), need_pos (by simp; omega), rtext_loop p hp hd _ (by simp; omega) n hn]
    simp only [bindJ_go]
    have htl := textP_len hp
    unfold textP linesP headP at htl ⊢
    cases hD : p.Done with
    | true =>
      rw [hD] at htl
      simp only [List.flatMap_cons, List.flatMap_append, if_true, List.flatMap_nil, List.append_nil, List.length_append, List.length_cons, List.length_nil] at htl
      simp only [cond_true]
      rw [need_pos (by simp only [List.length_append, List.length_cons, List.length_nil]; omega)]
      simp only [bindJ_go, List.flatMap_cons, List.flatMap_append, if_true, List.flatMap_nil, List.append_nil]
      simp
    | false =>
      simp only [cond_false, bindJ_go, List.flatMap_cons, List.append_nil, Bool.false_eq_true, if_false]
  · simp only [hp, decide_false, Bool.not_false, cond_true, if_false]
/-- what a line read says of a line -/
def Reads (x : List UInt8) (y : S_api_Segment) : Prop :=
  (∀ z, okSeg z → okDig z.Body → lineP z = x → y.Begin = z.Begin ∧ y.Len = z.Len ∧ y.Body = z.Body ∧ y.Size = z.Size) ∧ (0 ≤ y.Begin → 0 ≤ y.Len → 0 ≤ y.Size → lineP y = x ∧ okDig y.Body)
theorem rparse_loop (v : Int) (h0 : -1 ≤ v) (h1 : v ≤ 1152921504606846976) (hd : List UInt8) (t : List (List UInt8)) (ht : t.length ≤ 100000) (hx : ∀ x ∈ t, x.length ≤ 100000) (n : Nat) (hn : 1000000 < n) :
    ∃ q : List S_api_Segment, iter (ref43_Parse_L1 n v (hd :: t)) n (1, []) = some (.go q) ∧ q.length = t.length ∧ ∀ k (a : k < q.length) (b : k < t.length), q[k].Num = v + k ∧ Reads t[k] q[k] := by
  obtain ⟨r, e, q, rfl, h⟩ := iter_inv (step := ref43_Parse_L1 n v (hd :: t)) (fun s => ∃ (k : Nat) (q : List S_api_Segment), s = (((k + 1 : Nat) : Int), q) ∧ k ≤ t.length ∧ q.length = k ∧ ∀ j (a : j < q.length) (b : j < t.length), q[j].Num = v + j ∧ Reads t[j] q[j]) (fun s => t.length + 1 - s.1.toNat)
    (fun r => ∃ q : List S_api_Segment, r = .go q ∧ q.length = t.length ∧ ∀ k (a : k < q.length) (b : k < t.length), q[k].Num = v + k ∧ Reads t[k] q[k]) (by
    rintro s ⟨k, q, rfl, hk, hq, hj⟩
    unfold ref43_Parse_L1
    simp only
    by_cases hlt : k < t.length
    · have hxl := hx _ (List.getElem_mem hlt)
      obtain ⟨y, ey, y1, y2⟩ := rline_eq t[k] (by omega) n (by omega)
      rw [decide_eq_true (by simp; omega), cond_true, idx_get' (show k + 1 < (hd :: t).length by simp; omega), List.getElem_cons_succ, ey]
      simp only [obind, Option.bind_some]
      rw [need_pos (by simp; omega), w64 (x := v + ((k + 1 : Nat) : Int)) (by omega) (by omega), w64 (x := v + ((k + 1 : Nat) : Int) - 1) (by omega) (by omega), w64 (by omega) (by omega)]
      refine .inl ⟨_, rfl, ⟨k + 1, _, rfl, by omega, by simp [hq], fun j a b => ?_⟩, by simp; omega⟩
      by_cases ej : j < k
      · rw [List.getElem_append_left (by omega)]
        exact hj j (by omega) b
      · obtain rfl : j = k := by simp at a; omega
        rw [List.getElem_append_right (by omega)]
        simp only [hq, Nat.sub_self, List.getElem_cons_zero]
        refine ⟨by omega, fun z a1 a2 a3 => ?_, fun p1 p2 p3 => y2 p1 p2 p3⟩
        have := y1 z a1 a2 a3
        subst this
        exact ⟨rfl, rfl, rfl, rfl⟩
    · obtain rfl : k = t.length := by omega
      rw [decide_eq_false (by simp), cond_false]
      exact .inr ⟨_, rfl, q, rfl, hq, hj⟩) n (1, []) ⟨0, [], rfl, by omega, rfl, fun j a => by simp at a⟩ (by simp; omega)
  exact ⟨q, e, h⟩
theorem ends_text (p : S_api_Playlist) : endsP (p.L.map lineP ++ if p.Done then [[100, 111, 110, 101]] else []) = (p.L.map lineP, p.Done) := by
  unfold endsP
  cases hD : p.Done with
  | true => simp only [if_true, List.getLast?_concat, List.dropLast_concat]
  | false =>
    simp only [Bool.false_eq_true, if_false, List.append_nil]
    rw [if_neg]
    intro h
    obtain ⟨s, hs, e⟩ := List.mem_map.1 (List.mem_of_getLast? h)
    have := line_long s
    rw [e] at this
    simp at this
theorem ends_back (t : List (List UInt8)) : ((endsP t).1 ++ if (endsP t).2 then [[100, 111, 110, 101]] else []) = t := by
  unfold endsP
  split
  · rename_i hg
    simp only [if_true]
    have h0 : t ≠ [] := fun e => by subst e; simp at hg
    rw [List.getLast?_eq_some_getLast h0] at hg
    rw [← Option.some.inj hg, List.dropLast_concat_getLast]
  · simp
def zeroP : S_api_Playlist := ⟨0, [], false⟩
open Classical in
theorem rparse_eq (s : List UInt8) (hs : s.length ≤ 65536) (n : Nat) (hn : 1000000 < n) :
    ∃ r, ref43_Parse n s = some r ∧ (∀ p, VP p → (∀ y ∈ p.L, okDig y.Body) → textP p = s → r = ⟨p, 0⟩) ∧ (r = ⟨zeroP, 3⟩ ∨ (r.E = 0 ∧ VP r.P ∧ (∀ y ∈ r.P.L, okDig y.Body) ∧ textP r.P = s)) := by
  have hm := fun x hx => Nat.le_trans (split_mem 10 s x hx) hs
  have hlen := Nat.le_trans (splitP_len 10 s) (Nat.add_le_add_right hs 1)
  have hne := splitP_ne 10 s
  have hb : ∀ h : splitP 10 s ≠ [], ((splitP 10 s).dropLast.flatMap fun x => x ++ [10]) ++ (splitP 10 s).getLast h = s := fun _ => split_back 10 s
  have hsp := rsplit_eq s (by omega) 10 n (by omega)
  rw [show (((10 : UInt8).toNat : Nat) : Int) = 10 from rfl] at hsp
  have sp : ∀ p, VP p → (∀ y ∈ p.L, okDig y.Body) → textP p = s → splitP 10 s = linesP p ++ [[]] := fun p a b c => by
    rw [← c]; exact split_lines 10 _ (lines_no a b)
  unfold ref43_Parse
  rw [decide_eq_false (show ¬ (65536 : Int) < (s.length : Int) by omega), cond_false, hsp]
  simp only [obind, Option.bind_some]
  generalize splitP 10 s = l at hm hlen hne hb sp ⊢
  replace hb := hb hne
  have hpos := List.length_pos_iff.2 hne
  have bad : (¬ ∃ h t, l = h :: t ++ [[]] ∧ h.take 5 = [108, 105, 118, 101, 32] ∧ 6 ≤ h.length) → ∃ r, some (S_ref43_Made.mk (S_api_Playlist.mk 0 ([] : List S_api_Segment) false) 3) = some r ∧ (∀ p, VP p → (∀ y ∈ p.L, okDig y.Body) → textP p = s → r = ⟨p, 0⟩) ∧ (r = ⟨zeroP, 3⟩ ∨ (r.E = 0 ∧ VP r.P ∧ (∀ y ∈ r.P.L, okDig y.Body) ∧ textP r.P = s)) := by
    intro h
    refine ⟨_, rfl, fun p a b c => absurd ?_ h, .inl rfl⟩
    have h1 : itoaP p.First ≠ [] := by
      have := decF_ne 19 p.First.toNat
      have h0 := a.1
      unfold itoaP
      rwa [if_neg (by omega)]
    have h2 := List.length_pos_iff.2 h1
    exact ⟨headP p, _, sp p a b c, rfl, by unfold headP; simp; omega⟩
  have hb1 : ∀ {R : Type} (k : Bool → Option R), bindJ (S := Bool) (cond (decide ((l.length : Int) < 2)) (some (.go true)) (idx l (IntKind.i64.wrap ((l.length : Int) - 1)) fun x12 => some (.go (!decide (x12 = []))))) k = k (decide (l.length < 2 ∨ l.getLast hne ≠ [])) := by
    intro R k
    by_cases h2 : l.length < 2
    · rw [decide_eq_true (show (l.length : Int) < 2 by omega), cond_true, decide_eq_true (.inl h2)]; rfl
    · rw [decide_eq_false (show ¬ (l.length : Int) < 2 by omega), cond_false, idx_last (by omega) hne, bindJ_go]
      congr 1
      simp [h2]
  rw [hb1]
  by_cases c1 : l.length < 2 ∨ l.getLast hne ≠ []
  · rw [decide_eq_true c1]
    refine bad ?_
    rintro ⟨h, t, rfl, _, _⟩
    rcases c1 with c | c
    · simp at c
      omega
    · exact c (List.getLast_concat ..)
  rw [decide_eq_false c1]
  have c2 : 2 ≤ l.length := by omega
  have c3 : l.getLast hne = [] := by
    by_cases q : l.getLast hne = []
    · exact q
    · exact absurd (.inr q) c1
  have hl0 : l = l.dropLast ++ [[]] := by rw [← c3, List.dropLast_concat_getLast]
  have htk := take_len l (by omega) hpos
  rw [htk]
  rw [c3, List.append_nil] at hb
  have hdm : ∀ x ∈ l.dropLast, x.length ≤ 65536 := fun x hx => hm x (List.dropLast_subset _ hx)
  have hdl : l.dropLast.length = l.length - 1 := by simp
  generalize hd' : l.dropLast = d at hl0 hb hdm hdl
  match d, hl0, hb, hdm, hdl with
  | [], hl0, hb, hdm, hdl => simp at hdl; omega
  | h :: t, hl0, hb, hdm, hdl =>
    have i0 : ∀ {β : Type} (k : List UInt8 → Option β), idx l 0 k = k h := fun k => by rw [hl0]; rfl
    have j0 : ∀ {β : Type} (k : List UInt8 → Option β), idx (h :: t) 0 k = k h := fun k => rfl
    have hhl := hdm h (List.mem_cons_self ..)
    simp only [cond_false, i0, bindJ_go]
    have hlt : (h :: t).length ≤ 65536 := by omega
    by_cases c6 : 6 ≤ h.length
    · rw [decide_eq_false (show ¬ ((h.length : Nat) : Int) < 6 by omega), cond_false, need_pos (by omega), bindJ_go]
      have t5 : h.take ((5 : Int).toNat) = h.take 5 := rfl
      rw [t5]
      by_cases c5 : h.take 5 = [108, 105, 118, 101, 32]
      · rw [decide_eq_true c5, Bool.not_true, cond_false, need_pos (by rw [w64 (by omega) (by omega)]; omega), j0, need_pos (by omega)]
        have d5 : h.drop ((5 : Int).toNat) = h.drop 5 := rfl
        rw [d5]
        obtain ⟨v, ev, v1, v2, v3, v4⟩ := rnumber_eq (h.drop 5) (by simp; omega) n (by simp; omega) (by omega)
        rw [ev]
        simp only [Option.bind_some]
        have htl : t.length ≤ 65535 := by simp at hlt; omega
        have key : ∀ {R : Type} (k : List (List UInt8) × Bool → Option R), (bindJ (S := List (List UInt8) × Bool) (bindJ (S := Bool)
            (cond (decide ((1 : Int) < (((h :: t).length : Nat) : Int))) (idx (h :: t) (IntKind.i64.wrap ((((h :: t).length : Nat) : Int) - 1)) fun x48 => some (.go (decide (x48 = [100, 111, 110, 101])))) (some (.go false)))
            (fun b42 => cond b42 (need (0 ≤ (0 : Int) ∧ 0 ≤ (IntKind.i64.wrap ((((h :: t).length : Nat) : Int) - 1)) ∧ (IntKind.i64.wrap ((((h :: t).length : Nat) : Int) - 1)) ≤ (((h :: t).length : Nat) : Int)) (some (.go (((h :: t).take (((IntKind.i64.wrap ((((h :: t).length : Nat) : Int) - 1))).toNat)), true)))) (some (.go ((h :: t), false))))) k) = k (h :: (endsP t).1, (endsP t).2) := by
          intro R k
          unfold endsP
          by_cases h0 : t = []
          · subst h0; rfl
          · have hp0 := List.length_pos_iff.2 h0
            rw [decide_eq_true (by simp; omega), cond_true, idx_last (by omega) (by simp), bindJ_go, List.getLast?_eq_some_getLast h0, List.getLast_cons h0]
            by_cases q : t.getLast h0 = [100, 111, 110, 101]
            · rw [decide_eq_true q, cond_true, need_pos (by rw [w64 (by omega) (by omega)]; simp; omega), take_len (h :: t) (by omega) (by simp), bindJ_go, q, if_pos rfl, List.dropLast_cons_of_ne_nil h0]
            · rw [decide_eq_false q, cond_false, bindJ_go, if_neg (fun h => q (Option.some.inj h))]
        rw [key]
        have he1 : (endsP t).1.length ≤ t.length ∧ ∀ x ∈ (endsP t).1, x ∈ t := by
          unfold endsP
          split
          · exact ⟨by simp, fun x hx => List.dropLast_subset _ hx⟩
          · exact ⟨Nat.le_refl _, fun x hx => hx⟩
        simp only
        obtain ⟨q, eq, q1, q2⟩ := rparse_loop v v1 v2 h (endsP t).1 (by omega) (fun x hx => by have := hdm x (List.mem_cons_of_mem _ (he1.2 x hx)); omega) n hn
        rw [eq]
        simp only [bindJ_go]
        rw [rvalid_eq _ n (by omega)]
        simp only [Option.bind_some]
        have fwd : ∀ p, VP p → (∀ y ∈ p.L, okDig y.Body) → textP p = s → (⟨v, q, (endsP t).2⟩ : S_api_Playlist) = p := by
          intro p a b c
          have e1 := sp p a b c
          rw [hl0] at e1
          have e2 := List.append_cancel_right e1
          unfold linesP at e2
          obtain ⟨e3, e4⟩ := List.cons.inj e2
          have e5 := ends_text p
          rw [← e4] at e5
          have hv : v = p.First := v3 p.First a.1 a.2.1 (by rw [e3]; rfl)
          have hq : q = p.L := by
            rw [e5] at q1 q2
            apply List.ext_getElem
            · simpa using q1
            · intro k k1 k2
              obtain ⟨r1, r2, r3⟩ := q2 k k1 (by simpa using k2)
              have hk := a.2.2.2.2.1 k k2
              have hn := num_at a k k2
              obtain ⟨z1, z2, z3, z4⟩ := r2 p.L[k] hk (b _ (List.getElem_mem k2)) (by simp)
              generalize p.L[k] = y at *
              generalize q[k] = x at *
              cases x; cases y
              simp only at *
              subst z1; subst z2; subst z3; subst z4
              congr 1
              omega
          rw [e5, hv, hq]
        by_cases hv : VP ⟨v, q, (endsP t).2⟩
        · rw [decide_eq_true hv]
          refine ⟨_, rfl, fun p a b c => ?_, .inr ⟨rfl, hv, ?_, ?_⟩⟩
          · rw [fwd p a b c]
          · intro y hy
            obtain ⟨k, hk, rfl⟩ := List.getElem_of_mem hy
            simp only at hk
            have ho := hv.2.2.2.2.1 k hk
            simp only at ho
            unfold okSeg at ho
            exact ((q2 k hk (by omega)).2.2 (by omega) (by omega) (by omega)).2
          · have hmap : q.map lineP = (endsP t).1 := by
              apply List.ext_getElem
              · simpa using q1
              · intro k k1 k2
                simp at k1
                have ho := hv.2.2.2.2.1 k k1
                simp only at ho
                unfold okSeg at ho
                rw [List.getElem_map]
                exact ((q2 k k1 k2).2.2 (by omega) (by omega) (by omega)).1
            unfold textP linesP headP
            simp only
            rw [hmap, ends_back, v4 hv.1, ← c5, List.take_append_drop, hb]
        · rw [decide_eq_false hv]
          exact ⟨_, rfl, fun p a b c => absurd (by rw [fwd p a b c]; exact a) hv, .inl rfl⟩
      · rw [decide_eq_false c5, Bool.not_false, cond_true]
        refine bad ?_
        rintro ⟨h', t', e, e', _⟩
        rw [hl0] at e
        have := List.append_cancel_right e
        obtain ⟨rfl, _⟩ := List.cons.inj this
        exact c5 e'
    · rw [decide_eq_true (show ((h.length : Nat) : Int) < 6 by omega), cond_true, bindJ_go, cond_true]
      refine bad ?_
      rintro ⟨h', t', e, _, e'⟩
      rw [hl0] at e
      have := List.append_cancel_right e
      obtain ⟨rfl, _⟩ := List.cons.inj this
      exact c6 e'
open Classical in
theorem law4_of (p : S_api_Playlist) (s : List UInt8) (hd : ∀ x ∈ p.L, okDig x.Body) : ∃ m, law43_PlaylistReadsAsSpecified m p s = some true := by
  obtain ⟨n, hsane, hn⟩ : ∃ n, law43_sanity n = some true ∧ 2000000 ≤ n := ⟨2000000 + 40, sane 2000000, by omega⟩
  refine ⟨n, ?_⟩
  unfold law43_PlaylistReadsAsSpecified
  rw [hsane]
  by_cases hc : 101 < p.L.length ∨ (9000 < s.length ∧ s.length ≤ 65536) ∨ 70000 < s.length
  · rw [show ((decide (101 < (p.L.length : Int)) || (decide (9000 < (s.length : Int)) && decide ((s.length : Int) ≤ 65536))) || decide (70000 < (s.length : Int))) = true by
      simp only [Bool.or_eq_true, Bool.and_eq_true, decide_eq_true_eq]; omega]
    rfl
  · rw [show ((decide (101 < (p.L.length : Int)) || (decide (9000 < (s.length : Int)) && decide ((s.length : Int) ≤ 65536))) || decide (70000 < (s.length : Int))) = false by
      rw [Bool.eq_false_iff]; intro h; simp only [Bool.or_eq_true, Bool.and_eq_true, decide_eq_true_eq] at h; omega, cond_false, text_eq p hd n (by omega), rtext_eq p hd n (by omega)]
    have hT : (if VP p then (textP p, (0 : Int)) else ([], 3)).1 = (if VP p then (⟨textP p, 0⟩ : S_ref43_Written) else ⟨[], 3⟩).S ∧ (if VP p then (textP p, (0 : Int)) else ([], 3)).2 = (if VP p then (⟨textP p, 0⟩ : S_ref43_Written) else ⟨[], 3⟩).E := by
      split <;> exact ⟨rfl, rfl⟩
    have hP : ∃ q e, playlist_Parse n s = some (q, e) ∧ ref43_Parse n s = some ⟨q, e⟩ ∧ q.L.length ≤ 1000 := by
      by_cases hl : s.length ≤ 65536
      · obtain ⟨r, e, r1, r2⟩ := rparse_eq s hl n (by omega)
        rw [parse_eq s hl n (by omega), e]
        cases hq : parseP s with
        | none =>
          rcases r2 with rfl | ⟨_, a, b, c⟩
          · exact ⟨_, _, rfl, rfl, by simp⟩
          · have := parse_text a b
            rw [c, hq] at this
            cases this
        | some q =>
          obtain ⟨a, b, c⟩ := text_parse hq
          rw [r1 q a b c]
          exact ⟨_, _, rfl, rfl, by have := a.2.2.1; omega⟩
      · refine ⟨⟨0, [], false⟩, 2, ?_, ?_, by simp⟩
        · unfold playlist_Parse; rw [decide_eq_true (by omega)]; rfl
        · unfold ref43_Parse; rw [decide_eq_true (by omega)]; rfl
    obtain ⟨q, e, p1, p2, p3⟩ := hP
    rw [p1, p2]
    simp only [obind, Option.bind_some, hT.1, hT.2, decide_true, Bool.and_self, cond_true]
    rw [same_refl q (by omega) n (by omega)]
    rfl
end Go.Proofs.YtbgpojdmdnkeaaaGreatDoor
namespace Go.Abs
open Go.Sem Go.ChangeShapes Go.RowKit

/-- a law's contract, as the claim's frame wants it -/
theorem Meets.law {P : Program} {f : FuncId} {args : List Value} {H : List HA} (h : Meets P f args H (fun v G => v = .bool true ∧ G = [])) {w : World} (hs : Sats w (fun _ => .no) H) :
    Calls P f args.toArray w fun e w' => e = .returned (.bool true) ∧ Below w.heap.size w w' := by
  refine (h w (fun _ => .no) (fun _ _ => rfl) hs).mono fun e w' ⟨v, G, o', he, ⟨hv, _⟩, _, ht, _⟩ => ?_
  subst hv
  exact ⟨he, ht.os, ht.tape, ht.output, ht.size, fun k hk => (ht.no k hk rfl).2⟩

theorem cells_open {w : World} {a : Option Addr} {len cap es : Nat} {cells : List (List Value)} (hcl : cells.length = len) (h1 : len ≤ cap) (h2 : cap ≤ maxLen) (h3 : a = none → cap = 0) (hes : 0 < es)
    (he : ∀ c ∈ cells, c.length = es) (hc : ∀ x, a = some x → ∀ i c, cells[i]? = some c → ∀ j v, c[j]? = some v → w.cell? (x.add (i * es + j)) = some v) :
    SliceIs w (fun b => (fun _ => Ow.no : Own) b = .no) (.slice a len cap) es cells := by
  refine ⟨a, cap, by rw [hcl], by omega, h2, h3, ?_⟩
  intro i c hi
  have hlen := he c (List.mem_of_getElem? hi)
  cases a with
  | none =>
    have := (List.getElem?_eq_some_iff.1 hi).1
    have := h3 rfl
    omega
  | some x =>
    have e0 : c[0]? = some (c[0]'(by omega)) := List.getElem?_eq_getElem (by omega)
    have h := hc x rfl i c hi 0 _ e0
    have hs0 := World.cell?_spot h
    have hb : x.block < w.heap.size := by
      unfold World.cell? at h
      have e : (x.add (i * es + 0)).block = x.block := by unfold Addr.add; split <;> rfl
      rw [e] at h
      cases hh : w.heap[x.block]? with
      | none => rw [hh] at h; simp at h
      | some o => exact (Array.getElem?_eq_some_iff.1 hh).1
    obtain ⟨b, off, spot⟩ := x
    refine ⟨hlen, b, off, ?_, hb, rfl, ?_⟩
    · cases spot with
      | none => rfl
      | some q =>
        exfalso
        have hi0 : ∀ i c, cells[i]? = some c → i = 0 := by
          intro i c hi
          false_or_by_contra
          have hlen := he c (List.mem_of_getElem? hi)
          have hi00 : cells[0]? = some (cells[0]'(by have := (List.getElem?_eq_some_iff.1 hi).1; omega)) := List.getElem?_eq_getElem _
          have hl0 := he _ (List.mem_of_getElem? hi00)
          have h := hc _ rfl 0 _ hi00 0 _ (List.getElem?_eq_getElem (by omega))
          have := World.cell?_spot h
          simp [Addr.add] at this
        have := hi0 i c hi
        subst this
        simp [Addr.add] at hs0
    · intro j v hj
      have h' := hc _ rfl i c hi j v hj
      have hsp := World.cell?_spot h'
      rw [← h']
      congr 1
      unfold Addr.add at hsp ⊢
      split
      · rename_i h0
        rw [if_pos h0] at hsp
        simp only at hsp
        rw [hsp]
        have : off + i * es + j = off := by omega
        rw [this]
      · rw [Nat.add_assoc]
theorem slice_nil {w : World} {B : Nat → Prop} {es : Nat} : SliceIs w B (.slice none 0 0) es [] := ⟨none, 0, rfl, by simp, by unfold maxLen; omega, fun _ => rfl, fun i c h => by simp at h⟩
end Go.Abs
namespace Go.Abs
open Go.Sem Go.ChangeShapes Go.RowKit
end Go.Abs
namespace Go.Abs
open Go.Sem Go.ChangeShapes Go.RowKit
section
variable {H : Type} {enc : TypeId × Value → H} {P : Program} {w : World} {base : Nat} {sp : Nat → Bool} {held : Bool}
end
end Go.Abs
namespace Go.Abs
open Go.Sem Go.ChangeShapes Go.RowKit
section
variable {H : Type} {enc : TypeId × Value → H} {P : Program} {w : World} {base : Nat} {sp : Nat → Bool} {held : Bool}
def wfI (k : IntKind) (n : Int) : Prop := (Lit.int k n).wf = true
theorem wf8 {n : Int} (h : wfI .u8 n) : 0 ≤ n ∧ n ≤ 255 := by
  simp only [wfI, Lit.wf, Bool.and_eq_true, decide_eq_true_eq] at h; exact h
/-- a type is opened: what is read of it lies in the cells 'F a', and a is well formed -/
def Opens (enc : TypeId × Value → H) (P : Program) (w : World) (base : Nat) (sp : Nat → Bool) (held : Bool) (t : TypeId) {α : Type} (F : α → List Value) (wf : α → Prop) : Prop :=
  ∀ (fuel : Nat) (cs : List Value) (x : DataW H × List MemPlace), DataW.trod enc P w base sp held fuel t cs = some x → ∃ a, cs = F a ∧ wf a
theorem opn_int {t : TypeId} {k : IntKind} (ht : P.underlying t = some (.int k)) : Opens enc P w base sp held t (eInt k) (wfI k) := by
  intro fuel cs x h
  obtain ⟨n, hc, _, hw⟩ := DataW.trod_int ht h
  exact ⟨n, hc, hw⟩
/-- the elements of a slice that is opened -/
theorem opn_slice {t e : TypeId} {es : Nat} {α : Type} {F : α → List Value} {wf : α → Prop} (ht : P.underlying t = some (.slice e)) (hce : P.cellsOf e = es) (hes : 0 < es) (hF : ∀ a, (F a).length = es)
    (ho : Opens enc P w base sp held e F wf) {fuel : Nat} {cs : List Value} {x : DataW H × List MemPlace} (h : DataW.trod enc P w base sp held fuel t cs = some x) :
    ∃ (v : Value) (l : List α), cs = [v] ∧ (∀ a ∈ l, wf a) ∧ SliceIs w (fun b => (fun _ => Ow.no : Own) b = .no) v es (l.map F) ∧
      ((x = (.nil, []) ∧ l = []) ∨ ∃ ys rs ps, x = (.slice ys rs, ps) ∧ ys.length = l.length) := by
  rcases DataW.trod_slice ht h with ⟨rfl, hx⟩ | ⟨a, len, cap, elems, rest, m, _, rfl, rfl, hb, hl, hm, hlen, hel', hsp, hns⟩
  · exact ⟨_, [], rfl, by simp, slice_nil, .inl ⟨hx, rfl⟩⟩
  · have each : ∀ i, i < len → ∃ d : α, wf d ∧ ∀ j v, (F d)[j]? = some v → w.cell? (a.add (i * es + j)) = some v := by
      intro i hi
      have h1 := hel' i hi
      rw [List.getElem?_eq_getElem (by omega), hce, Option.bind_eq_some_iff] at h1
      obtain ⟨cs', hcs, hy⟩ := h1
      obtain ⟨d, rfl, hd⟩ := ho _ _ _ hy
      refine ⟨d, hd, fun j v hj => ?_⟩
      have hjlt : j < es := by have := (List.getElem?_eq_some_iff.1 hj).1; rw [hF] at this; omega
      have := (World.cells?_some hcs).2.2 j hjlt
      rw [hj] at this
      rw [← this]
      congr 1
      unfold Addr.add
      by_cases e1 : i * es = 0
      · rw [if_pos e1]; simp [e1]
      · rw [if_neg e1, if_neg (by omega)]
        by_cases e2 : j = 0
        · simp [e2]
        · rw [if_neg e2]; simp [Nat.add_assoc]
    have hch : ∃ l : List α, l.length = len ∧ ∀ i d, l[i]? = some d → wf d ∧ ∀ j v, (F d)[j]? = some v → w.cell? (a.add (i * es + j)) = some v := by
      clear hel' hlen hsp hns hl h
      induction len with
      | zero => exact ⟨[], rfl, by simp⟩
      | succ k ih =>
        obtain ⟨l, hl1, hl2⟩ := ih (fun i hi => each i (by omega))
        obtain ⟨d, hd1, hd2⟩ := each k (by omega)
        refine ⟨l ++ [d], by simp [hl1], fun i d' hi => ?_⟩
        by_cases hik : i < k
        · rw [List.getElem?_append_left (by omega)] at hi; exact hl2 i d' hi
        · rw [List.getElem?_append_right (by omega)] at hi
          have : i = k := by have := (List.getElem?_eq_some_iff.1 hi).1; simp at this; omega
          subst this
          rw [hl1, Nat.sub_self] at hi
          simp at hi
          subst hi
          exact ⟨hd1, hd2⟩
    obtain ⟨l, hl1, hl2⟩ := hch
    refine ⟨_, l, rfl, ?_, ?_, .inr ⟨_, _, _, rfl, by simp [hlen, hl1]⟩⟩
    · intro d hd
      obtain ⟨i, hi⟩ := List.getElem?_of_mem hd
      exact (hl2 i d hi).1
    · refine cells_open (by rw [List.length_map, hl1]) hl hm (by simp) hes ?_ ?_
      · intro c hc
        obtain ⟨d, hd, rfl⟩ := List.mem_map.1 hc
        exact hF d
      · intro x hx i c hi j v hj
        cases hx
        simp only [List.getElem?_map, Option.map_eq_some_iff] at hi
        obtain ⟨d, hd, rfl⟩ := hi
        exact (hl2 i d hd).2 j v hj
end
end Go.Abs
namespace Go.Abs
open Go.Sem Go.ChangeShapes Go.RowKit
section
variable {H : Type} {enc : TypeId × Value → H} {P : Program} {w : World} {base : Nat} {sp : Nat → Bool} {held : Bool}
theorem opn_bool {t : TypeId} (ht : P.underlying t = some .bool) : Opens enc P w base sp held t eBool (fun _ => True) := by
  intro fuel cs x h
  obtain ⟨b, hc, _⟩ := DataW.trod_bool ht h
  exact ⟨b, hc, trivial⟩
theorem opn_str {t : TypeId} (ht : P.underlying t = some .string) : Opens enc P w base sp held t eStr (fun l => l.length ≤ maxLen) := by
  intro fuel cs x h
  obtain ⟨s, hc, _, hl⟩ := DataW.trod_string ht h
  exact ⟨s.data.toList, by rw [hc]; rfl, hl⟩
def noO : Own := fun _ => .no
def OpensN (enc : TypeId × Value → H) (P : Program) (w : World) (base : Nat) (sp : Nat → Bool) (held : Bool) (t : TypeId) {α : Type} (C : NC α) (wf : α → Prop) : Prop :=
  ∀ (fuel : Nat) (cs : List Value) (x : DataW H × List MemPlace), DataW.trod enc P w base sp held fuel t cs = some x → ∃ a g, cs = C.F a g ∧ wf a ∧ ∀ k, HsP (C.S a g) w noO k
theorem slice_len {t e : TypeId} (ht : P.underlying t = some (.slice e)) {fuel : Nat} {cs : List Value} {x : DataW H × List MemPlace} (h : DataW.trod enc P w base sp held fuel t cs = some x) {N : Nat}
    (hx : (x = (.nil, []) ∧ N = 0) ∨ ∃ ys rs ps, x = (.slice ys rs, ps) ∧ ys.length = N) : N ≤ maxLen := by
  rcases DataW.trod_slice ht h with ⟨_, h0⟩ | ⟨a, len, cap, elems, rest, m, _, _, h0, _, hl, hm, hlen, _⟩
  · rcases hx with ⟨_, rfl⟩ | ⟨ys, rs, ps, h1, _⟩
    · exact Nat.zero_le _
    · rw [h0] at h1; cases h1
  · rcases hx with ⟨h1, _⟩ | ⟨ys, rs, ps, h1, h2⟩
    · rw [h0] at h1; cases h1
    · rw [h0] at h1; cases h1; rw [List.length_map] at h2; omega
theorem opn_leafL {t e : TypeId} {es : Nat} {α : Type} {F : α → List Value} {wf : α → Prop} (ht : P.underlying t = some (.slice e)) (hce : P.cellsOf e = es) (hes : 0 < es) (hF : ∀ a, (F a).length = es)
    (ho : Opens enc P w base sp held e F wf) {fuel : Nat} {cs : List Value} {x : DataW H × List MemPlace} (h : DataW.trod enc P w base sp held fuel t cs = some x) :
    ∃ (v : Value) (l : List α), cs = [v] ∧ (l.length ≤ maxLen ∧ ∀ a ∈ l, wf a) ∧ ∀ k, (ro v es (l.map F)).p w noO k := by
  obtain ⟨v, l, h1, h2, h3, h4⟩ := opn_slice ht hce hes hF ho h
  refine ⟨v, l, h1, ⟨slice_len ht h ?_, h2⟩, fun _ => h3⟩
  rcases h4 with ⟨h5, rfl⟩ | h5
  · exact .inl ⟨h5, rfl⟩
  · exact .inr h5
end
end Go.Abs
namespace Go.Abs
open Go.Sem Go.ChangeShapes Go.RowKit
theorem laid_at {P : Program} {w : World} {n : String} {d : DataW Unit} : ∀ {l : List (String × DataW Unit)} {ps : List MemPlace}, DataW.LaidVars P w l ps → (n, d) ∈ l →
    ∃ g t cs fuel p, P.globalNamed n = some g ∧ (P.globals[g]?).map (·.type) = some t ∧ w.var? P n = some cs ∧ DataW.trod (fun _ => ()) P w 0 (fun _ => true) false fuel t cs.toList = some (d, p)
  | [], _, _, h => by simp at h
  | (m, e) :: r, ps, ⟨g, t, cs, fuel, p, q, h1, h2, h3, h4, h5, _⟩, h => by
    rcases List.mem_cons.1 h with h | h
    · cases h; exact ⟨g, t, cs, fuel, p, h1, h2, h3, h4⟩
    · exact laid_at h5 h
theorem laid_tab {P : Program} {w : World} {l : List (String × DataW Unit)} {name : String} {k : IntKind} {zs : List Int} {g t e : Nat} {n : Nat} (h : laidMet P l w) (hm : (name, Lib.tabData k zs) ∈ l)
    (hg : P.globalNamed name = some g) (hty : (P.globals[g]?).map (·.type) = some t) (ht : P.underlying t = some (.array n e)) (he : P.underlying e = some (.int k)) (hce : P.cellsOf e = 1) (hct : P.cellsOf t = n) : Lib.TabIs P w name k zs := by
  obtain ⟨ps, hl, _⟩ := h
  obtain ⟨g', t', cs, fuel, p, hg', ht', hvar, hd⟩ := laid_at hl hm
  obtain rfl := Option.some.inj (hg.symm.trans hg')
  obtain rfl := Option.some.inj (hty.symm.trans ht')
  unfold Lib.TabIs
  rw [hvar, ← Lib.cells_of_tab ht he hce hct hd]
theorem laid_iface {P : Program} {w : World} {l : List (String × DataW Unit)} {name s : String} {d : DataW Unit} {g t : Nat} {ms : Array (String × TypeId)} (h : laidMet P l w) (hm : (name, DataW.iface s d) ∈ l)
    (hg : P.globalNamed name = some g) (hty : (P.globals[g]?).map (·.type) = some t) (ht : P.underlying t = some (.interface ms)) : ∃ u v, w.cell? ⟨g, 0, none⟩ = some (.iface u v) := by
  obtain ⟨ps, hl, _⟩ := h
  obtain ⟨g', t', cs, fuel, p, hg', ht', hvar, hd⟩ := laid_at hl hm
  obtain rfl := Option.some.inj (hg.symm.trans hg')
  obtain rfl := Option.some.inj (hty.symm.trans ht')
  have hc : ∃ u v, cs.toList = [.iface u v] := by
    cases fuel with
    | zero => simp [DataW.trod] at hd
    | succ fuel =>
      unfold DataW.trod at hd
      rw [ht] at hd
      split at hd <;> simp_all
  obtain ⟨u, v, hc⟩ := hc
  refine ⟨u, v, ?_⟩
  have := World.var?_cell hg hvar 0
  rw [this, ← Array.getElem?_toList, hc]; rfl
section
variable {H : Type} {enc : TypeId × Value → H} {P : Program} {w : World} {base : Nat} {sp : Nat → Bool} {held : Bool}
theorem opn_arr {t e : TypeId} {n : Nat} {k : IntKind} (ht : P.underlying t = some (.array n e)) (he : P.underlying e = some (.int k)) (hce : P.cellsOf e = 1) (hct : P.cellsOf t = n) {fuel : Nat} {cs : List Value} {x : DataW H × List MemPlace}
    (h : DataW.trod enc P w base sp held fuel t cs = some x) : ∃ l : List Int, l.length = n ∧ cs = l.map (Value.int k) ∧ ∀ a ∈ l, wfI k a := by
  obtain ⟨xs, m, _, _, hl, hx, hf⟩ := DataW.trod_array ht h
  rw [hct] at hl
  have key : ∀ i, i < n → ∃ a, cs[i]? = some (.int k a) ∧ wfI k a := by
    intro i hi
    have h1 := hf i hi
    rw [List.getElem?_eq_getElem (show i < xs.length by omega)] at h1
    obtain ⟨a, hc, _, hw⟩ := DataW.trod_int he h1
    refine ⟨a, ?_, hw⟩
    have := congrArg (·[0]?) hc
    simpa [hce, List.getElem?_take, List.getElem?_drop] using this
  clear hf hx
  have all : ∀ (n : Nat) (cs : List Value), cs.length = n → (∀ i, i < n → ∃ a, cs[i]? = some (.int k a) ∧ wfI k a) → ∃ l : List Int, l.length = n ∧ cs = l.map (Value.int k) ∧ ∀ a ∈ l, wfI k a := by
    intro n
    induction n with
    | zero => intro cs hl _; exact ⟨[], rfl, by simpa using hl, by simp⟩
    | succ n ih =>
      intro cs hl key
      match cs, hl with
      | c :: r, hl =>
        obtain ⟨l, e1, e2, e3⟩ := ih r (by simpa using hl) (fun i hi => by simpa using key (i + 1) (by omega))
        obtain ⟨a, e4, e5⟩ := key 0 (by omega)
        refine ⟨a :: l, by simp [e1], ?_, ?_⟩
        · simp at e4; simp [e4, ← e2]
        · intro b hb
          rcases List.mem_cons.1 hb with rfl | hb
          · exact e5
          · exact e3 b hb
  exact all n cs hl key
end
end Go.Abs
namespace Go.Proofs.YtbgpojdmdnkeaaaGreatDoor
open Go.Abs Go.ChangeShapes Go.RowKit
set_option maxRecDepth 100000
set_option linter.unusedVariables false
def NC_api_Playlist_24 : NC S_api_Playlist where
  G := Value
  es := 3
  F := fun x g => [.int .i64 x.First, g, .bool x.Done]
  S := fun x g => [ro g 20 (x.L.map S_api_Segment.enc)]
  free := by
    intro x g h hh
    simp only [List.mem_cons, List.not_mem_nil, or_false] at hh
    rcases hh with rfl <;> first | exact free_ro | exact free_nro
  ok := by
    intro x g w o k hh
    refine ⟨rfl, ?_⟩
    intro u hu
    simp only [List.mem_cons, List.not_mem_nil, or_false] at hu
    rcases hu with rfl | rfl | rfl <;> first | rfl | exact ro_one (hh _ (.head _)) | exact nro_one (hh _ (.head _))

def S_api_Digest.wf (x : S_api_Digest) : Prop := ∀ a ∈ x.toL, wfI .u8 a
theorem S_api_Digest.opn {H : Type} {enc : TypeId × Value → H} {w : World} {base : Nat} {sp : Nat → Bool} {held : Bool} : Opens enc Tryz.prog w base sp held 55 S_api_Digest.enc S_api_Digest.wf := by
  intro fuel cs x h
  obtain ⟨l, hl, e, hw⟩ := opn_arr Tryz.underlying55 Tryz.underlying5 (by kernel_rfl) (by kernel_rfl) h
  match l, hl with
  | [y0, y1, y2, y3, y4, y5, y6, y7, y8, y9, y10, y11, y12, y13, y14, y15], _ => exact ⟨⟨y0, y1, y2, y3, y4, y5, y6, y7, y8, y9, y10, y11, y12, y13, y14, y15⟩, e, hw⟩
def S_api_Segment.wf (x : S_api_Segment) : Prop := wfI .i64 x.Num ∧ wfI .i64 x.Begin ∧ wfI .i64 x.Len ∧ S_api_Digest.wf x.Body ∧ wfI .i64 x.Size
theorem S_api_Segment.opn {H : Type} {enc : TypeId × Value → H} {w : World} {base : Nat} {sp : Nat → Bool} {held : Bool} : Opens enc Tryz.prog w base sp held 57 S_api_Segment.enc S_api_Segment.wf := by
  intro fuel cs x h
  obtain ⟨xs, n, _, _, hl, hlen, hf⟩ := DataW.trod_struct Tryz.underlying57 h
  have hl' : cs.length = 20 := hl.trans (by kernel_rfl)
  have hx : xs.length = 5 := hlen
  have k3 : Tryz.prog.cellsOf 3 = 1 := by kernel_rfl
  have k55 : Tryz.prog.cellsOf 55 = 16 := by kernel_rfl
  match cs, hl' with
  | [c0, c1, c2, c3, c4, c5, c6, c7, c8, c9, c10, c11, c12, c13, c14, c15, c16, c17, c18, c19], _ =>
    have f0 := hf 0 _ rfl
    rw [List.getElem?_eq_getElem (show 0 < xs.length by omega)] at f0
    obtain ⟨a0, e0, w0⟩ := (opn_int Tryz.underlying3) _ _ _ f0
    simp [k3, eInt, eStr, eBool] at e0
    have f1 := hf 1 _ rfl
    rw [List.getElem?_eq_getElem (show 1 < xs.length by omega)] at f1
    obtain ⟨a1, e1, w1⟩ := (opn_int Tryz.underlying3) _ _ _ f1
    simp [k3, eInt, eStr, eBool] at e1
    have f2 := hf 2 _ rfl
    rw [List.getElem?_eq_getElem (show 2 < xs.length by omega)] at f2
    obtain ⟨a2, e2, w2⟩ := (opn_int Tryz.underlying3) _ _ _ f2
    simp [k3, eInt, eStr, eBool] at e2
    have f3 := hf 3 _ rfl
    rw [List.getElem?_eq_getElem (show 3 < xs.length by omega)] at f3
    obtain ⟨a3, e3, w3⟩ := S_api_Digest.opn _ _ _ f3
    simp [k55, S_api_Digest.enc] at e3
    have f4 := hf 4 _ rfl
    rw [List.getElem?_eq_getElem (show 4 < xs.length by omega)] at f4
    obtain ⟨a4, e4, w4⟩ := (opn_int Tryz.underlying3) _ _ _ f4
    simp [k3, eInt, eStr, eBool] at e4
    exact ⟨⟨a0, a1, a2, a3, a4⟩, by simp [S_api_Segment.enc, e0, e1, e2, e3, e4], w0, w1, w2, w3, w4⟩
def S_api_Playlist.wf (x : S_api_Playlist) : Prop := wfI .i64 x.First ∧ (x.L.length ≤ maxLen ∧ ∀ a ∈ x.L, S_api_Segment.wf a) ∧ True
theorem S_api_Playlist.opnN {H : Type} {enc : TypeId × Value → H} {w : World} {base : Nat} {sp : Nat → Bool} {held : Bool} : OpensN enc Tryz.prog w base sp held 24 NC_api_Playlist_24 S_api_Playlist.wf := by
  intro fuel cs x h
  obtain ⟨xs, n, _, _, hl, hlen, hf⟩ := DataW.trod_struct Tryz.underlying24 h
  have hl' : cs.length = 3 := hl.trans (by kernel_rfl)
  have hx : xs.length = 3 := hlen
  have k3 : Tryz.prog.cellsOf 3 = 1 := by kernel_rfl
  have k4 : Tryz.prog.cellsOf 4 = 1 := by kernel_rfl
  have k22 : Tryz.prog.cellsOf 22 = 1 := by kernel_rfl
  match cs, hl' with
  | [c0, c1, c2], _ =>
    have f0 := hf 0 _ rfl
    rw [List.getElem?_eq_getElem (show 0 < xs.length by omega)] at f0
    obtain ⟨a0, e0, w0⟩ := (opn_int Tryz.underlying3) _ _ _ f0
    simp [k3, eInt, eStr, eBool] at e0
    have f1 := hf 1 _ rfl
    rw [List.getElem?_eq_getElem (show 1 < xs.length by omega)] at f1
    obtain ⟨v1, a1, e1, w1, s1⟩ := opn_leafL (es := 20) (F := S_api_Segment.enc) (wf := S_api_Segment.wf) Tryz.underlying22 (by kernel_rfl) (by decide) (fun a => (S_api_Segment.enc_ok a).1) S_api_Segment.opn f1
    simp [k22, eInt, eStr, eBool] at e1
    have f2 := hf 2 _ rfl
    rw [List.getElem?_eq_getElem (show 2 < xs.length by omega)] at f2
    obtain ⟨a2, e2, w2⟩ := (opn_bool Tryz.underlying4) _ _ _ f2
    simp [k4, eInt, eStr, eBool] at e2
    refine ⟨⟨a0, a1, a2⟩, v1, by simp [NC_api_Playlist_24, e0, e1, e2], ⟨w0, w1, w2⟩, fun k h hh => ?_⟩
    simp only [NC_api_Playlist_24, List.mem_cons, List.not_mem_nil, or_false] at hh
    subst hh; exact s1 k
theorem NC_L_int_43.opn {H : Type} {enc : TypeId × Value → H} {w : World} {base : Nat} {sp : Nat → Bool} {held : Bool} : OpensN enc Tryz.prog w base sp held 43 NC_L_int_43 (fun a => (a.length ≤ maxLen ∧ ∀ c ∈ a, wfI .i64 c)) := by
  intro fuel cs x h
  obtain ⟨v, l, e, hw, hs⟩ := opn_leafL (es := 1) (F := (eInt .i64)) (wf := (fun a => wfI .i64 a)) Tryz.underlying43 (by kernel_rfl) (by decide) (fun a => ((eInt_ok _) a).1) (opn_int Tryz.underlying3) h
  exact ⟨l, v, e, hw, fun k h hh => by simp only [NC_L_int_43, List.mem_cons, List.not_mem_nil, or_false] at hh; subst hh; exact hs k⟩

end Go.Proofs.YtbgpojdmdnkeaaaGreatDoor
namespace Go.Proofs.YtbgpojdmdnkeaaaGreatDoor
open Go.Abs
theorem law4 (p : S_api_Playlist) (s : List UInt8) (hw : S_api_Playlist.wf p) (_ : s.length ≤ maxLen) : ∃ m, law43_PlaylistReadsAsSpecified m p s = some true :=
  law4_of p s (fun x hx b hb => by have := wf8 ((hw.2.1.2 x hx).2.2.2.1 b hb); omega)
end Go.Proofs.YtbgpojdmdnkeaaaGreatDoor
namespace Go.Proofs.YtbgpojdmdnkeaaaGreatDoor
open Go.Abs
/-- so many blocks has the settled world -/
noncomputable def low : Nat := (World.holding Tryz.prog default ⟨#[], #[], []⟩).heap.size
/-- the settled world with the laid variables -/
noncomputable def laidWorld (os : Os) : World :=
  let w0 := World.holding Tryz.prog os ⟨#[.cells #[.string ⟨#[105, 110, 118, 97, 108, 105, 100, 32, 115, 121, 110, 116, 97, 120]⟩] 156, .cells #[.string ⟨#[118, 97, 108, 117, 101, 32, 111, 117, 116, 32, 111, 102, 32, 114, 97, 110, 103, 101]⟩] 156], #[], []⟩
  { w0 with heap := (((((((w0.heap.modify 3 fun
      | .cells _ t frozen => .cells (([1, 10, 100, 1000, 10000, 100000, 1000000, 10000000, 100000000, 1000000000, 10000000000, 100000000000, 1000000000000, 10000000000000, 100000000000000, 1000000000000000, 10000000000000000, 100000000000000000, 1000000000000000000, 10000000000000000000] : List Int).map (Value.int .u64)).toArray t frozen
      | o => o).modify 4 fun
      | .cells _ t frozen => .cells (Go.Pinned.utf8FirstZ.map fun (n : Nat) => Value.int .u8 (n : Int)).toArray t frozen
      | o => o).modify 5 fun
      | .cells _ t frozen => .cells (([128, 191, 160, 191, 128, 159, 144, 191, 128, 143, 0, 0, 0, 0, 0, 0, 0, 0, 0, 0, 0, 0, 0, 0, 0, 0, 0, 0, 0, 0, 0, 0] : List Int).map (Value.int .u8)).toArray t frozen
      | o => o).modify 6 fun
      | .cells _ t frozen => .cells (([0, 1, 28, 2, 29, 14, 24, 3, 30, 22, 20, 15, 25, 17, 4, 8, 31, 27, 13, 23, 21, 19, 16, 7, 26, 12, 18, 6, 11, 5, 10, 9] : List Int).map (Value.int .u8)).toArray t frozen
      | o => o).modify 7 fun
      | .cells _ t frozen => .cells (([0, 1, 56, 2, 57, 49, 28, 3, 61, 58, 42, 50, 38, 29, 17, 4, 62, 47, 59, 36, 45, 43, 51, 22, 53, 39, 33, 30, 24, 18, 12, 5, 63, 55, 48, 27, 60, 41, 37, 16, 46, 35, 44, 21, 52, 32, 23, 11, 54, 26, 40, 15, 34, 20, 31, 10, 25, 14, 19, 9, 13, 8, 7, 6] : List Int).map (Value.int .u8)).toArray t frozen
      | o => o).modify 1 fun
      | .cells _ t frozen => .cells #[.iface 154 (.pointer (some ⟨low, 0, none⟩))] t frozen
      | o => o).modify 2 fun
      | .cells _ t frozen => .cells #[.iface 154 (.pointer (some ⟨low + 1, 0, none⟩))] t frozen
      | o => o) }
def laidL : List (String × DataW Unit) := [("math/bits.deBruijn32tab", Rows.laid_math_bits_deBruijn32tab), ("math/bits.deBruijn64tab", Rows.laid_math_bits_deBruijn64tab), ("internal/strconv.uint64pow10", Rows.laid_internal_strconv_uint64pow10), ("unicode/utf8.acceptRanges", Rows.laid_unicode_utf8_acceptRanges), ("strconv.ErrRange", Rows.laid_strconv_ErrRange), ("strconv.ErrSyntax", Rows.laid_strconv_ErrSyntax), ("unicode/utf8.first", Rows.laid_unicode_utf8_first)]
theorem laidWorld_met (os : Os) (args : Array Value) : laidMet Tryz.prog laidL ((laidWorld os).forCall (fun _ _ => 0) ⟨#[], args, []⟩).memory :=
  laidMet_of_run' 8 (by kernel_rfl) (by kernel_rfl)
theorem gPow : Tryz.prog.globalNamed "internal/strconv.uint64pow10" = some 3 := by kernel_rfl
theorem globIs {W : World} (h : laidMet Tryz.prog laidL W) (hs : W.ShapedOpen Tryz.prog) : GlobIs Tryz.prog 8 W where
  maxLen := let ⟨m, hm⟩ := Tryz.laysM146.s1_3 W hs; ⟨0, m, gMax, by decide, hm⟩
  errSyntax := let ⟨u, v, hc⟩ := laid_iface (s := "*errors.errorString") (d := .ptr (.agg [.lit (.string [105, 110, 118, 97, 108, 105, 100, 32, 115, 121, 110, 116, 97, 120])])) h (by simp [laidL, Rows.laid_strconv_ErrSyntax]) gSyn (t := 102) (by kernel_rfl) Tryz.underlying102; ⟨1, u, v, gSyn, by decide, hc⟩
  errRange := let ⟨u, v, hc⟩ := laid_iface (s := "*errors.errorString") (d := .ptr (.agg [.lit (.string [118, 97, 108, 117, 101, 32, 111, 117, 116, 32, 111, 102, 32, 114, 97, 110, 103, 101])])) h (by simp [laidL, Rows.laid_strconv_ErrRange]) gRng (t := 102) (by kernel_rfl) Tryz.underlying102; ⟨2, u, v, gRng, by decide, hc⟩
  pow10 := ⟨3, gPow, by decide, laid_tab h (List.mem_cons_of_mem _ (List.mem_cons_of_mem _ (List.mem_cons.2 (.inl (by kernel_rfl))))) gPow (t := 143) (by kernel_rfl) Tryz.underlying143 Tryz.underlying128 (by kernel_rfl) (by kernel_rfl)⟩
theorem laid_size {W : World} (h : laidMet Tryz.prog laidL W) : 8 ≤ W.heap.size := by
  obtain ⟨ps, hl, _⟩ := h
  obtain ⟨g, t, cs, fuel, p, e1, _, e3, _⟩ := laid_at (n := "math/bits.deBruijn64tab") hl (List.mem_cons_of_mem _ (List.mem_cons_self ..))
  have eg : Tryz.prog.globalNamed "math/bits.deBruijn64tab" = some 7 := by kernel_rfl
  obtain rfl := Option.some.inj (eg.symm.trans e1)
  unfold World.var? at e3
  rw [eg] at e3
  simp only [Option.bind_some] at e3
  by_cases h : 7 < W.heap.size
  · omega
  · rw [Array.getElem?_eq_none (by omega)] at e3; simp at e3
theorem globP {W : World} (h : laidMet Tryz.prog laidL W) (hs : W.ShapedOpen Tryz.prog) (k : Nat) : globA.p W noO k := ⟨laid_size h, fun _ _ => rfl, globIs h hs⟩
end Go.Proofs.YtbgpojdmdnkeaaaGreatDoor
