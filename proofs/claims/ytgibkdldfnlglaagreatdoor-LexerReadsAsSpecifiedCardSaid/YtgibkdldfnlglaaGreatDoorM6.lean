/-
  Texts that stand side by side: Pg, Ph, W3, Pi, AbsEnd, AbsEnd2, AbsEnd3, AbsEnd4, AbsEnd5, AbsLaid, Opn, P3, LaidL.
-/
import Derived.Test.YtgibkdldfnlglaaGreatDoorM4
import Derived.Test.YtgibkdldfnlglaaGreatDoorG3a
import Derived.Test.YtgibkdldfnlglaaGreatDoorM0
import Derived.WalkKit
import Derived.ProofKit
import Derived.OpenShut
import Derived.ShutString
import Derived.ChangeOld
import Derived.Below
import Derived.SliceStrings
import Derived.Test.YtgibkdldfnlglaaGreatDoorM1
import Derived.ChangeArms
import Derived.LaidHandle
import Derived.Deep.DeepHandedRow
import Derived.Test.YtgibkdldfnlglaaGreatDoorFb
import Derived.Test.YtgibkdldfnlglaaGreatDoorRows
import Derived.Test.YtgibkdldfnlglaaGreatDoorChecked
namespace Go.Proofs.YtgibkdldfnlglaaGreatDoor
open Go.Abs Go.Lex
set_option linter.unusedSimpArgs false
set_option linter.unusedVariables false
theorem rsmall_eq (b : UInt8) : ref18_small (b.toNat : Int) = some (sm b) := small_eq b
theorem rdigit_eq (b : UInt8) : ref18_digit (b.toNat : Int) = some (dg b) := digit_eq b
theorem rrest_eq (b : UInt8) : ref18_rest (b.toNat : Int) = some (rst b) := by
  unfold ref18_rest
  rw [rsmall_eq, rdigit_eq]
  simp only [obind, Option.bind_some]
  rw [byte_eq b 95 95 rfl]
  unfold rst
  cases sm b <;> simp [bindJ_go]
theorem rletter_eq (b : UInt8) (h : dg b = false) : ref18_letter (b.toNat : Int) = some (ltr b) := by
  unfold ref18_letter
  rw [rsmall_eq]
  simp only [obind, Option.bind_some, Option.some.injEq]
  rw [byte_eq b 95 95 rfl]
  have : (decide ((65 : Int) ≤ (b.toNat : Int)) && decide ((b.toNat : Int) ≤ 90)) = (decide (65 ≤ b.toNat) && decide (b.toNat ≤ 90)) := by
    rw [Bool.eq_iff_iff]; simp only [Bool.and_eq_true, decide_eq_true_eq]; omega
  rw [this]
  unfold ltr rst
  rw [h]
  cases sm b <;> cases decide (b = 95) <;> simp
theorem rskip_eq (s : List UInt8) (hs : s.length ≤ 1000000) (a : Nat) (ha : a ≤ s.length) (n : Nat) (hn : s.length + 1 < n) :
    ref18_skip n s (a : Int) = some ((s.length - (skipP false (s.drop a)).length : Nat) : Int) := by
  unfold ref18_skip
  obtain ⟨r, e, h⟩ := iter_inv (step := ref18_skip_L1 n s) (fun x => ∃ i : Nat, x = (i : Int) ∧ i ≤ s.length ∧ skipP false (s.drop i) = skipP false (s.drop a)) (fun x => s.length - x.toNat)
    (fun r => r = .go ((s.length - (skipP false (s.drop a)).length : Nat) : Int) ∨ r = .stop ((s.length - (skipP false (s.drop a)).length : Nat) : Int)) (by
    rintro x ⟨i, rfl, hi, hk⟩
    unfold ref18_skip_L1
    by_cases hlt : i < s.length
    · have hc := drop_cons hlt
      rw [hc, skip_f] at hk
      rw [decide_eq_true (by omega), cond_true, idx_get'' hlt, byte_eq s[i] 35 35 rfl]
      by_cases h35 : s[i] = 35
      · rw [decide_eq_true h35, cond_true]
        rw [if_pos h35] at hk
        rw [while_gen (fun b => !decide (b = 10)) s hs (ref18_skip_L2 s) (fun j hj => by
          unfold ref18_skip_L2
          rw [decide_eq_true (by omega), cond_true, idx_get'' hj]
          simp only [bindJ_go]
          rw [show decide ((s[j].toNat : Int) ≠ 10) = !decide (s[j] = 10) by rw [← byte_eq s[j] 10 10 rfl]; simp, w64 (by omega) (by omega)]
          cases decide (s[j] = 10) <;> rfl) (by
          unfold ref18_skip_L2
          rw [decide_eq_false (by omega), cond_false, bindJ_go, cond_false]) i hi n (by omega), bindJ_go]
        obtain ⟨g1, g2, g3⟩ := while_fin (s := s) (p := fun b => !decide (b = 10)) hi
        have hpos : 0 < ((s.drop i).takeWhile fun b => !decide (b = 10)).length := by
          rw [hc, List.takeWhile_cons_of_pos (by simp [h35])]; simp
        refine .inl ⟨_, rfl, ⟨_, rfl, g3, ?_⟩, by (try simp only); omega⟩
        rw [g2, ← hk, hc, List.dropWhile_cons_of_pos (by simp [h35]), ← skip_cmt]
      · rw [decide_eq_false h35, cond_false]
        rw [if_neg h35] at hk
        have hsp : ∀ {R : Type} (k : Bool → Option R), (idx s (i : Int) fun c32 => bindJ (S := Bool) (cond (decide ((c32.toNat : Int) ≠ 32)) (idx s (i : Int) fun c39 => some (.go (decide ((c39.toNat : Int) ≠ 9)))) (some (.go false)))
            (fun b33 => bindJ (S := Bool) (cond b33 (idx s (i : Int) fun c46 => some (.go (decide ((c46.toNat : Int) ≠ 10)))) (some (.go false)))
            (fun b40 => bindJ (S := Bool) (cond b40 (idx s (i : Int) fun c53 => some (.go (decide ((c53.toNat : Int) ≠ 13)))) (some (.go false))) k))) = k (!spc s[i]) := by
          intro R k
          have q : ∀ c : UInt8, ∀ m : Int, (c.toNat : Int) = m → decide ((s[i].toNat : Int) ≠ m) = !decide (s[i] = c) := fun c m h => by rw [← byte_eq s[i] c m h]; simp
          rw [idx_get'' hlt, q 32 32 rfl]
          unfold spc
          cases decide (s[i] = 32) with
          | true => simp only [Bool.not_true, cond_false, bindJ_go, Bool.true_or]
          | false =>
            simp only [Bool.not_false, cond_true, Bool.false_or]
            rw [idx_get'' hlt, q 9 9 rfl, bindJ_go]
            cases decide (s[i] = 9) with
            | true => simp only [Bool.not_true, cond_false, bindJ_go, Bool.true_or]
            | false =>
              simp only [Bool.not_false, cond_true, Bool.false_or]
              rw [idx_get'' hlt, q 10 10 rfl, bindJ_go]
              cases decide (s[i] = 10) with
              | true => simp only [Bool.not_true, cond_false, bindJ_go, Bool.true_or]
              | false =>
                simp only [Bool.not_false, cond_true, Bool.false_or]
                rw [idx_get'' hlt, q 13 13 rfl, bindJ_go]
        rw [hsp]
        cases hb : spc s[i] with
        | true =>
          rw [hb, if_pos rfl] at hk
          rw [Bool.not_true, cond_false, w64 (by omega) (by omega)]
          exact .inl ⟨((i + 1 : Nat) : Int), rfl, ⟨i + 1, rfl, by omega, hk⟩, by simp; omega⟩
        | false =>
          rw [hb] at hk
          simp only [Bool.false_eq_true, if_false] at hk
          rw [Bool.not_false, cond_true]
          refine .inr ⟨_, rfl, .inr ?_⟩
          rw [← hk]
          simp only [Lp.stop.injEq, List.length_cons, List.length_drop]
          omega
    · rw [decide_eq_false (by omega), cond_false]
      have : s.drop i = [] := List.drop_eq_nil_of_le (by omega)
      rw [this] at hk
      refine .inr ⟨_, rfl, .inl ?_⟩
      rw [← hk]
      simp only [skipP, Lp.go.injEq, List.length_nil]
      omega) n (a : Int) ⟨a, rfl, ha, rfl⟩ (by simp; omega)
  rw [e]
  rcases h with rfl | rfl
  · rfl
  · rfl
theorem rword_eq (v : List UInt8) (n : Nat) (hn : 100 < n) : ref18_Word n v = some (decide (v ∈ kwP)) := by
  unfold ref18_Word
  rw [show ref18_Words = some kwP from rfl]
  simp only [obind, Option.bind_some]
  have hk : kwP.length = 39 := (by decide +kernel)
  obtain ⟨r, e, h⟩ := iter_inv (step := ref18_Word_L1 v kwP) (fun x => ∃ i : Nat, x = (i : Int) ∧ i ≤ kwP.length ∧ ∀ j (h : j < kwP.length), j < i → kwP[j] ≠ v) (fun x => kwP.length - x.toNat)
    (fun r => (r = .go () ∧ v ∉ kwP) ∨ (r = .stop true ∧ v ∈ kwP)) (by
    rintro x ⟨i, rfl, hi, hj⟩
    unfold ref18_Word_L1
    by_cases hlt : i < kwP.length
    · rw [decide_eq_true (by omega), cond_true, idx_get'' hlt]
      by_cases hv : kwP[i] = v
      · rw [decide_eq_true hv, cond_true]
        exact .inr ⟨_, rfl, .inr ⟨rfl, hv ▸ List.getElem_mem hlt⟩⟩
      · rw [decide_eq_false hv, cond_false, w64 (by omega) (by omega)]
        refine .inl ⟨((i + 1 : Nat) : Int), rfl, ⟨i + 1, rfl, by omega, fun j a b => ?_⟩, by simp; omega⟩
        by_cases e : j = i
        · subst e; exact hv
        · exact hj j a (by omega)
    · rw [decide_eq_false (by omega), cond_false]
      refine .inr ⟨_, rfl, .inl ⟨rfl, fun hv => ?_⟩⟩
      obtain ⟨j, a, e⟩ := List.getElem_of_mem hv
      exact hj j a (by omega) e) n 0 ⟨0, rfl, by omega, fun j a b => by omega⟩ (by simp; omega)
  rw [e]
  rcases h with ⟨rfl, h⟩ | ⟨rfl, h⟩
  · rw [decide_eq_false h]; rfl
  · rw [decide_eq_true h]; rfl
/-- what the specification gets at an offset -/
def gotP (s : List UInt8) (a : Nat) : Sum Int (Int × List UInt8 × List UInt8) → S_ref18_Got
  | .inl e => ⟨⟨0, 0, []⟩, 0, e⟩
  | .inr (k, w, r) => ⟨⟨k, (a : Int), w⟩, ((s.length - r.length : Nat) : Int), 0⟩
theorem rname_eq (s : List UInt8) (hs : s.length ≤ 1000000) (a : Nat) (ha : a ≤ s.length) (n : Nat) (hn : s.length + 100 < n) : ref18_name n s (a : Int) = some (gotP s a (namP kwP (s.drop a))) := by
  unfold ref18_name namP
  rw [while_gen rst s hs (ref18_name_L1 s) (fun i h => by
    unfold ref18_name_L1
    rw [decide_eq_true (by omega), cond_true, idx_get'' h, rrest_eq]
    simp only [obind, Option.bind_some, bindJ_go]
    rw [w64 (by omega) (by omega)]
    cases rst s[i] <;> rfl) (by
    unfold ref18_name_L1
    rw [decide_eq_false (by omega), cond_false, bindJ_go, cond_false]) a ha n (by omega), bindJ_go]
  obtain ⟨h1, h2, h3⟩ := while_fin (s := s) (p := rst) ha
  have hl := congrArg List.length h2
  rw [List.length_drop] at hl
  have hat : ((a + ((s.drop a).takeWhile rst).length : Nat) : Int) = ((s.length - ((s.drop a).dropWhile rst).length : Nat) : Int) := by omega
  rw [need_pos (by omega), Int.toNat_natCast, Int.toNat_natCast, h1, rword_eq _ n (by omega), hat]
  simp only [obind, Option.bind_some]
  by_cases hw : (s.drop a).takeWhile rst ∈ kwP
  · rw [decide_eq_true hw, cond_true, if_pos hw]
    rfl
  · rw [decide_eq_false hw, cond_false, if_neg hw]
    by_cases h40 : 40 < ((s.drop a).takeWhile rst).length
    · rw [decide_eq_true (by omega), cond_true, if_pos h40]
      rfl
    · rw [decide_eq_false (by omega), cond_false, if_neg h40]
      rfl
theorem rnumber_eq (s : List UInt8) (hs : s.length ≤ 1000000) (a : Nat) (ha : a < s.length) (hd : dg s[a] = true) (n : Nat) (hn : s.length + 100 < n) : ref18_number n s (a : Int) = some (gotP s a (numP (s.drop a))) := by
  unfold ref18_number numP
  rw [while_gen dg s hs (ref18_number_L1 s) (fun i h => by
    unfold ref18_number_L1
    rw [decide_eq_true (by omega), cond_true, idx_get'' h, rdigit_eq]
    simp only [obind, Option.bind_some, bindJ_go]
    rw [w64 (by omega) (by omega)]
    cases dg s[i] <;> rfl) (by
    unfold ref18_number_L1
    rw [decide_eq_false (by omega), cond_false, bindJ_go, cond_false]) a (by omega) n (by omega), bindJ_go]
  obtain ⟨h1, h2, h3⟩ := while_fin (s := s) (p := dg) (show a ≤ s.length by omega)
  have hl := congrArg List.length h2
  rw [List.length_drop] at hl
  have htw : (s.drop a).takeWhile dg = s[a] :: (s.drop (a + 1)).takeWhile dg := by rw [drop_cons ha, List.takeWhile_cons_of_pos hd]
  have hsub : IntKind.i64.wrap (((a + ((s.drop a).takeWhile dg).length : Nat) : Int) - (a : Int)) = (((s.drop a).takeWhile dg).length : Int) := by rw [w64 (by omega) (by omega)]; omega
  rw [hsub]
  have hfirst : ∀ {R : Type} (k : Bool → Option R), bindJ (S := Bool) (cond (decide (18 < (((s.drop a).takeWhile dg).length : Int))) (some (.go true))
      (idx s (a : Int) fun c28 => some (.go (decide ((c28.toNat : Int) = 48) && decide (1 < (((s.drop a).takeWhile dg).length : Int)))))) k
      = k (decide (18 < ((s.drop a).takeWhile dg).length) || (decide (((s.drop a).takeWhile dg).head? = some 48) && decide (1 < ((s.drop a).takeWhile dg).length))) := by
    intro R k
    by_cases h18 : 18 < ((s.drop a).takeWhile dg).length
    · rw [decide_eq_true (by omega), cond_true, bindJ_go, decide_eq_true h18, Bool.true_or]
    · rw [decide_eq_false (by omega), cond_false, idx_get'' ha, bindJ_go, htw]
      rw [htw] at h18
      simp only [List.head?_cons]
      rw [byte_eq s[a] 48 48 rfl, decide_eq_false h18, Bool.false_or]
      congr 2
      · by_cases h48 : s[a] = 48 <;> simp [h48]
      · rw [decide_eq_decide]; omega
  rw [hfirst]
  have hnext : ∀ {R : Type} (q : Bool) (k : Bool → Option R), bindJ (S := Bool) (cond q (some (.go true)) (bindJ (S := Bool) (cond (decide (((a + ((s.drop a).takeWhile dg).length : Nat) : Int) < (s.length : Int)))
       (idx s ((a + ((s.drop a).takeWhile dg).length : Nat) : Int) fun c44 =>
       obind (ref18_letter (c44.toNat : Int)) fun r45 => some (.go r45)) (some (.go false)))
     (fun b38 => some (.go b38)))) k = k (q || (match (s.drop a).dropWhile dg with | [] => false | c :: _ => ltr c)) := by
    intro R q k
    cases q with
    | true => rw [cond_true, bindJ_go, Bool.true_or]
    | false =>
      rw [cond_false, Bool.false_or]
      by_cases hj : a + ((s.drop a).takeWhile dg).length < s.length
      · have hcj := drop_cons hj
        rw [h2] at hcj
        rw [decide_eq_true (by omega), cond_true, idx_get'' hj, rletter_eq _ (dw_head _ _ _ hcj), hcj]
        rfl
      · have : (s.drop a).dropWhile dg = [] := by
          apply List.eq_nil_of_length_eq_zero
          omega
        rw [decide_eq_false (by omega), cond_false, this]
        rfl
  rw [hnext]
  unfold badNum
  cases hB : (decide (18 < ((s.drop a).takeWhile dg).length) || (decide (((s.drop a).takeWhile dg).head? = some 48) && decide (1 < ((s.drop a).takeWhile dg).length)) || (match (s.drop a).dropWhile dg with | [] => false | c :: _ => ltr c)) with
  | true => rfl
  | false =>
    simp only [cond_false, Bool.false_eq_true, if_false]
    rw [need_pos (by omega), Int.toNat_natCast, Int.toNat_natCast, h1]
    simp only [gotP, Option.some.injEq, S_ref18_Got.mk.injEq, true_and, and_true]
    omega
theorem rtext_eq (s : List UInt8) (hs : s.length ≤ 1000000) (a : Nat) (ha : a < s.length) (n : Nat) (hn : s.length + 100 < n) : ref18_text n s (a : Int) = some (gotP s a (txtP [] (s.drop (a + 1)))) := by
  unfold ref18_text
  rw [w64 (by omega) (by omega), show (a : Int) + 1 = ((a + 1 : Nat) : Int) by omega]
  obtain ⟨r, e, h⟩ := iter_inv (step := ref18_text_L1 s (a : Int)) (fun x => ∃ (out : List UInt8) (i : Nat), x = (out, (i : Int)) ∧ i ≤ s.length ∧ out.length ≤ i ∧ txtP out (s.drop i) = txtP [] (s.drop (a + 1))) (fun x => s.length - x.2.toNat)
    (fun r => (r = .go () ∧ txtP [] (s.drop (a + 1)) = .inl 182) ∨ r = .stop (gotP s a (txtP [] (s.drop (a + 1))))) (by
    rintro x ⟨out, i, rfl, hi, ho, hk⟩
    unfold ref18_text_L1
    simp only
    by_cases hlt : i < s.length
    · have hc := drop_cons hlt
      rw [hc, txt_cons] at hk
      rw [decide_eq_true (by omega), cond_true, idx_get'' hlt, byte_eq s[i] 34 34 rfl]
      by_cases h34 : s[i] = 34
      · rw [decide_eq_true h34, cond_true]
        rw [if_pos h34] at hk
        by_cases h200 : 200 < out.length
        · rw [decide_eq_true (by omega), cond_true]
          rw [if_pos h200] at hk
          exact .inr ⟨_, rfl, .inr (by rw [← hk]; rfl)⟩
        · rw [decide_eq_false (by omega), cond_false, w64 (by omega) (by omega)]
          rw [if_neg h200] at hk
          refine .inr ⟨_, rfl, .inr ?_⟩
          rw [← hk]
          simp only [gotP, List.length_drop, Lp.stop.injEq, S_ref18_Got.mk.injEq, true_and, and_true]
          omega
      · rw [decide_eq_false h34, cond_false]
        rw [if_neg h34] at hk
        by_cases hb : s[i].toNat < 32 ∨ 126 < s[i].toNat
        · rw [show (decide (((s[i].toNat : Nat) : Int) < 32) || decide ((126 : Int) < ((s[i].toNat : Nat) : Int))) = true by simp only [Bool.or_eq_true, decide_eq_true_eq]; omega, cond_true]
          have h92 : s[i] ≠ 92 := by intro q; rw [q] at hb; exact absurd hb (by decide)
          rw [if_neg h92, if_pos hb] at hk
          exact .inr ⟨_, rfl, .inr (by rw [← hk]; rfl)⟩
        · rw [show (decide (((s[i].toNat : Nat) : Int) < 32) || decide ((126 : Int) < ((s[i].toNat : Nat) : Int))) = false by rw [Bool.eq_false_iff]; intro h; simp only [Bool.or_eq_true, decide_eq_true_eq] at h; omega, cond_false, byte_eq s[i] 92 92 rfl]
          by_cases h92 : s[i] = 92
          · rw [decide_eq_true h92, cond_true]
            rw [if_pos h92] at hk
            rw [w64 (x := (i : Int) + 1) (by omega) (by omega), show (i : Int) + 1 = ((i + 1 : Nat) : Int) by omega]
            by_cases hl2 : i + 1 < s.length
            · rw [decide_eq_false (by omega), cond_false, idx_get'' hl2]
              rw [drop_cons hl2] at hk
              simp only at hk
              rw [show decide ((s[i + 1].toNat : Int) ≠ 34) = !decide (s[i + 1] = 34) by rw [← byte_eq s[i + 1] 34 34 rfl]; simp]
              have hgood : ∀ hm : s[i + 1] = 34 ∨ s[i + 1] = 92, (idx s ((i + 1 : Nat) : Int) fun c43 => (some (.go (((i + 1 : Nat) : Int), (c43.toNat : Int))) : Option (Lp (Int × Int) (Lp ((List UInt8) × Int) (Lp Unit S_ref18_Got))))) = some (.go (((i + 1 : Nat) : Int), (s[i + 1].toNat : Int))) := fun _ => by rw [idx_get'' hl2]
              by_cases hm : s[i + 1] = 34 ∨ s[i + 1] = 92
              · rw [if_pos hm] at hk
                have hr : 32 ≤ s[i + 1].toNat ∧ s[i + 1].toNat ≤ 126 := by rcases hm with h | h <;> rw [h] <;> decide
                have hb2 : bindJ (S := Bool) (R := Lp (Int × Int) (Lp ((List UInt8) × Int) (Lp Unit S_ref18_Got))) (bindJ (S := Bool) (cond (!decide (s[i + 1] = 34)) (idx s ((i + 1 : Nat) : Int) fun c41 => some (.go (decide ((c41.toNat : Int) ≠ 92)))) (some (.go false))) (fun b35 => some (.go b35)))
                    (fun b28 => cond b28 (some (.stop (.stop (.stop (S_ref18_Got.mk (S_api_Lexeme.mk 0 0 []) 0 182))))) (idx s ((i + 1 : Nat) : Int) fun c43 => some (.go (((i + 1 : Nat) : Int), (c43.toNat : Int))))) = some (.go (((i + 1 : Nat) : Int), (s[i + 1].toNat : Int))) := by
                  rw [hgood hm]
                  by_cases h1 : s[i + 1] = 34
                  · simp only [h1, decide_true, Bool.not_true, cond_false, bindJ_go]
                  · have h2 : s[i + 1] = 92 := by rcases hm with h | h; exact absurd h h1; exact h
                    simp only [h1, decide_false, Bool.not_false, cond_true]
                    rw [idx_get'' hl2, h2]
                    rfl
                rw [hb2, bindJ_go, need_pos (by omega), need_pos (by simp; omega), w64 (by omega) (by omega)]
                refine .inl ⟨_, rfl, ⟨out ++ [s[i + 1]], i + 2, ?_, by omega, by simp; omega, hk⟩, by simp only; omega⟩
                simp
                omega
              · rw [if_neg hm] at hk
                have h1 : s[i + 1] ≠ 34 := fun q => hm (.inl q)
                have h2 : s[i + 1] ≠ 92 := fun q => hm (.inr q)
                simp only [h1, decide_false, Bool.not_false, cond_true]
                rw [idx_get'' hl2, show decide ((s[i + 1].toNat : Int) ≠ 92) = !decide (s[i + 1] = 92) by rw [← byte_eq s[i + 1] 92 92 rfl]; simp]
                simp only [h2, decide_false, Bool.not_false, bindJ_go, cond_true, bindJ_stop]
                exact .inr ⟨_, rfl, .inr (by rw [← hk]; rfl)⟩
            · rw [decide_eq_true (by omega), cond_true, bindJ_go, cond_true, bindJ_stop]
              have : s.drop (i + 1) = [] := List.drop_eq_nil_of_le (by omega)
              rw [this] at hk
              exact .inr ⟨_, rfl, .inr (by rw [← hk]; rfl)⟩
          · rw [decide_eq_false h92, cond_false, bindJ_go]
            rw [if_neg h92, if_neg hb] at hk
            simp only
            rw [need_pos (by omega), need_pos (by simp; omega), w64 (by omega) (by omega)]
            refine .inl ⟨_, rfl, ⟨out ++ [s[i]], i + 1, ?_, by omega, by simp; omega, hk⟩, by simp only; omega⟩
            simp
    · rw [decide_eq_false (by omega), cond_false]
      have : s.drop i = [] := List.drop_eq_nil_of_le (by omega)
      rw [this, txt_nil] at hk
      exact .inr ⟨_, rfl, .inl ⟨rfl, hk.symm⟩⟩) n ([], ((a + 1 : Nat) : Int)) ⟨[], a + 1, rfl, by omega, by simp, rfl⟩ (by simp; omega)
  rw [e]
  rcases h with ⟨rfl, h⟩ | rfl
  · rw [bindJ_go, h]; rfl
  · rfl
end Go.Proofs.YtgibkdldfnlglaaGreatDoor
namespace Go.Proofs.YtgibkdldfnlglaaGreatDoor
open Go.Abs Go.Lex
set_option linter.unusedSimpArgs false
set_option linter.unusedVariables false
def signsP : List (List UInt8) := longs ++ shorts.map fun q => [q]
/-- does a sign stand at the beginning? -/
def stands (t x : List UInt8) : Bool := decide (x.length ≤ t.length) && decide (t.take x.length = x)
theorem find_short (t : List UInt8) (b : UInt8) : ∀ l : List UInt8, (l.map fun q => [q]).find? (stands (b :: t)) = if b ∈ l then some [b] else none
  | [] => by simp
  | q :: l => by
    have ih := find_short t b l
    rw [List.map_cons, List.find?_cons]
    have : stands (b :: t) [q] = decide (b = q) := by unfold stands; simp
    rw [this]
    by_cases h : b = q
    · subst h; simp
    · rw [decide_eq_false h, ih]
      simp [h]
theorem find_long (b c : UInt8) (t : List UInt8) : ∀ l : List (List UInt8), (∀ x ∈ l, x.length = 2) → l.find? (stands (b :: c :: t)) = if [b, c] ∈ l then some [b, c] else none
  | [], _ => by simp
  | x :: l, h => by
    have ih := find_long b c t l (fun y hy => h y (List.mem_cons_of_mem _ hy))
    have hx := h x (List.mem_cons_self ..)
    rw [List.find?_cons]
    have : stands (b :: c :: t) x = decide ([b, c] = x) := by unfold stands; rw [hx]; simp; exact decide_eq_decide.2 Iff.rfl
    rw [this]
    by_cases q : [b, c] = x
    · rw [decide_eq_true q, if_pos (q ▸ List.mem_cons_self ..), q]
    · rw [decide_eq_false q, ih]
      simp only [List.mem_cons, q, false_or]
theorem find_sign (t : List UInt8) (b : UInt8) : sgnP (b :: t) = match signsP.find? (stands (b :: t)) with | some x => .inr (5, x, (b :: t).drop x.length) | none => .inl 180 := by
  unfold signsP
  rw [List.find?_append, find_short]
  cases t with
  | nil =>
    have : longs.find? (stands [b]) = none := by
      rw [List.find?_eq_none]
      intro x hx
      have h2 : x.length = 2 := by
        have : ∀ x ∈ longs, x.length = 2 := by decide
        exact this x hx
      unfold stands
      rw [h2]
      simp
    rw [this, sgn_one]
    by_cases h : b ∈ shorts
    · rw [if_pos h, if_pos h]; rfl
    · rw [if_neg h, if_neg h]; rfl
  | cons c t =>
    rw [find_long b c t longs (by decide), sgn_two]
    by_cases h1 : [b, c] ∈ longs
    · rw [if_pos h1, if_pos h1]; rfl
    · rw [if_neg h1, if_neg h1]
      by_cases h : b ∈ shorts
      · rw [if_pos h, if_pos h]; rfl
      · rw [if_neg h, if_neg h]; rfl
theorem rsign_eq (s : List UInt8) (hs : s.length ≤ 1000000) (a : Nat) (ha : a < s.length) (n : Nat) (hn : s.length + 100 < n) : ref18_sign n s (a : Int) = some (gotP s a (sgnP (s.drop a))) := by
  unfold ref18_sign
  rw [show ref18_Signs = some signsP from rfl]
  simp only [obind, Option.bind_some]
  have hsl : signsP.length = 22 := rfl
  have hx2 : ∀ x ∈ signsP, x.length ≤ 2 := by decide
  have hc := drop_cons ha
  have hdl : (s.drop a).length = s.length - a := List.length_drop
  obtain ⟨r, e, h⟩ := iter_inv (step := ref18_sign_L1 s (a : Int) signsP) (fun x => ∃ i : Nat, x = (i : Int) ∧ i ≤ signsP.length ∧ (signsP.drop i).find? (stands (s.drop a)) = signsP.find? (stands (s.drop a))) (fun x => signsP.length - x.toNat)
    (fun r => (r = .go () ∧ signsP.find? (stands (s.drop a)) = none) ∨ ∃ x, signsP.find? (stands (s.drop a)) = some x ∧ r = .stop ⟨⟨5, (a : Int), x⟩, ((a + x.length : Nat) : Int), 0⟩) (by
    rintro x ⟨i, rfl, hi, hk⟩
    unfold ref18_sign_L1
    by_cases hlt : i < signsP.length
    · have hx := hx2 _ (List.getElem_mem hlt)
      rw [List.drop_eq_getElem_cons hlt, List.find?_cons] at hk
      rw [decide_eq_true (by omega), cond_true, idx_get'' hlt, w64 (x := (a : Int) + (signsP[i].length : Int)) (by omega) (by omega), show (a : Int) + (signsP[i].length : Int) = ((a + signsP[i].length : Nat) : Int) by omega]
      have hst : ∀ {R : Type} (k : Bool → Option R), bindJ (S := Bool) (cond (decide (((a + signsP[i].length : Nat) : Int) ≤ (s.length : Int)))
          (need (0 ≤ (a : Int) ∧ (a : Int) ≤ ((a + signsP[i].length : Nat) : Int) ∧ ((a + signsP[i].length : Nat) : Int) ≤ (s.length : Int)) (some (.go (decide (((s.take (((a + signsP[i].length : Nat) : Int)).toNat).drop ((a : Int)).toNat) = signsP[i]))))) (some (.go false))) k = k (stands (s.drop a) signsP[i]) := by
        intro R k
        unfold stands
        by_cases hle : a + signsP[i].length ≤ s.length
        · rw [decide_eq_true (by omega), cond_true, need_pos (by omega), bindJ_go, Int.toNat_natCast, Int.toNat_natCast, List.drop_take, Nat.add_sub_cancel_left, hdl, decide_eq_true (show signsP[i].length ≤ s.length - a by omega), Bool.true_and]
        · rw [decide_eq_false (by omega), cond_false, bindJ_go, hdl, decide_eq_false (show ¬ signsP[i].length ≤ s.length - a by omega), Bool.false_and]
      rw [hst]
      cases hq : stands (s.drop a) signsP[i] with
      | true =>
        rw [hq] at hk
        rw [cond_true, idx_get'' hlt]
        exact .inr ⟨_, rfl, .inr ⟨signsP[i], hk.symm, rfl⟩⟩
      | false =>
        rw [hq] at hk
        rw [cond_false, w64 (by omega) (by omega)]
        exact .inl ⟨((i + 1 : Nat) : Int), rfl, ⟨i + 1, rfl, by omega, hk⟩, by simp; omega⟩
    · rw [decide_eq_false (by omega), cond_false]
      rw [show signsP.drop i = [] from List.drop_eq_nil_of_le (by omega)] at hk
      exact .inr ⟨_, rfl, .inl ⟨rfl, by rw [← hk]; rfl⟩⟩) n 0 ⟨0, rfl, by omega, by simp⟩ (by simp; omega)
  rw [e]
  have hf := find_sign (s.drop (a + 1)) s[a]
  rw [← hc] at hf
  rw [hf]
  rcases h with ⟨rfl, h⟩ | ⟨x, h, rfl⟩
  · rw [h]; rfl
  · rw [h]
    have hst := List.find?_some h
    unfold stands at hst
    simp only [Bool.and_eq_true, decide_eq_true_eq] at hst
    rw [hdl] at hst
    simp only [bindJ_stop, gotP, List.length_drop, Option.some.injEq, S_ref18_Got.mk.injEq, true_and, and_true]
    omega
theorem rnext_eq (s : List UInt8) (hs : s.length ≤ 1000000) (a : Nat) (ha : a < s.length) (n : Nat) (hn : s.length + 100 < n) : ref18_next n s (a : Int) = some (gotP s a (nextP kwP (s.drop a))) := by
  unfold ref18_next
  have hc := drop_cons ha
  have hne := next_cons kwP s[a] (s.drop (a + 1))
  rw [← hc] at hne
  rw [idx_get'' ha, rsmall_eq, hne]
  cases h1 : sm s[a] with
  | true =>
    simp only [obind, Option.bind_some, cond_true, if_true]
    rw [rname_eq s hs a (by omega) n hn]; rfl
  | false =>
    simp only [obind, Option.bind_some, cond_false, Bool.false_eq_true, if_false]
    rw [idx_get'' ha, rdigit_eq]
    cases h2 : dg s[a] with
    | true =>
      simp only [Option.bind_some, cond_true, if_true]
      rw [rnumber_eq s hs a ha h2 n hn]; rfl
    | false =>
      simp only [Option.bind_some, cond_false, Bool.false_eq_true, if_false]
      rw [idx_get'' ha, byte_eq s[a] 34 34 rfl]
      by_cases h3 : s[a] = 34
      · simp only [h3, decide_true, cond_true, if_true]
        rw [rtext_eq s hs a ha n hn]; rfl
      · simp only [h3, decide_false, cond_false, if_false]
        rw [rsign_eq s hs a ha n hn]; rfl
theorem rtokens_loop (s : List UInt8) (hs : s.length ≤ 1000000) (n : Nat) (hn : s.length + 100 < n) :
    ∃ r, iter (ref18_Tokens_L1 n s) n (([] : List S_api_Lexeme), ((s.length - (skipP false s).length : Nat) : Int)) = some r ∧
      ((r = .go ((toksP kwP (s.length + 1) s).1.map (mkT s.length)) ∧ (toksP kwP (s.length + 1) s).2 = none) ∨ ∃ k e, r = .stop ⟨[], ⟨((s.length - k : Nat) : Int), e⟩⟩ ∧ (toksP kwP (s.length + 1) s).2 = some (k, e)) := by
  refine iter_inv (step := ref18_Tokens_L1 n s) (fun x => ∃ (d : List (Int × Nat × List UInt8)) (i : Nat), x = (d.map (mkT s.length), (i : Int)) ∧ i ≤ s.length ∧ d.length ≤ i ∧ skipP false (s.drop i) = s.drop i ∧
      (toksP kwP (s.length + 1) s).1 = d ++ (toksP kwP (s.length + 1) (s.drop i)).1 ∧ (toksP kwP (s.length + 1) s).2 = (toksP kwP (s.length + 1) (s.drop i)).2) (fun x => s.length - x.2.toNat) _ ?_ n _ ?_ (by simp; omega)
  · rintro x ⟨d, i, rfl, hi, hd, hk, e1, e2⟩
    unfold ref18_Tokens_L1
    simp only
    by_cases hlt : i < s.length
    · rw [decide_eq_true (show (i : Int) < (s.length : Int) by omega), cond_true, rnext_eq s hs i hlt n hn]
      have hc := drop_cons hlt
      rw [hc] at hk
      cases hq : nextP kwP (s.drop i) with
      | inl e =>
        rw [hc] at hq
        rw [hc, toks_inl hk hq] at e2
        simp only [obind, Option.bind_some, gotP]
        rw [decide_eq_true (next_err hq), cond_true]
        refine .inr ⟨_, rfl, .inr ⟨_, e, ?_, e2⟩⟩
        simp only [List.length_drop, Lp.stop.injEq, S_ref18_Read.mk.injEq, S_api_Problem.mk.injEq, true_and, and_true]
        omega
      | inr q =>
        obtain ⟨kd, w, r⟩ := q
        have hlen := next_len hq
        have hsuf := (next_suf hq).trans (List.drop_suffix i s)
        rw [hc] at hq
        rw [hc, toks_inr hk hq] at e1 e2
        have hrl : r.length ≤ s.length := hsuf.length_le
        simp only [obind, Option.bind_some, gotP]
        rw [show decide ((0 : Int) ≠ 0) = false from rfl, cond_false, need_pos (by simp; omega), rskip_eq s hs _ (by omega) n (by omega), suf_drop hsuf]
        simp only [Option.bind_some]
        have hsk := skip_suffix false r
        have hsl := hsk.length_le
        rw [List.length_drop] at hlen
        refine .inl ⟨_, rfl, ⟨d ++ [(kd, s.length - i, w)], s.length - (skipP false r).length, ?_, by omega, by simp; omega, ?_, ?_, ?_⟩, by simp only; omega⟩
        · simp only [List.map_append, List.map_cons, List.map_nil, Prod.mk.injEq, and_true]
          congr 2
          unfold mkT
          simp only [S_api_Lexeme.mk.injEq, true_and, and_true]
          omega
        · rw [suf_drop (hsk.trans hsuf), skip_idem]
        · rw [suf_drop (hsk.trans hsuf), toks_skip, e1]
          simp only [List.length_drop, List.append_assoc, List.cons_append, List.nil_append]
          rw [toks_fuel kwP s.length (s.length + 1) r (by omega) (by omega), show s.length - (i + 1) + 1 = s.length - i by omega]
        · rw [suf_drop (hsk.trans hsuf), toks_skip, e2]
          simp only
          rw [toks_fuel kwP s.length (s.length + 1) r (by omega) (by omega)]
    · rw [decide_eq_false (by omega), cond_false]
      have : s.drop i = [] := List.drop_eq_nil_of_le (by omega)
      rw [this, toks_nil (kw := kwP) (s := []) rfl] at e1 e2
      refine .inr ⟨_, rfl, .inl ⟨?_, e2⟩⟩
      rw [e1, List.append_nil]
  · have hsk := skip_suffix false s
    refine ⟨[], s.length - (skipP false s).length, rfl, by omega, by simp, ?_, ?_, ?_⟩
    · rw [suf_drop hsk, skip_idem]
    · rw [suf_drop hsk, toks_skip]; rfl
    · rw [suf_drop hsk, toks_skip]
theorem rtokens_eq (s : List UInt8) (hs : s.length ≤ 65536) (n : Nat) (hn : s.length + 100 < n) : ref18_Tokens n s = some ⟨(tokR s).1, (tokR s).2⟩ := by
  unfold ref18_Tokens
  rw [decide_eq_false (by omega), cond_false]
  have h0 := rskip_eq s (by omega) 0 (by omega) n (by omega)
  rw [List.drop_zero] at h0
  have h0' : ref18_skip n s 0 = _ := h0
  rw [h0']
  simp only [obind, Option.bind_some]
  obtain ⟨r, e, h⟩ := rtokens_loop s (by omega) n hn
  rw [e]
  unfold tokR
  rcases h with ⟨rfl, h2⟩ | ⟨k, e, rfl, h2⟩
  · rw [h2]; rfl
  · rw [h2]; rfl
theorem rtokens_long (s : List UInt8) (hs : 65536 < s.length) (n : Nat) : ref18_Tokens n s = some ⟨[], ⟨0, 2⟩⟩ := by
  unfold ref18_Tokens
  rw [decide_eq_true (by omega)]
  rfl
/-! places -/
def lst (s : List UInt8) : Nat → Int
  | 0 => -1
  | k + 1 => if s[k]? = some 10 then (k : Int) else lst s k
theorem lst_eq (s : List UInt8) (a : Nat) (ha : a ≤ s.length) : ∀ k, k ≤ a → Lib.lastIdx (bs (s.take a)) 10 k = lst s k
  | 0, _ => rfl
  | k + 1, h => by
    have ih := lst_eq s a ha k (by omega)
    have hk : k < (s.take a).length := by simp; omega
    unfold Lib.lastIdx lst
    rw [ih]
    have e1 : (bs (s.take a)).data[k]! = s[k]'(by omega) := by
      have : (bs (s.take a)).data = (s.take a).toArray := rfl
      rw [this, getElem!_pos _ k (by simpa using hk)]
      simp
    rw [e1, List.getElem?_eq_getElem (show k < s.length by omega)]
    by_cases hc : s[k]'(by omega) = 10
    · rw [if_pos (by rw [hc]; rfl), if_pos (by rw [hc])]
    · rw [if_neg (fun q => hc (UInt8.toNat_inj.1 (by have : ((10 : UInt8).toNat : Int) = 10 := rfl; omega))), if_neg (fun q => hc (Option.some.inj q))]
theorem lst_le (s : List UInt8) : ∀ k : Nat, -1 ≤ lst s k ∧ lst s k < k
  | 0 => by simp [lst]
  | k + 1 => by
    have := lst_le s k
    unfold lst
    split <;> omega
theorem place_eq (s : List UInt8) (hs : s.length ≤ 100000) (x : Int) (n : Nat) (hn : 200000 < n) : ∃ l c, lexer_Place s x = some (l, c) ∧ ref18_Place n s x = some ⟨l, c⟩ := by
  unfold lexer_Place ref18_Place
  by_cases hx : x < 0 ∨ (s.length : Int) < x
  · rw [show (decide (x < 0) || decide ((s.length : Int) < x)) = true by simp only [Bool.or_eq_true, decide_eq_true_eq]; exact hx]
    exact ⟨0, 0, rfl, rfl⟩
  · rw [show (decide (x < 0) || decide ((s.length : Int) < x)) = false by rw [Bool.eq_false_iff]; intro h; simp only [Bool.or_eq_true, decide_eq_true_eq] at h; exact hx h, cond_false, cond_false]
    obtain ⟨a, rfl⟩ : ∃ a : Nat, x = a := ⟨x.toNat, by omega⟩
    have ha : a ≤ s.length := by omega
    have hll := lst_le s a
    have hcl : (s.take a).count 10 ≤ a := Nat.le_trans List.count_le_length (by simp; omega)
    rw [need_pos (by omega), need_pos (by omega), Int.toNat_natCast]
    have hco : countH (s.take a) [10] = some (((s.take a).count 10 : Nat) : Int) := rfl
    have hla : lastH (s.take a) 10 = some (lst s a) := by
      unfold lastH
      rw [need_pos (by simp; omega)]
      have hsz : (bs (s.take a)).size = a := by simp [bs, ByteArray.size]; omega
      unfold Lib.lastIndexByte
      rw [hsz, lst_eq s a ha a (Nat.le_refl _)]
    rw [hco, hla]
    simp only [obind, Option.bind_some]
    rw [w64 (by omega) (by omega), w64 (by omega) (by omega)]
    obtain ⟨r, e, rfl⟩ := iter_inv (step := ref18_Place_L1 s (a : Int)) (fun x => ∃ i : Nat, x = ((i : Int), 1 + (((s.take i).count 10 : Nat) : Int), (i : Int) - lst s i) ∧ i ≤ a) (fun x => a - x.1.toNat)
      (fun r => r = .go (1 + (((s.take a).count 10 : Nat) : Int), (a : Int) - lst s a)) (by
      rintro x ⟨i, rfl, hi⟩
      unfold ref18_Place_L1
      simp only
      by_cases hlt : i < a
      · have hil : i < s.length := by omega
        have hc2 : (s.take i).count 10 ≤ i := Nat.le_trans List.count_le_length (by simp; omega)
        have hl2 := lst_le s i
        rw [decide_eq_true (by omega), cond_true, idx_get'' hil, byte_eq s[i] 10 10 rfl]
        have htk : s.take (i + 1) = s.take i ++ [s[i]] := (List.take_append_getElem hil).symm
        by_cases hc : s[i] = 10
        · rw [decide_eq_true hc, cond_true, bindJ_go]
          simp only
          rw [w64 (by omega) (by omega), w64 (by omega) (by omega)]
          refine .inl ⟨_, rfl, ⟨i + 1, ?_, by omega⟩, by simp only; omega⟩
          have hl : lst s (i + 1) = i := by unfold lst; rw [List.getElem?_eq_getElem hil, hc, if_pos rfl]
          rw [hl, htk, List.count_append, hc]
          simp only [List.count_singleton_self, Prod.mk.injEq]
          omega
        · rw [decide_eq_false hc, cond_false, bindJ_go]
          simp only
          rw [w64 (by omega) (by omega), w64 (by omega) (by omega)]
          refine .inl ⟨_, rfl, ⟨i + 1, ?_, by omega⟩, by simp only; omega⟩
          have hl : lst s (i + 1) = lst s i := by conv => lhs; unfold lst
                                                  rw [List.getElem?_eq_getElem hil, if_neg (fun q => hc (Option.some.inj q))]
          rw [hl, htk, List.count_append, List.count_eq_zero_of_not_mem (l := [s[i]]) (by simp; exact fun q => hc q.symm)]
          simp only [Prod.mk.injEq]
          omega
      · obtain rfl : i = a := by omega
        rw [decide_eq_false (by omega), cond_false]
        exact .inr ⟨_, rfl, rfl⟩) n (0, 1, 1) ⟨0, by simp [lst], by omega⟩ (by simp; omega)
    rw [e, bindJ_go]
    exact ⟨_, _, rfl, rfl⟩
end Go.Proofs.YtgibkdldfnlglaaGreatDoor
namespace Go.Proofs.YtgibkdldfnlglaaGreatDoor
open Go.Abs
set_option linter.unusedVariables false
set_option linter.unusedSimpArgs false
set_option maxRecDepth 20000
set_option maxHeartbeats 4000000

def law18_LexerReadsAsSpecified (n : Nat) (s_0 : (List UInt8)) (at_1 : Int) : Option (Bool) :=
 cond ((decide (2000 < (s_0.length : Int)) && decide ((s_0.length : Int) ≤ 65536)) || decide (65636 < (s_0.length : Int)))
  (obind (law18_sanity n) fun r8 =>
  some r8)
  (obind (lexer_Tokens n s_0) fun r10 =>
  obind (ref18_Tokens n s_0) fun r14 =>
  obind (lexer_Place s_0 at_1) fun r19 =>
  obind (ref18_Place n s_0 at_1) fun r21 =>
  obind (law18_sanity n) fun r24 =>
  bindJ (S := Bool)
   (cond r24
    (obind (law18_equal n r10.1 r14.L) fun r32 =>
    some (.go r32))
    (some (.go false)))
  (fun b26 =>
   bindJ (S := Bool)
    (cond (b26 && (decide (r10.2.At = r14.P.At) && (decide (r10.2.E = r14.P.E))))
     (obind (lexer_Words) fun r43 =>
     obind (ref18_Words) fun r46 =>
     obind (law18_words n r43 r46) fun r49 =>
     some (.go r49))
     (some (.go false)))
   (fun b37 =>
    bindJ (S := Bool)
     (cond b37
      (obind (lexer_Word n s_0) fun r57 =>
      obind (ref18_Word n s_0) fun r59 =>
      some (.go (r57 == r59)))
      (some (.go false)))
    (fun b51 =>
     some ((b51 && decide (r19.1 = r21.Line)) && decide (r19.2 = r21.Column))))))
theorem law18_LexerReadsAsSpecified_ok (n : Nat) (s_0 : (List UInt8)) (at_1 : Int)  {r : Bool} (h : law18_LexerReadsAsSpecified n s_0 at_1 = some r) :
  Meets Tryz.prog 3 [.string (bs s_0), .int .i64 at_1] [globA] (fun v G => v = .bool r ∧ G = []) := by
 refine fn_of_run Tryz.func3 rfl Tryz.ntmps3 rfl (fun w0 o0 => ?_)
 refine run_seq ?_
 refine run_region' ?_
 refine oy rfl rfl (y_assign rfl) ?_
 refine ops_nil ?_
 refine goes_code ?_
 refine run_seq ?_
 refine run_seq ?_
 refine run_region' ?_
 refine oy rfl rfl (y_move rfl) ?_
 refine oy rfl rfl (y_len_str rfl Tryz.runUnderlying9 rfl) ?_
 refine oy rfl rfl (y_gtr rfl rfl) ?_
 refine oy rfl rfl (y_move rfl) ?_
 refine ops_cut 4 (Bool) (fun σ => [(0, .string (bs s_0)), (1, .int .i64 at_1), (18, .bool σ)]) (fun σ => [globA]) (fun σ => σ = (decide (2000 < (s_0.length : Int)) && decide ((s_0.length : Int) ≤ 65536))) (fun L1 hL2 => ?_) ?_
 ·refine ops_split 14 (decide (2000 < (s_0.length : Int))) rfl (fun hg3 => ?_) (fun hg3 => ?_)
  ·skip
   refine ops_y (wg 3 true 14 rfl rfl rfl rfl) rfl (y_move rfl) ?_
   refine ops_y (wg 3 true 14 rfl rfl rfl rfl) rfl (y_len_str rfl Tryz.runUnderlying9 rfl) ?_
   refine ops_y (wg 3 true 14 rfl rfl rfl rfl) rfl (y_leq rfl rfl) ?_
   refine oy rfl rfl (y_pick (b := true) rfl rfl) ?_
   refine ops_nil ?_
   exact goes_cut hL2 (decide ((s_0.length : Int) ≤ 65536)) [0] (qv3 rfl rfl rfl) (by decide) rfl (by rw [hg3]; simp)
  ·skip
   refine ops_no 3 true 14 rfl rfl rfl rfl rfl ?_
   refine ops_no 3 true 14 rfl rfl rfl rfl rfl ?_
   refine ops_no 3 true 14 rfl rfl rfl rfl rfl ?_
   refine oy rfl rfl (y_pick (b := false) rfl rfl) ?_
   refine ops_nil ?_
   exact goes_cut hL2 false [0] (qv3 rfl rfl rfl) (by decide) rfl (by rw [hg3]; simp)
 rintro _ rfl
 refine oy rfl rfl (y_move rfl) ?_
 refine ops_cut 4 (Bool) (fun σ => [(0, .string (bs s_0)), (1, .int .i64 at_1), (23, .bool σ)]) (fun σ => [globA]) (fun σ => σ = ((decide (2000 < (s_0.length : Int)) && decide ((s_0.length : Int) ≤ 65536)) || decide (65636 < (s_0.length : Int)))) (fun L4 hL5 => ?_) ?_
 ·refine ops_split 19 (decide (2000 < (s_0.length : Int)) && decide ((s_0.length : Int) ≤ 65536)) rfl (fun hg6 => ?_) (fun hg6 => ?_)
  ·skip
   refine ops_no 8 false 19 rfl rfl rfl rfl rfl ?_
   refine ops_no 8 false 19 rfl rfl rfl rfl rfl ?_
   refine ops_no 8 false 19 rfl rfl rfl rfl rfl ?_
   refine oy rfl rfl (y_pick (b := true) rfl rfl) ?_
   refine ops_nil ?_
   exact goes_cut hL5 true [0] (qv3 rfl rfl rfl) (by decide) rfl (by rw [hg6]; simp)
  ·skip
   refine ops_y (wg 8 false 19 rfl rfl rfl rfl) rfl (y_move rfl) ?_
   refine ops_y (wg 8 false 19 rfl rfl rfl rfl) rfl (y_len_str rfl Tryz.runUnderlying9 rfl) ?_
   refine ops_y (wg 8 false 19 rfl rfl rfl rfl) rfl (y_gtr rfl rfl) ?_
   refine oy rfl rfl (y_pick (b := false) rfl rfl) ?_
   refine ops_nil ?_
   exact goes_cut hL5 (decide (65636 < (s_0.length : Int))) [0] (qv3 rfl rfl rfl) (by decide) rfl (by rw [hg6]; simp)
 rintro _ rfl
 refine ops_nil ?_
 refine goes_code ?_
 refine run_cond ((decide (2000 < (s_0.length : Int)) && decide ((s_0.length : Int) ≤ 65536)) || decide (65636 < (s_0.length : Int))) rfl (fun hc7 => ?_) (fun hc7 => ?_)
 ·replace h := cond_t h hc7
  refine run_seq ?_
  refine run_region' ?_
  obtain ⟨r8, hr9, h⟩ := obind_some h
  refine ot rfl rfl (t_callx (vs := []) (cs := []) [(0, 0)] rfl Tryz.call9 rfl (law18_sanity_ok n   hr9) (showsX_view 0 rfl views_glob showsX_nil) rfl (.inl rfl)) ?_
  rintro _ _ ⟨_, ⟨rfl, rfl⟩, rfl⟩
  refine oy rfl rfl (y_assign rfl) ?_
  refine ops_nil ?_
  refine goes_code ?_
  refine run_ret ?_
  obtain rfl := some_eq h
  refine fin_slots [4] [.bool r8] [] [] Tryz.results3 rfl (by decide) rfl ?_
  exact ⟨rfl, rfl⟩
 ·replace h := cond_f h hc7
  refine run_skip ?_
  refine goes_code ?_
  refine run_seq ?_
  refine run_region' ?_
  refine oy rfl rfl (y_move rfl) ?_
  obtain ⟨r10, hr11, h⟩ := obind_some h
  refine ot rfl rfl (t_callx (vs := [.string (bs s_0)]) (cs := []) [(0, 0)] rfl Tryz.call10 rfl (lexer_Tokens_ok n s_0  hr11) (showsX_view 0 rfl views_glob showsX_nil) rfl (.inl rfl)) ?_
  rintro _ _ ⟨_, ⟨v12, rfl, rfl⟩, rfl⟩
  refine oy rfl rfl (y_move rfl) ?_
  refine oy rfl rfl (y_extract rfl rfl) ?_
  refine oy rfl rfl (y_extract rfl rfl) ?_
  refine ot rfl rfl (t_alloc Tryz.zeroValue26) ?_
  rintro _ _ ⟨b13, rfl, rfl⟩
  refine oy rfl rfl (y_assign rfl) ?_
  refine ot rfl rfl (t_store 2 Tryz.sizeOf26 rfl rfl rfl rfl (by simp [Value.cells, boxP]) (by simp [Value.cells, Value.oneCell', boxP])) ?_
  rintro _ _ ⟨rfl, rfl⟩
  refine ops_turn (retell 2 (g := box b13 [.int .i64 r10.2.At, .int .i64 r10.2.E]) rfl rfl) ?_
  refine ops_nil ?_
  refine goes_code ?_
  refine run_seq ?_
  refine run_weak [(0, .string (bs s_0)), (1, .int .i64 at_1), (6, boxP b13 0), (5, v12)] [0, 1, 2] [globA, row v12 3 (r10.1.map S_api_Lexeme.enc), box b13 [.int .i64 r10.2.At, .int .i64 r10.2.E]] (qv4 rfl rfl rfl rfl) (by decide) rfl ?_
  refine run_region' ?_
  refine oy rfl rfl (y_move rfl) ?_
  obtain ⟨r14, hr15, h⟩ := obind_some h
  refine ot rfl rfl (t_callx (vs := [.string (bs s_0)]) (cs := []) [] rfl Tryz.call11 rfl (ref18_Tokens_ok n s_0  hr15) showsX_nil rfl (.inl rfl)) ?_
  rintro _ _ ⟨_, ⟨v16, rfl, rfl⟩, rfl⟩
  refine ot rfl rfl (t_alloc Tryz.zeroValue30) ?_
  rintro _ _ ⟨b17, rfl, rfl⟩
  refine ops_slc 3 rfl reads_row (fun hs18 hs18o => ?_)
  refine ot rfl rfl (t_store 4 Tryz.sizeOf30 rfl rfl rfl rfl (by simp [Value.cells, boxP]) (allL_cons hs18o (allL_cons rfl (allL_cons rfl (allL_nil))))) ?_
  rintro _ _ ⟨rfl, rfl⟩
  refine ops_turn (retell 4 (g := box b17 [v16, .int .i64 r14.P.At, .int .i64 r14.P.E]) rfl rfl) ?_
  refine ops_nil ?_
  refine goes_code ?_
  refine run_seq ?_
  refine run_region' ?_
  refine oy rfl rfl (y_move rfl) ?_
  refine oy rfl rfl (y_move rfl) ?_
  obtain ⟨r19, hr20, h⟩ := obind_some h
  refine ot rfl rfl (t_callx (vs := [.string (bs s_0), .int .i64 at_1]) (cs := []) [] rfl Tryz.call12 rfl (lexer_Place_ok s_0 at_1  hr20) showsX_nil rfl (.inl rfl)) ?_
  rintro _ _ ⟨_, ⟨rfl, rfl⟩, rfl⟩
  refine oy rfl rfl (y_move rfl) ?_
  refine oy rfl rfl (y_extract rfl rfl) ?_
  refine oy rfl rfl (y_extract rfl rfl) ?_
  refine oy rfl rfl (y_assign rfl) ?_
  refine oy rfl rfl (y_assign rfl) ?_
  refine ops_nil ?_
  refine goes_code ?_
  refine run_seq ?_
  refine run_weak [(0, .string (bs s_0)), (1, .int .i64 at_1), (6, boxP b13 0), (5, v12), (7, boxP b17 0), (8, .int .i64 r19.1), (9, .int .i64 r19.2)] [0, 1, 2, 3, 4] [globA, row v12 3 (r10.1.map S_api_Lexeme.enc), box b13 [.int .i64 r10.2.At, .int .i64 r10.2.E], row v16 3 (r14.L.map S_api_Lexeme.enc), box b17 [v16, .int .i64 r14.P.At, .int .i64 r14.P.E]] (qv7 rfl rfl rfl rfl rfl rfl rfl) (by decide) rfl ?_
  refine run_region' ?_
  refine oy rfl rfl (y_move rfl) ?_
  refine oy rfl rfl (y_move rfl) ?_
  obtain ⟨r21, hr22, h⟩ := obind_some h
  refine ot rfl rfl (t_callx (vs := [.string (bs s_0), .int .i64 at_1]) (cs := []) [] rfl Tryz.call13 rfl (ref18_Place_ok n s_0 at_1  hr22) showsX_nil rfl (.inl rfl)) ?_
  rintro _ _ ⟨_, ⟨rfl, rfl⟩, rfl⟩
  refine ot rfl rfl (t_alloc Tryz.zeroValue35) ?_
  rintro _ _ ⟨b23, rfl, rfl⟩
  refine ot rfl rfl (t_store 5 Tryz.sizeOf35 rfl rfl rfl rfl (by simp [Value.cells, boxP]) (by simp [Value.cells, Value.oneCell', boxP])) ?_
  rintro _ _ ⟨rfl, rfl⟩
  refine ops_turn (retell 5 (g := box b23 [.int .i64 r21.Line, .int .i64 r21.Column]) rfl rfl) ?_
  refine ops_nil ?_
  refine goes_code ?_
  refine run_seq ?_
  refine run_region' ?_
  obtain ⟨r24, hr25, h⟩ := obind_some h
  refine ot rfl rfl (t_callx (vs := []) (cs := []) [(0, 0)] rfl Tryz.call9 rfl (law18_sanity_ok n   hr25) (showsX_view 0 rfl views_glob showsX_nil) rfl (.inl rfl)) ?_
  rintro _ _ ⟨_, ⟨rfl, rfl⟩, rfl⟩
  refine oy rfl rfl (y_move rfl) ?_
  obtain ⟨o27, h, ho28⟩ := bindJ_some h
  refine ops_cut 5 (Bool) (fun σ => [(0, .string (bs s_0)), (6, boxP b13 0), (7, boxP b17 0), (8, .int .i64 r19.1), (9, .int .i64 r19.2), (10, boxP b23 0), (47, .bool σ)]) (fun σ => [globA, box b13 [.int .i64 r10.2.At, .int .i64 r10.2.E], row v16 3 (r14.L.map S_api_Lexeme.enc), box b17 [v16, .int .i64 r14.P.At, .int .i64 r14.P.E], box b23 [.int .i64 r21.Line, .int .i64 r21.Column]]) (fun σ => o27 = .go σ) (fun L29 hL30 => ?_) ?_
  ·refine ops_split 42 r24 rfl (fun hg31 => ?_) (fun hg31 => ?_)
   ·replace h := cond_t h hg31
    refine ops_y (wg 1 true 42 rfl rfl rfl rfl) rfl (y_move rfl) ?_
    refine ops_y (wg 1 true 42 rfl rfl rfl rfl) rfl (y_fieldAddr_box (sz := 0) Tryz.runUnderlying30 rfl Tryz.sizeOf23 rfl) ?_
    refine ops_y (wg 1 true 42 rfl rfl rfl rfl) rfl (y_load_box 4 Tryz.isAgg23 rfl rfl rfl) ?_
    obtain ⟨r32, hr33, h⟩ := obind_some h
    refine ops_t (wg 1 true 42 rfl rfl rfl rfl) rfl (t_callx (vs := [v12, v16]) (cs := []) [(1, 1), (3, 1)] rfl Tryz.call14 rfl (law18_equal_ok n r10.1 r14.L v12 v16 hr33) (showsX_look 1 rfl views_row (showsX_look 3 rfl views_row showsX_nil)) rfl (.inr (by rintro _ _ ⟨rfl, rfl⟩ g hg; first | (cases hg; done) | (simp only [List.mem_cons, List.not_mem_nil, or_false] at hg; first | (subst hg; first | exact strict_row | exact strict_box) | (rcases hg with rfl | rfl <;> first | exact strict_row | exact strict_box) | (rcases hg with rfl | rfl | rfl <;> first | exact strict_row | exact strict_box))))) ?_
    rintro _ _ ⟨_, ⟨rfl, rfl⟩, rfl⟩
    refine oy rfl rfl (y_pick (b := true) rfl rfl) ?_
    refine ops_nil ?_
    obtain rfl := some_eq h
    exact goes_cut hL30 r32 [0, 2, 3, 4, 5] (qv7 rfl rfl rfl rfl rfl rfl rfl) (by decide) rfl rfl
   ·replace h := cond_f h hg31
    refine ops_no 1 true 42 rfl rfl rfl rfl rfl ?_
    refine ops_no 1 true 42 rfl rfl rfl rfl rfl ?_
    refine ops_no 1 true 42 rfl rfl rfl rfl rfl ?_
    refine ops_no 1 true 42 rfl rfl rfl rfl rfl ?_
    refine oy rfl rfl (y_pick (b := false) rfl rfl) ?_
    refine ops_nil ?_
    obtain rfl := some_eq h
    exact goes_cut hL30 false [0, 2, 3, 4, 5] (qv7 rfl rfl rfl rfl rfl rfl rfl) (by decide) rfl rfl
  rintro b26 hj
  obtain rfl : o27 = _ := hj
  replace h := after_go ho28
  clear ho28
  refine oy rfl rfl (y_move rfl) ?_
  refine ops_cut 5 (Bool) (fun σ => [(0, .string (bs s_0)), (8, .int .i64 r19.1), (9, .int .i64 r19.2), (10, boxP b23 0), (53, .bool σ)]) (fun σ => [globA, box b23 [.int .i64 r21.Line, .int .i64 r21.Column]]) (fun σ => σ = (b26 && (decide (r10.2.At = r14.P.At) && (decide (r10.2.E = r14.P.E))))) (fun L34 hL35 => ?_) ?_
  ·refine ops_split 48 b26 rfl (fun hg36 => ?_) (fun hg36 => ?_)
   ·skip
    refine ops_y (wg 7 true 48 rfl rfl rfl rfl) rfl (y_load_boxagg (c := [.int .i64 r10.2.At, .int .i64 r10.2.E]) 1 Tryz.isAgg26 Tryz.sizeOf26 rfl rfl rfl) ?_
    refine ops_y (wg 7 true 48 rfl rfl rfl rfl) rfl (y_fieldAddr_box (sz := 1) Tryz.runUnderlying30 rfl Tryz.sizeOf26 rfl) ?_
    refine ops_y (wg 7 true 48 rfl rfl rfl rfl) rfl (y_load_boxagg (c := [.int .i64 r14.P.At, .int .i64 r14.P.E]) 3 Tryz.isAgg26 Tryz.sizeOf26 rfl rfl rfl) ?_
    refine ops_y (wg 7 true 48 rfl rfl rfl rfl) rfl (y_eqS (by kernel_rfl) (by kernel_rfl) Tryz.runUnderlying26 rfl rfl (.cons (eqf_int (by decide) Tryz.runUnderlying3 Tryz.isAgg3 rfl rfl) (.cons (eqf_int (by decide) Tryz.runUnderlying24 Tryz.isAgg24 rfl rfl) EqFs.nil))) ?_
    refine oy rfl rfl (y_pick (b := true) rfl rfl) ?_
    refine ops_nil ?_
    exact goes_cut hL35 (decide (r10.2.At = r14.P.At) && (decide (r10.2.E = r14.P.E))) [0, 4] (qv5 rfl rfl rfl rfl rfl) (by decide) rfl (by rw [hg36]; simp)
   ·skip
    refine ops_no 7 true 48 rfl rfl rfl rfl rfl ?_
    refine ops_no 7 true 48 rfl rfl rfl rfl rfl ?_
    refine ops_no 7 true 48 rfl rfl rfl rfl rfl ?_
    refine ops_no 7 true 48 rfl rfl rfl rfl rfl ?_
    refine oy rfl rfl (y_pick (b := false) rfl rfl) ?_
    refine ops_nil ?_
    exact goes_cut hL35 false [0, 4] (qv5 rfl rfl rfl rfl rfl) (by decide) rfl (by rw [hg36]; simp)
  rintro _ rfl
  refine oy rfl rfl (y_move rfl) ?_
  obtain ⟨o38, h, ho39⟩ := bindJ_some h
  refine ops_cut 4 (Bool) (fun σ => [(0, .string (bs s_0)), (8, .int .i64 r19.1), (9, .int .i64 r19.2), (10, boxP b23 0), (58, .bool σ)]) (fun σ => [globA, box b23 [.int .i64 r21.Line, .int .i64 r21.Column]]) (fun σ => o38 = .go σ) (fun L40 hL41 => ?_) ?_
  ·refine ops_split 54 (b26 && (decide (r10.2.At = r14.P.At) && (decide (r10.2.E = r14.P.E)))) rfl (fun hg42 => ?_) (fun hg42 => ?_)
   ·replace h := cond_t h hg42
    obtain ⟨r43, hr44, h⟩ := obind_some h
    refine ops_t (wg 13 true 54 rfl rfl rfl rfl) rfl (t_callx (vs := []) (cs := []) [(0, 0)] rfl Tryz.call16 rfl (lexer_Words_ok   hr44) (showsX_view 0 rfl views_glob showsX_nil) rfl (.inl rfl)) ?_
    rintro v45 _ ⟨_, ⟨_, rfl, rfl⟩, rfl⟩
    obtain ⟨r46, hr47, h⟩ := obind_some h
    refine ops_t (wg 13 true 54 rfl rfl rfl rfl) rfl (t_callx (vs := []) (cs := []) [] rfl Tryz.call17 rfl (ref18_Words_ok   hr47) showsX_nil rfl (.inl rfl)) ?_
    rintro v48 _ ⟨_, ⟨_, rfl, rfl⟩, rfl⟩
    obtain ⟨r49, hr50, h⟩ := obind_some h
    refine ops_t (wg 13 true 54 rfl rfl rfl rfl) rfl (t_callx (vs := [v45, v48]) (cs := []) [(2, 1), (3, 1)] rfl Tryz.call15 rfl (law18_words_ok n r43 r46 v45 v48 hr50) (showsX_look 2 rfl views_row (showsX_look 3 rfl views_row showsX_nil)) rfl (.inr (by rintro _ _ ⟨rfl, rfl⟩ g hg; first | (cases hg; done) | (simp only [List.mem_cons, List.not_mem_nil, or_false] at hg; first | (subst hg; first | exact strict_row | exact strict_box) | (rcases hg with rfl | rfl <;> first | exact strict_row | exact strict_box) | (rcases hg with rfl | rfl | rfl <;> first | exact strict_row | exact strict_box))))) ?_
    rintro _ _ ⟨_, ⟨rfl, rfl⟩, rfl⟩
    refine oy rfl rfl (y_pick (b := true) rfl rfl) ?_
    refine ops_nil ?_
    obtain rfl := some_eq h
    exact goes_cut hL41 r49 [0, 1] (qv5 rfl rfl rfl rfl rfl) (by decide) rfl rfl
   ·replace h := cond_f h hg42
    refine ops_no 13 true 54 rfl rfl rfl rfl rfl ?_
    refine ops_no 13 true 54 rfl rfl rfl rfl rfl ?_
    refine ops_no 13 true 54 rfl rfl rfl rfl rfl ?_
    refine oy rfl rfl (y_pick (b := false) rfl rfl) ?_
    refine ops_nil ?_
    obtain rfl := some_eq h
    exact goes_cut hL41 false [0, 1] (qv5 rfl rfl rfl rfl rfl) (by decide) rfl rfl
  rintro b37 hj
  obtain rfl : o38 = _ := hj
  replace h := after_go ho39
  clear ho39
  refine oy rfl rfl (y_move rfl) ?_
  obtain ⟨o52, h, ho53⟩ := bindJ_some h
  refine ops_cut 6 (Bool) (fun σ => [(8, .int .i64 r19.1), (9, .int .i64 r19.2), (10, boxP b23 0), (65, .bool σ)]) (fun σ => [globA, box b23 [.int .i64 r21.Line, .int .i64 r21.Column]]) (fun σ => o52 = .go σ) (fun L54 hL55 => ?_) ?_
  ·refine ops_split 59 b37 rfl (fun hg56 => ?_) (fun hg56 => ?_)
   ·replace h := cond_t h hg56
    refine ops_y (wg 18 true 59 rfl rfl rfl rfl) rfl (y_move rfl) ?_
    obtain ⟨r57, hr58, h⟩ := obind_some h
    refine ops_t (wg 18 true 59 rfl rfl rfl rfl) rfl (t_callx (vs := [.string (bs s_0)]) (cs := []) [(0, 0)] rfl Tryz.call18 rfl (lexer_Word_ok n s_0  hr58) (showsX_view 0 rfl views_glob showsX_nil) rfl (.inl rfl)) ?_
    rintro _ _ ⟨_, ⟨rfl, rfl⟩, rfl⟩
    refine ops_y (wg 18 true 59 rfl rfl rfl rfl) rfl (y_move rfl) ?_
    obtain ⟨r59, hr60, h⟩ := obind_some h
    refine ops_t (wg 18 true 59 rfl rfl rfl rfl) rfl (t_callx (vs := [.string (bs s_0)]) (cs := []) [] rfl Tryz.call19 rfl (ref18_Word_ok n s_0  hr60) showsX_nil rfl (.inl rfl)) ?_
    rintro _ _ ⟨_, ⟨rfl, rfl⟩, rfl⟩
    refine ops_y (wg 18 true 59 rfl rfl rfl rfl) rfl (y_beql Tryz.runUnderlying4 rfl rfl) ?_
    refine oy rfl rfl (y_pick (b := true) rfl rfl) ?_
    refine ops_nil ?_
    obtain rfl := some_eq h
    exact goes_cut hL55 (r57 == r59) [0, 1] (qv4 rfl rfl rfl rfl) (by decide) rfl rfl
   ·replace h := cond_f h hg56
    refine ops_no 18 true 59 rfl rfl rfl rfl rfl ?_
    refine ops_no 18 true 59 rfl rfl rfl rfl rfl ?_
    refine ops_no 18 true 59 rfl rfl rfl rfl rfl ?_
    refine ops_no 18 true 59 rfl rfl rfl rfl rfl ?_
    refine ops_no 18 true 59 rfl rfl rfl rfl rfl ?_
    refine oy rfl rfl (y_pick (b := false) rfl rfl) ?_
    refine ops_nil ?_
    obtain rfl := some_eq h
    exact goes_cut hL55 false [0, 1] (qv4 rfl rfl rfl rfl) (by decide) rfl rfl
  rintro b51 hj
  obtain rfl : o52 = _ := hj
  replace h := after_go ho53
  clear ho53
  refine oy rfl rfl (y_move rfl) ?_
  refine ops_cut 5 (Bool) (fun σ => [(9, .int .i64 r19.2), (10, boxP b23 0), (71, .bool σ)]) (fun σ => [globA, box b23 [.int .i64 r21.Line, .int .i64 r21.Column]]) (fun σ => σ = (b51 && decide (r19.1 = r21.Line))) (fun L61 hL62 => ?_) ?_
  ·refine ops_split 66 b51 rfl (fun hg63 => ?_) (fun hg63 => ?_)
   ·skip
    refine ops_y (wg 25 true 66 rfl rfl rfl rfl) rfl (y_move rfl) ?_
    refine ops_y (wg 25 true 66 rfl rfl rfl rfl) rfl (y_fieldAddr_box (sz := 0) Tryz.runUnderlying35 rfl Tryz.sizeOf3 rfl) ?_
    refine ops_y (wg 25 true 66 rfl rfl rfl rfl) rfl (y_load_box 1 Tryz.isAgg3 rfl rfl rfl) ?_
    refine ops_y (wg 25 true 66 rfl rfl rfl rfl) rfl (y_eql rfl rfl) ?_
    refine oy rfl rfl (y_pick (b := true) rfl rfl) ?_
    refine ops_nil ?_
    exact goes_cut hL62 (decide (r19.1 = r21.Line)) [0, 1] (qv3 rfl rfl rfl) (by decide) rfl (by rw [hg63]; simp)
   ·skip
    refine ops_no 25 true 66 rfl rfl rfl rfl rfl ?_
    refine ops_no 25 true 66 rfl rfl rfl rfl rfl ?_
    refine ops_no 25 true 66 rfl rfl rfl rfl rfl ?_
    refine ops_no 25 true 66 rfl rfl rfl rfl rfl ?_
    refine oy rfl rfl (y_pick (b := false) rfl rfl) ?_
    refine ops_nil ?_
    exact goes_cut hL62 false [0, 1] (qv3 rfl rfl rfl) (by decide) rfl (by rw [hg63]; simp)
  rintro _ rfl
  refine oy rfl rfl (y_move rfl) ?_
  refine ops_cut 5 (Bool) (fun σ => [(77, .bool σ)]) (fun σ => [globA]) (fun σ => σ = ((b51 && decide (r19.1 = r21.Line)) && decide (r19.2 = r21.Column))) (fun L64 hL65 => ?_) ?_
  ·refine ops_split 72 (b51 && decide (r19.1 = r21.Line)) rfl (fun hg66 => ?_) (fun hg66 => ?_)
   ·skip
    refine ops_y (wg 31 true 72 rfl rfl rfl rfl) rfl (y_move rfl) ?_
    refine ops_y (wg 31 true 72 rfl rfl rfl rfl) rfl (y_fieldAddr_box (sz := 0) Tryz.runUnderlying35 rfl Tryz.sizeOf3 rfl) ?_
    refine ops_y (wg 31 true 72 rfl rfl rfl rfl) rfl (y_load_box 1 Tryz.isAgg3 rfl rfl rfl) ?_
    refine ops_y (wg 31 true 72 rfl rfl rfl rfl) rfl (y_eql rfl rfl) ?_
    refine oy rfl rfl (y_pick (b := true) rfl rfl) ?_
    refine ops_nil ?_
    exact goes_cut hL65 (decide (r19.2 = r21.Column)) [0] (qv1 rfl) (by decide) rfl (by rw [hg66]; simp)
   ·skip
    refine ops_no 31 true 72 rfl rfl rfl rfl rfl ?_
    refine ops_no 31 true 72 rfl rfl rfl rfl rfl ?_
    refine ops_no 31 true 72 rfl rfl rfl rfl rfl ?_
    refine ops_no 31 true 72 rfl rfl rfl rfl rfl ?_
    refine oy rfl rfl (y_pick (b := false) rfl rfl) ?_
    refine ops_nil ?_
    exact goes_cut hL65 false [0] (qv1 rfl) (by decide) rfl (by rw [hg66]; simp)
  rintro _ rfl
  refine oy rfl rfl (y_assign rfl) ?_
  refine ops_nil ?_
  refine goes_code ?_
  refine run_ret ?_
  obtain rfl := some_eq h
  refine fin_slots [4] [.bool ((b51 && decide (r19.1 = r21.Line)) && decide (r19.2 = r21.Column))] [] [] Tryz.results3 rfl (by decide) rfl ?_
  exact ⟨rfl, rfl⟩

end Go.Proofs.YtgibkdldfnlglaaGreatDoor
namespace Go.Proofs.YtgibkdldfnlglaaGreatDoor
open Go.Abs Go.Lex
set_option linter.unusedSimpArgs false
set_option linter.unusedVariables false
theorem equal_same (l : List S_api_Lexeme) (hl : l.length ≤ 1000000) (n : Nat) (hn : l.length < n) : law18_equal n l l = some true := by
  unfold law18_equal
  rw [decide_eq_false (by simp), cond_false]
  obtain ⟨r, e, rfl⟩ := iter_inv (step := law18_equal_L1 l l) (fun x => ∃ i : Nat, x = (i : Int) ∧ i ≤ l.length) (fun x => l.length - x.toNat) (fun r => r = .go ()) (by
    rintro x ⟨i, rfl, hi⟩
    unfold law18_equal_L1
    by_cases hlt : i < l.length
    · rw [decide_eq_true (by omega), cond_true, idx_get'' hlt, idx_get'' hlt]
      simp only [decide_true, Bool.and_self, Bool.not_true, cond_false]
      rw [w64 (by omega) (by omega)]
      exact .inl ⟨((i + 1 : Nat) : Int), rfl, ⟨i + 1, rfl, by omega⟩, by simp; omega⟩
    · rw [decide_eq_false (by omega), cond_false]
      exact .inr ⟨_, rfl, rfl⟩) n 0 ⟨0, rfl, by omega⟩ (by simp; omega)
  rw [e]
  rfl
theorem words_same (l : List (List UInt8)) (hl : l.length ≤ 1000000) (n : Nat) (hn : l.length < n) : law18_words n l l = some true := by
  unfold law18_words
  rw [decide_eq_false (by simp), cond_false]
  obtain ⟨r, e, rfl⟩ := iter_inv (step := law18_words_L1 l l) (fun x => ∃ i : Nat, x = (i : Int) ∧ i ≤ l.length) (fun x => l.length - x.toNat) (fun r => r = .go ()) (by
    rintro x ⟨i, rfl, hi⟩
    unfold law18_words_L1
    by_cases hlt : i < l.length
    · rw [decide_eq_true (by omega), cond_true, idx_get'' hlt, idx_get'' hlt]
      simp only [decide_true, Bool.not_true, cond_false]
      rw [w64 (by omega) (by omega)]
      exact .inl ⟨((i + 1 : Nat) : Int), rfl, ⟨i + 1, rfl, by omega⟩, by simp; omega⟩
    · rw [decide_eq_false (by omega), cond_false]
      exact .inr ⟨_, rfl, rfl⟩) n 0 ⟨0, rfl, by omega⟩ (by simp; omega)
  rw [e]
  rfl
theorem tokR_len (s : List UInt8) : (tokR s).1.length ≤ s.length := by
  obtain ⟨h, _, _⟩ := toks_ok kwP (s.length + 1) s
  unfold tokR
  split
  · simp
  · simpa using h
theorem law3_of (s : List UInt8) (x : Int) : ∃ m, law18_LexerReadsAsSpecified m s x = some true := by
  obtain ⟨n, hsane, hn⟩ : ∃ n, law18_sanity n = some true ∧ 1000000 ≤ n := ⟨1000000 + 60, sane _, by omega⟩
  refine ⟨n, ?_⟩
  unfold law18_LexerReadsAsSpecified
  rw [hsane]
  by_cases hc : (2000 < s.length ∧ s.length ≤ 65536) ∨ 65636 < s.length
  · rw [show ((decide (2000 < (s.length : Int)) && decide ((s.length : Int) ≤ 65536)) || decide (65636 < (s.length : Int))) = true by simp only [Bool.or_eq_true, Bool.and_eq_true, decide_eq_true_eq]; omega]
    rfl
  · rw [show ((decide (2000 < (s.length : Int)) && decide ((s.length : Int) ≤ 65536)) || decide (65636 < (s.length : Int))) = false by rw [Bool.eq_false_iff]; intro h; simp only [Bool.or_eq_true, Bool.and_eq_true, decide_eq_true_eq] at h; omega, cond_false]
    have hT : ∃ l p, lexer_Tokens n s = some (l, p) ∧ ref18_Tokens n s = some ⟨l, p⟩ ∧ l.length ≤ 100000 := by
      by_cases hl : s.length ≤ 65536
      · exact ⟨(tokR s).1, (tokR s).2, tokens_eq s hl n (by omega), rtokens_eq s hl n (by omega), by have := tokR_len s; omega⟩
      · exact ⟨_, _, tokens_long s (by omega) n, rtokens_long s (by omega) n, by simp⟩
    obtain ⟨l, p, e1, e2, e3⟩ := hT
    obtain ⟨u, v, p1, p2⟩ := place_eq s (by omega) x n (by omega)
    have hk : kwP.length = 39 := (by decide +kernel)
    rw [e1, e2]
    simp only [obind, Option.bind_some]
    rw [p1, p2]
    simp only [Option.bind_some, cond_true]
    rw [equal_same l (by omega) n (by omega), words_eq, show ref18_Words = some kwP from rfl]
    simp only [Option.bind_some, bindJ_go, decide_true, Bool.and_self, cond_true]
    rw [words_same kwP (by omega) n (by omega), word_eq s n (by omega), rword_eq s n (by omega)]
    simp [bindJ_go]
end Go.Proofs.YtgibkdldfnlglaaGreatDoor
namespace Go.Abs
open Go.Sem Go.ChangeShapes Go.RowKit

/-- a law's contract, as the claim's frame wants it -/
theorem Meets.law {P : Program} {f : FuncId} {args : List Value} {H : List HA} (h : Meets P f args H (fun v G => v = .bool true ∧ G = [])) {w : World} (hs : Sats w (fun _ => .no) H) :
    Calls P f args.toArray w fun e w' => e = .returned (.bool true) ∧ Below w.heap.size w w' := by
  refine (h w (fun _ => .no) (fun _ _ => rfl) hs).mono fun e w' ⟨v, G, o', he, ⟨hv, _⟩, _, ht, _⟩ => ?_
  subst hv
  exact ⟨he, ht.os, ht.tape, ht.output, ht.size, fun k hk => (ht.no k hk rfl).2⟩

end Go.Abs
namespace Go.Abs
open Go.Sem Go.ChangeShapes Go.RowKit
end Go.Abs
namespace Go.Abs
open Go.Sem Go.ChangeShapes Go.RowKit
section
variable {H : Type} {enc : TypeId × Value → H} {P : Program} {w : World} {base : Nat} {sp : Nat → Bool} {held : Bool}
end
end Go.Abs
namespace Go.Abs
open Go.Sem Go.ChangeShapes Go.RowKit
section
variable {H : Type} {enc : TypeId × Value → H} {P : Program} {w : World} {base : Nat} {sp : Nat → Bool} {held : Bool}
def wfI (k : IntKind) (n : Int) : Prop := (Lit.int k n).wf = true
/-- a type is opened: what is read of it lies in the cells 'F a', and a is well formed -/
def Opens (enc : TypeId × Value → H) (P : Program) (w : World) (base : Nat) (sp : Nat → Bool) (held : Bool) (t : TypeId) {α : Type} (F : α → List Value) (wf : α → Prop) : Prop :=
  ∀ (fuel : Nat) (cs : List Value) (x : DataW H × List MemPlace), DataW.trod enc P w base sp held fuel t cs = some x → ∃ a, cs = F a ∧ wf a
end
end Go.Abs
namespace Go.Abs
open Go.Sem Go.ChangeShapes Go.RowKit
section
variable {H : Type} {enc : TypeId × Value → H} {P : Program} {w : World} {base : Nat} {sp : Nat → Bool} {held : Bool}
theorem opn_str {t : TypeId} (ht : P.underlying t = some .string) : Opens enc P w base sp held t eStr (fun l => l.length ≤ maxLen) := by
  intro fuel cs x h
  obtain ⟨s, hc, _, hl⟩ := DataW.trod_string ht h
  exact ⟨s.data.toList, by rw [hc]; rfl, hl⟩
def noO : Own := fun _ => .no
end
end Go.Abs
namespace Go.Abs
open Go.Sem Go.ChangeShapes Go.RowKit
theorem laid_at {P : Program} {w : World} {n : String} {d : DataW Unit} : ∀ {l : List (String × DataW Unit)} {ps : List MemPlace}, DataW.LaidVars P w l ps → (n, d) ∈ l →
    ∃ g t cs fuel p, P.globalNamed n = some g ∧ (P.globals[g]?).map (·.type) = some t ∧ w.var? P n = some cs ∧ DataW.trod (fun _ => ()) P w 0 (fun _ => true) false fuel t cs.toList = some (d, p)
  | [], _, _, h => by simp at h
  | (m, e) :: r, ps, ⟨g, t, cs, fuel, p, q, h1, h2, h3, h4, h5, _⟩, h => by
    rcases List.mem_cons.1 h with h | h
    · cases h; exact ⟨g, t, cs, fuel, p, h1, h2, h3, h4⟩
    · exact laid_at h5 h
theorem laid_tab {P : Program} {w : World} {l : List (String × DataW Unit)} {name : String} {k : IntKind} {zs : List Int} {g t e : Nat} {n : Nat} (h : laidMet P l w) (hm : (name, Lib.tabData k zs) ∈ l)
    (hg : P.globalNamed name = some g) (hty : (P.globals[g]?).map (·.type) = some t) (ht : P.underlying t = some (.array n e)) (he : P.underlying e = some (.int k)) (hce : P.cellsOf e = 1) (hct : P.cellsOf t = n) : Lib.TabIs P w name k zs := by
  obtain ⟨ps, hl, _⟩ := h
  obtain ⟨g', t', cs, fuel, p, hg', ht', hvar, hd⟩ := laid_at hl hm
  obtain rfl := Option.some.inj (hg.symm.trans hg')
  obtain rfl := Option.some.inj (hty.symm.trans ht')
  unfold Lib.TabIs
  rw [hvar, ← Lib.cells_of_tab ht he hce hct hd]
theorem laid_iface {P : Program} {w : World} {l : List (String × DataW Unit)} {name s : String} {d : DataW Unit} {g t : Nat} {ms : Array (String × TypeId)} (h : laidMet P l w) (hm : (name, DataW.iface s d) ∈ l)
    (hg : P.globalNamed name = some g) (hty : (P.globals[g]?).map (·.type) = some t) (ht : P.underlying t = some (.interface ms)) : ∃ u v, w.cell? ⟨g, 0, none⟩ = some (.iface u v) := by
  obtain ⟨ps, hl, _⟩ := h
  obtain ⟨g', t', cs, fuel, p, hg', ht', hvar, hd⟩ := laid_at hl hm
  obtain rfl := Option.some.inj (hg.symm.trans hg')
  obtain rfl := Option.some.inj (hty.symm.trans ht')
  have hc : ∃ u v, cs.toList = [.iface u v] := by
    cases fuel with
    | zero => simp [DataW.trod] at hd
    | succ fuel =>
      unfold DataW.trod at hd
      rw [ht] at hd
      split at hd <;> simp_all
  obtain ⟨u, v, hc⟩ := hc
  refine ⟨u, v, ?_⟩
  have := World.var?_cell hg hvar 0
  rw [this, ← Array.getElem?_toList, hc]; rfl
section
variable {H : Type} {enc : TypeId × Value → H} {P : Program} {w : World} {base : Nat} {sp : Nat → Bool} {held : Bool}
end
end Go.Abs
namespace Go.Proofs.YtgibkdldfnlglaaGreatDoor
open Go.Abs Go.ChangeShapes Go.RowKit
set_option maxRecDepth 100000
set_option linter.unusedVariables false

end Go.Proofs.YtgibkdldfnlglaaGreatDoor
namespace Go.Proofs.YtgibkdldfnlglaaGreatDoor
open Go.Abs
theorem law3 (s : List UInt8) (x : Int) (_ : s.length ≤ maxLen) (_ : wfI .i64 x) : ∃ m, law18_LexerReadsAsSpecified m s x = some true := law3_of s x
end Go.Proofs.YtgibkdldfnlglaaGreatDoor
namespace Go.Proofs.YtgibkdldfnlglaaGreatDoor
open Go.Abs
/-- so many blocks has the settled world -/
noncomputable def low : Nat := (World.holding Tryz.prog default ⟨#[], #[], []⟩).heap.size
/-- the settled world with the laid variables -/
noncomputable def laidWorld (os : Os) : World :=
  let w0 := World.holding Tryz.prog os ⟨#[.cells #[.string ⟨#[105, 110, 118, 97, 108, 105, 100, 32, 115, 121, 110, 116, 97, 120]⟩] 162, .cells #[.string ⟨#[118, 97, 108, 117, 101, 32, 111, 117, 116, 32, 111, 102, 32, 114, 97, 110, 103, 101]⟩] 162, .cells #[.slice (some ⟨low + 3, 0, none⟩) 7 7, .slice none 0 0, .int .i64 2] 136, .cells (([9, 13, 1, 32, 133, 101, 160, 5760, 5600, 8192, 8202, 1, 8232, 8233, 1, 8239, 8287, 48, 12288, 12288, 1] : List Int).map (Value.int .u16)).toArray 139], #[], []⟩
  { w0 with heap := (((((((w0.heap.modify 0 fun
      | .cells _ t frozen => .cells (([0, 0, 0, 0, 0, 0, 0, 0, 0, 1, 1, 1, 1, 1, 0, 0, 0, 0, 0, 0, 0, 0, 0, 0, 0, 0, 0, 0, 0, 0, 0, 0, 1, 0, 0, 0, 0, 0, 0, 0, 0, 0, 0, 0, 0, 0, 0, 0, 0, 0, 0, 0, 0, 0, 0, 0, 0, 0, 0, 0, 0, 0, 0, 0, 0, 0, 0, 0, 0, 0, 0, 0, 0, 0, 0, 0, 0, 0, 0, 0, 0, 0, 0, 0, 0, 0, 0, 0, 0, 0, 0, 0, 0, 0, 0, 0, 0, 0, 0, 0, 0, 0, 0, 0, 0, 0, 0, 0, 0, 0, 0, 0, 0, 0, 0, 0, 0, 0, 0, 0, 0, 0, 0, 0, 0, 0, 0, 0, 0, 0, 0, 0, 0, 0, 0, 0, 0, 0, 0, 0, 0, 0, 0, 0, 0, 0, 0, 0, 0, 0, 0, 0, 0, 0, 0, 0, 0, 0, 0, 0, 0, 0, 0, 0, 0, 0, 0, 0, 0, 0, 0, 0, 0, 0, 0, 0, 0, 0, 0, 0, 0, 0, 0, 0, 0, 0, 0, 0, 0, 0, 0, 0, 0, 0, 0, 0, 0, 0, 0, 0, 0, 0, 0, 0, 0, 0, 0, 0, 0, 0, 0, 0, 0, 0, 0, 0, 0, 0, 0, 0, 0, 0, 0, 0, 0, 0, 0, 0, 0, 0, 0, 0, 0, 0, 0, 0, 0, 0, 0, 0, 0, 0, 0, 0, 0, 0, 0, 0, 0, 0, 0, 0, 0, 0, 0, 0] : List Int).map (Value.int .u8)).toArray t frozen
      | o => o).modify 5 fun
      | .cells _ t frozen => .cells (([1, 10, 100, 1000, 10000, 100000, 1000000, 10000000, 100000000, 1000000000, 10000000000, 100000000000, 1000000000000, 10000000000000, 100000000000000, 1000000000000000, 10000000000000000, 100000000000000000, 1000000000000000000, 10000000000000000000] : List Int).map (Value.int .u64)).toArray t frozen
      | o => o).modify 6 fun
      | .cells _ t frozen => .cells (([0, 1, 28, 2, 29, 14, 24, 3, 30, 22, 20, 15, 25, 17, 4, 8, 31, 27, 13, 23, 21, 19, 16, 7, 26, 12, 18, 6, 11, 5, 10, 9] : List Int).map (Value.int .u8)).toArray t frozen
      | o => o).modify 7 fun
      | .cells _ t frozen => .cells (([0, 1, 56, 2, 57, 49, 28, 3, 61, 58, 42, 50, 38, 29, 17, 4, 62, 47, 59, 36, 45, 43, 51, 22, 53, 39, 33, 30, 24, 18, 12, 5, 63, 55, 48, 27, 60, 41, 37, 16, 46, 35, 44, 21, 52, 32, 23, 11, 54, 26, 40, 15, 34, 20, 31, 10, 25, 14, 19, 9, 13, 8, 7, 6] : List Int).map (Value.int .u8)).toArray t frozen
      | o => o).modify 3 fun
      | .cells _ t frozen => .cells #[.iface 160 (.pointer (some ⟨low, 0, none⟩))] t frozen
      | o => o).modify 4 fun
      | .cells _ t frozen => .cells #[.iface 160 (.pointer (some ⟨low + 1, 0, none⟩))] t frozen
      | o => o).modify 2 fun
      | .cells _ t frozen => .cells #[.pointer (some ⟨low + 2, 0, none⟩)] t frozen
      | o => o) }
def laidL : List (String × DataW Unit) := [("math/bits.deBruijn32tab", Rows.laid_math_bits_deBruijn32tab), ("math/bits.deBruijn64tab", Rows.laid_math_bits_deBruijn64tab), ("internal/strconv.uint64pow10", Rows.laid_internal_strconv_uint64pow10), ("strconv.ErrRange", Rows.laid_strconv_ErrRange), ("strconv.ErrSyntax", Rows.laid_strconv_ErrSyntax), ("unicode.White_Space", Rows.laid_unicode_White_Space), ("strings.asciiSpace", Rows.laid_strings_asciiSpace)]
theorem laidWorld_met (os : Os) (args : Array Value) : laidMet Tryz.prog laidL ((laidWorld os).forCall (fun _ _ => 0) ⟨#[], args, []⟩).memory :=
  laidMet_of_run' 8 (by kernel_rfl) (by kernel_rfl)
theorem globIs {W : World} (h : laidMet Tryz.prog laidL W) : GlobL W where
  errSyntax := let ⟨u, v, hc⟩ := laid_iface (s := "*errors.errorString") (d := .ptr (.agg [.lit (.string [105, 110, 118, 97, 108, 105, 100, 32, 115, 121, 110, 116, 97, 120])])) h (by simp [laidL, Rows.laid_strconv_ErrSyntax]) gSyn (t := 80) (by kernel_rfl) Tryz.underlying80; ⟨3, u, v, gSyn, by decide, hc⟩
  errRange := let ⟨u, v, hc⟩ := laid_iface (s := "*errors.errorString") (d := .ptr (.agg [.lit (.string [118, 97, 108, 117, 101, 32, 111, 117, 116, 32, 111, 102, 32, 114, 97, 110, 103, 101])])) h (by simp [laidL, Rows.laid_strconv_ErrRange]) gRng (t := 80) (by kernel_rfl) Tryz.underlying80; ⟨4, u, v, gRng, by decide, hc⟩
  space := ⟨0, gSpc, by decide, laid_tab h (List.mem_cons_of_mem _ (List.mem_cons_of_mem _ (List.mem_cons_of_mem _ (List.mem_cons_of_mem _ (List.mem_cons_of_mem _ (List.mem_cons_of_mem _ (List.mem_cons.2 (.inl (by kernel_rfl))))))))) gSpc (t := 88) (by kernel_rfl) Tryz.underlying88 Tryz.underlying5 (by kernel_rfl) (by kernel_rfl)⟩
theorem laid_size {W : World} (h : laidMet Tryz.prog laidL W) : 8 ≤ W.heap.size := by
  obtain ⟨ps, hl, _⟩ := h
  obtain ⟨g, t, cs, fuel, p, e1, _, e3, _⟩ := laid_at (n := "math/bits.deBruijn64tab") hl (List.mem_cons_of_mem _ (List.mem_cons_self ..))
  have eg : Tryz.prog.globalNamed "math/bits.deBruijn64tab" = some 7 := by kernel_rfl
  obtain rfl := Option.some.inj (eg.symm.trans e1)
  unfold World.var? at e3
  rw [eg] at e3
  simp only [Option.bind_some] at e3
  by_cases h : 7 < W.heap.size
  · omega
  · rw [Array.getElem?_eq_none (by omega)] at e3; simp at e3
theorem globP {W : World} (h : laidMet Tryz.prog laidL W) (hs : W.ShapedOpen Tryz.prog) (k : Nat) : globA.p W noO k := ⟨laid_size h, fun _ _ => rfl, globIs h⟩
end Go.Proofs.YtgibkdldfnlglaaGreatDoor
