/-
  Texts that stand side by side: Pg, Ph, W3, Pi, G6a, Pj, W6, Pk, AbsEnd, AbsEnd2, AbsEnd3, AbsEnd4, AbsEnd5, AbsLaid, Opn, P6, LaidL.
-/
import Derived.Test.YtgibkdldfnlglaaGreatDoorM5
import Derived.Test.YtgibkdldfnlglaaGreatDoorG3a
import Derived.Test.YtgibkdldfnlglaaGreatDoorM0
import Derived.WalkKit
import Derived.ProofKit
import Derived.OpenShut
import Derived.ShutString
import Derived.ChangeOld
import Derived.Below
import Derived.SliceStrings
import Derived.Test.YtgibkdldfnlglaaGreatDoorM1
import Derived.ChangeArms
import Derived.LaidHandle
import Derived.Deep.DeepHandedRow
import Derived.Test.YtgibkdldfnlglaaGreatDoorFb
import Derived.Test.YtgibkdldfnlglaaGreatDoorRows
import Derived.Test.YtgibkdldfnlglaaGreatDoorChecked
namespace Go.Proofs.YtgibkdldfnlglaaGreatDoor
open Go.Abs Go.Lex
set_option linter.unusedSimpArgs false
set_option linter.unusedVariables false
theorem rsmall_eq (b : UInt8) : ref18_small (b.toNat : Int) = some (sm b) := small_eq b
theorem rdigit_eq (b : UInt8) : ref18_digit (b.toNat : Int) = some (dg b) := digit_eq b
theorem rrest_eq (b : UInt8) : ref18_rest (b.toNat : Int) = some (rst b) := by
  unfold ref18_rest
  rw [rsmall_eq, rdigit_eq]
  simp only [obind, Option.bind_some]
  rw [byte_eq b 95 95 rfl]
  unfold rst
  cases sm b <;> simp [bindJ_go]
theorem rletter_eq (b : UInt8) (h : dg b = false) : ref18_letter (b.toNat : Int) = some (ltr b) := by
  unfold ref18_letter
  rw [rsmall_eq]
  simp only [obind, Option.bind_some, Option.some.injEq]
  rw [byte_eq b 95 95 rfl]
  have : (decide ((65 : Int) ≤ (b.toNat : Int)) && decide ((b.toNat : Int) ≤ 90)) = (decide (65 ≤ b.toNat) && decide (b.toNat ≤ 90)) := by
    rw [Bool.eq_iff_iff]; simp only [Bool.and_eq_true, decide_eq_true_eq]; omega
  rw [this]
  unfold ltr rst
  rw [h]
  cases sm b <;> cases decide (b = 95) <;> simp
theorem rskip_eq (s : List UInt8) (hs : s.length ≤ 1000000) (a : Nat) (ha : a ≤ s.length) (n : Nat) (hn : s.length + 1 < n) :
    ref18_skip n s (a : Int) = some ((s.length - (skipP false (s.drop a)).length : Nat) : Int) := by
  unfold ref18_skip
  obtain ⟨r, e, h⟩ := iter_inv (step := ref18_skip_L1 n s) (fun x => ∃ i : Nat, x = (i : Int) ∧ i ≤ s.length ∧ skipP false (s.drop i) = skipP false (s.drop a)) (fun x => s.length - x.toNat)
    (fun r => r = .go ((s.length - (skipP false (s.drop a)).length : Nat) : Int) ∨ r = .stop ((s.length - (skipP false (s.drop a)).length : Nat) : Int)) (by
    rintro x ⟨i, rfl, hi, hk⟩
    unfold ref18_skip_L1
    by_cases hlt : i < s.length
    · have hc := drop_cons hlt
      rw [hc, skip_f] at hk
      rw [decide_eq_true (by omega), cond_true, idx_get'' hlt, byte_eq s[i] 35 35 rfl]
      by_cases h35 : s[i] = 35
      · rw [decide_eq_true h35, cond_true]
        rw [if_pos h35] at hk
        rw [while_gen (fun b => !decide (b = 10)) s hs (ref18_skip_L2 s) (fun j hj => by
          unfold ref18_skip_L2
          rw [decide_eq_true (by omega), cond_true, idx_get'' hj]
          simp only [bindJ_go]
          rw [show decide ((s[j].toNat : Int) ≠ 10) = !decide (s[j] = 10) by rw [← byte_eq s[j] 10 10 rfl]; simp, w64 (by omega) (by omega)]
          cases decide (s[j] = 10) <;> rfl) (by
          unfold ref18_skip_L2
          rw [decide_eq_false (by omega), cond_false, bindJ_go, cond_false]) i hi n (by omega), bindJ_go]
        obtain ⟨g1, g2, g3⟩ := while_fin (s := s) (p := fun b => !decide (b = 10)) hi
        have hpos : 0 < ((s.drop i).takeWhile fun b => !decide (b = 10)).length := by
          rw [hc, List.takeWhile_cons_of_pos (by simp [h35])]; simp
        refine .inl ⟨_, rfl, ⟨_, rfl, g3, ?_⟩, by (try simp only); omega⟩
        rw [g2, ← hk, hc, List.dropWhile_cons_of_pos (by simp [h35]), ← skip_cmt]
      · rw [decide_eq_false h35, cond_false]
        rw [if_neg h35] at hk
        have hsp : ∀ {R : Type} (k : Bool → Option R), (idx s (i : Int) fun c32 => bindJ (S := Bool) (cond (decide ((c32.toNat : Int) ≠ 32)) (idx s (i : Int) fun c39 => some (.go (decide ((c39.toNat : Int) ≠ 9)))) (some (.go false)))
            (fun b33 => bindJ (S := Bool) (cond b33 (idx s (i : Int) fun c46 => some (.go (decide ((c46.toNat : Int) ≠ 10)))) (some (.go false)))
            (fun b40 => bindJ (S := Bool) (cond b40 (idx s (i : Int) fun c53 => some (.go (decide ((c53.toNat : Int) ≠ 13)))) (some (.go false))) k))) = k (!spc s[i]) := by
          intro R k
          have q : ∀ c : UInt8, ∀ m : Int, (c.toNat : Int) = m → decide ((s[i].toNat : Int) ≠ m) = !decide (s[i] = c) := fun c m h => by rw [← byte_eq s[i] c m h]; simp
          rw [idx_get'' hlt, q 32 32 rfl]
          unfold spc
          cases decide (s[i] = 32) with
          | true => simp only [Bool.not_true, cond_false, bindJ_go, Bool.true_or]
          | false =>
            simp only [Bool.not_false, cond_true, Bool.false_or]
            rw [idx_get'' hlt, q 9 9 rfl, bindJ_go]
            cases decide (s[i] = 9) with
            | true => simp only [Bool.not_true, cond_false, bindJ_go, Bool.true_or]
            | false =>
              simp only [Bool.not_false, cond_true, Bool.false_or]
              rw [idx_get'' hlt, q 10 10 rfl, bindJ_go]
              cases decide (s[i] = 10) with
              | true => simp only [Bool.not_true, cond_false, bindJ_go, Bool.true_or]
              | false =>
                simp only [Bool.not_false, cond_true, Bool.false_or]
                rw [idx_get'' hlt, q 13 13 rfl, bindJ_go]
        rw [hsp]
        cases hb : spc s[i] with
        | true =>
          rw [hb, if_pos rfl] at hk
          rw [Bool.not_true, cond_false, w64 (by omega) (by omega)]
          exact .inl ⟨((i + 1 : Nat) : Int), rfl, ⟨i + 1, rfl, by omega, hk⟩, by simp; omega⟩
        | false =>
          rw [hb] at hk
          simp only [Bool.false_eq_true, if_false] at hk
          rw [Bool.not_false, cond_true]
          refine .inr ⟨_, rfl, .inr ?_⟩
          rw [← hk]
          simp only [Lp.stop.injEq, List.length_cons, List.length_drop]
          omega
    · rw [decide_eq_false (by omega), cond_false]
      have : s.drop i = [] := List.drop_eq_nil_of_le (by omega)
      rw [this] at hk
      refine .inr ⟨_, rfl, .inl ?_⟩
      rw [← hk]
      simp only [skipP, Lp.go.injEq, List.length_nil]
      omega) n (a : Int) ⟨a, rfl, ha, rfl⟩ (by simp; omega)
  rw [e]
  rcases h with rfl | rfl
  · rfl
  · rfl
theorem rword_eq (v : List UInt8) (n : Nat) (hn : 100 < n) : ref18_Word n v = some (decide (v ∈ kwP)) := by
  unfold ref18_Word
  rw [show ref18_Words = some kwP from rfl]
  simp only [obind, Option.bind_some]
  have hk : kwP.length = 39 := (by decide +kernel)
  obtain ⟨r, e, h⟩ := iter_inv (step := ref18_Word_L1 v kwP) (fun x => ∃ i : Nat, x = (i : Int) ∧ i ≤ kwP.length ∧ ∀ j (h : j < kwP.length), j < i → kwP[j] ≠ v) (fun x => kwP.length - x.toNat)
    (fun r => (r = .go () ∧ v ∉ kwP) ∨ (r = .stop true ∧ v ∈ kwP)) (by
    rintro x ⟨i, rfl, hi, hj⟩
    unfold ref18_Word_L1
    by_cases hlt : i < kwP.length
    · rw [decide_eq_true (by omega), cond_true, idx_get'' hlt]
      by_cases hv : kwP[i] = v
      · rw [decide_eq_true hv, cond_true]
        exact .inr ⟨_, rfl, .inr ⟨rfl, hv ▸ List.getElem_mem hlt⟩⟩
      · rw [decide_eq_false hv, cond_false, w64 (by omega) (by omega)]
        refine .inl ⟨((i + 1 : Nat) : Int), rfl, ⟨i + 1, rfl, by omega, fun j a b => ?_⟩, by simp; omega⟩
        by_cases e : j = i
        · subst e; exact hv
        · exact hj j a (by omega)
    · rw [decide_eq_false (by omega), cond_false]
      refine .inr ⟨_, rfl, .inl ⟨rfl, fun hv => ?_⟩⟩
      obtain ⟨j, a, e⟩ := List.getElem_of_mem hv
      exact hj j a (by omega) e) n 0 ⟨0, rfl, by omega, fun j a b => by omega⟩ (by simp; omega)
  rw [e]
  rcases h with ⟨rfl, h⟩ | ⟨rfl, h⟩
  · rw [decide_eq_false h]; rfl
  · rw [decide_eq_true h]; rfl
/-- what the specification gets at an offset -/
def gotP (s : List UInt8) (a : Nat) : Sum Int (Int × List UInt8 × List UInt8) → S_ref18_Got
  | .inl e => ⟨⟨0, 0, []⟩, 0, e⟩
  | .inr (k, w, r) => ⟨⟨k, (a : Int), w⟩, ((s.length - r.length : Nat) : Int), 0⟩
theorem rname_eq (s : List UInt8) (hs : s.length ≤ 1000000) (a : Nat) (ha : a ≤ s.length) (n : Nat) (hn : s.length + 100 < n) : ref18_name n s (a : Int) = some (gotP s a (namP kwP (s.drop a))) := by
  unfold ref18_name namP
  rw [while_gen rst s hs (ref18_name_L1 s) (fun i h => by
    unfold ref18_name_L1
    rw [decide_eq_true (by omega), cond_true, idx_get'' h, rrest_eq]
    simp only [obind, Option.bind_some, bindJ_go]
    rw [w64 (by omega) (by omega)]
    cases rst s[i] <;> rfl) (by
    unfold ref18_name_L1
    rw [decide_eq_false (by omega), cond_false, bindJ_go, cond_false]) a ha n (by omega), bindJ_go]
  obtain ⟨h1, h2, h3⟩ := while_fin (s := s) (p := rst) ha
  have hl := congrArg List.length h2
  rw [List.length_drop] at hl
  have hat : ((a + ((s.drop a).takeWhile rst).length : Nat) : Int) = ((s.length - ((s.drop a).dropWhile rst).length : Nat) : Int) := by omega
  rw [need_pos (by omega), Int.toNat_natCast, Int.toNat_natCast, h1, rword_eq _ n (by omega), hat]
  simp only [obind, Option.bind_some]
  by_cases hw : (s.drop a).takeWhile rst ∈ kwP
  · rw [decide_eq_true hw, cond_true, if_pos hw]
    rfl
  · rw [decide_eq_false hw, cond_false, if_neg hw]
    by_cases h40 : 40 < ((s.drop a).takeWhile rst).length
    · rw [decide_eq_true (by omega), cond_true, if_pos h40]
      rfl
    · rw [decide_eq_false (by omega), cond_false, if_neg h40]
      rfl
theorem rnumber_eq (s : List UInt8) (hs : s.length ≤ 1000000) (a : Nat) (ha : a < s.length) (hd : dg s[a] = true) (n : Nat) (hn : s.length + 100 < n) : ref18_number n s (a : Int) = some (gotP s a (numP (s.drop a))) := by
  unfold ref18_number numP
  rw [while_gen dg s hs (ref18_number_L1 s) (fun i h => by
    unfold ref18_number_L1
    rw [decide_eq_true (by omega), cond_true, idx_get'' h, rdigit_eq]
    simp only [obind, Option.bind_some, bindJ_go]
    rw [w64 (by omega) (by omega)]
    cases dg s[i] <;> rfl) (by
    unfold ref18_number_L1
    rw [decide_eq_false (by omega), cond_false, bindJ_go, cond_false]) a (by omega) n (by omega), bindJ_go]
  obtain ⟨h1, h2, h3⟩ := while_fin (s := s) (p := dg) (show a ≤ s.length by omega)
  have hl := congrArg List.length h2
  rw [List.length_drop] at hl
  have htw : (s.drop a).takeWhile dg = s[a] :: (s.drop (a + 1)).takeWhile dg := by rw [drop_cons ha, List.takeWhile_cons_of_pos hd]
  have hsub : IntKind.i64.wrap (((a + ((s.drop a).takeWhile dg).length : Nat) : Int) - (a : Int)) = (((s.drop a).takeWhile dg).length : Int) := by rw [w64 (by omega) (by omega)]; omega
  rw [hsub]
  have hfirst : ∀ {R : Type} (k : Bool → Option R), bindJ (S := Bool) (cond (decide (18 < (((s.drop a).takeWhile dg).length : Int))) (some (.go true))
      (idx s (a : Int) fun c28 => some (.go (decide ((c28.toNat : Int) = 48) && decide (1 < (((s.drop a).takeWhile dg).length : Int)))))) k
      = k (decide (18 < ((s.drop a).takeWhile dg).length) || (decide (((s.drop a).takeWhile dg).head? = some 48) && decide (1 < ((s.drop a).takeWhile dg).length))) := by
    intro R k
    by_cases h18 : 18 < ((s.drop a).takeWhile dg).length
    · rw [decide_eq_true (by omega), cond_true, bindJ_go, decide_eq_true h18, Bool.true_or]
    · rw [decide_eq_false (by omega), cond_false, idx_get'' ha, bindJ_go, htw]
      rw [htw] at h18
      simp only [List.head?_cons]
      rw [byte_eq s[a] 48 48 rfl, decide_eq_false h18, Bool.false_or]
      congr 2
      · by_cases h48 : s[a] = 48 <;> simp [h48]
      · rw [decide_eq_decide]; omega
  rw [hfirst]
  have hnext : ∀ {R : Type} (q : Bool) (k : Bool → Option R), bindJ (S := Bool) (cond q (some (.go true)) (bindJ (S := Bool) (cond (decide (((a + ((s.drop a).takeWhile dg).length : Nat) : Int) < (s.length : Int)))
       (idx s ((a + ((s.drop a).takeWhile dg).length : Nat) : Int) fun c44 =>
       obind (ref18_letter (c44.toNat : Int)) fun r45 => some (.go r45)) (some (.go false)))
     (fun b38 => some (.go b38)))) k = k (q || (match (s.drop a).dropWhile dg with | [] => false | c :: _ => ltr c)) := by
    intro R q k
    cases q with
    | true => rw [cond_true, bindJ_go, Bool.true_or]
    | false =>
      rw [cond_false, Bool.false_or]
      by_cases hj : a + ((s.drop a).takeWhile dg).length < s.length
      · have hcj := drop_cons hj
        rw [h2] at hcj
        rw [decide_eq_true (by omega), cond_true, idx_get'' hj, rletter_eq _ (dw_head _ _ _ hcj), hcj]
        rfl
      · have : (s.drop a).dropWhile dg = [] := by
          apply List.eq_nil_of_length_eq_zero
          omega
        rw [decide_eq_false (by omega), cond_false, this]
        rfl
  rw [hnext]
  unfold badNum
  cases hB : (decide (18 < ((s.drop a).takeWhile dg).length) || (decide (((s.drop a).takeWhile dg).head? = some 48) && decide (1 < ((s.drop a).takeWhile dg).length)) || (match (s.drop a).dropWhile dg with | [] => false | c :: _ => ltr c)) with
  | true => rfl
  | false =>
    simp only [cond_false, Bool.false_eq_true, if_false]
    rw [need_pos (by omega), Int.toNat_natCast, Int.toNat_natCast, h1]
    simp only [gotP, Option.some.injEq, S_ref18_Got.mk.injEq, true_and, and_true]
    omega
theorem rtext_eq (s : List UInt8) (hs : s.length ≤ 1000000) (a : Nat) (ha : a < s.length) (n : Nat) (hn : s.length + 100 < n) : ref18_text n s (a : Int) = some (gotP s a (txtP [] (s.drop (a + 1)))) := by
  unfold ref18_text
  rw [w64 (by omega) (by omega), show (a : Int) + 1 = ((a + 1 : Nat) : Int) by omega]
  obtain ⟨r, e, h⟩ := iter_inv (step := ref18_text_L1 s (a : Int)) (fun x => ∃ (out : List UInt8) (i : Nat), x = (out, (i : Int)) ∧ i ≤ s.length ∧ out.length ≤ i ∧ txtP out (s.drop i) = txtP [] (s.drop (a + 1))) (fun x => s.length - x.2.toNat)
    (fun r => (r = .go () ∧ txtP [] (s.drop (a + 1)) = .inl 182) ∨ r = .stop (gotP s a (txtP [] (s.drop (a + 1))))) (by
    rintro x ⟨out, i, rfl, hi, ho, hk⟩
    unfold ref18_text_L1
    simp only
    by_cases hlt : i < s.length
    · have hc := drop_cons hlt
      rw [hc, txt_cons] at hk
      rw [decide_eq_true (by omega), cond_true, idx_get'' hlt, byte_eq s[i] 34 34 rfl]
      by_cases h34 : s[i] = 34
      · rw [decide_eq_true h34, cond_true]
        rw [if_pos h34] at hk
        by_cases h200 : 200 < out.length
        · rw [decide_eq_true (by omega), cond_true]
          rw [if_pos h200] at hk
          exact .inr ⟨_, rfl, .inr (by rw [← hk]; rfl)⟩
        · rw [decide_eq_false (by omega), cond_false, w64 (by omega) (by omega)]
          rw [if_neg h200] at hk
          refine .inr ⟨_, rfl, .inr ?_⟩
          rw [← hk]
          simp only [gotP, List.length_drop, Lp.stop.injEq, S_ref18_Got.mk.injEq, true_and, and_true]
          omega
      · rw [decide_eq_false h34, cond_false]
        rw [if_neg h34] at hk
        by_cases hb : s[i].toNat < 32 ∨ 126 < s[i].toNat
        · rw [show (decide (((s[i].toNat : Nat) : Int) < 32) || decide ((126 : Int) < ((s[i].toNat : Nat) : Int))) = true by simp only [Bool.or_eq_true, decide_eq_true_eq]; omega, cond_true]
          have h92 : s[i] ≠ 92 := by intro q; rw [q] at hb; exact absurd hb (by decide)
          rw [if_neg h92, if_pos hb] at hk
          exact .inr ⟨_, rfl, .inr (by rw [← hk]; rfl)⟩
        · rw [show (decide (((s[i].toNat : Nat) : Int) < 32) || decide ((126 : Int) < ((s[i].toNat : Nat) : Int))) = false by rw [Bool.eq_false_iff]; intro h; simp only [Bool.or_eq_true, decide_eq_true_eq] at h; omega, cond_false, byte_eq s[i] 92 92 rfl]
          by_cases h92 : s[i] = 92
          · rw [decide_eq_true h92, cond_true]
            rw [if_pos h92] at hk
            rw [w64 (x := (i : Int) + 1) (by omega) (by omega), show (i : Int) + 1 = ((i + 1 : Nat) : Int) by omega]
            by_cases hl2 : i + 1 < s.length
            · rw [decide_eq_false (by omega), cond_false, idx_get'' hl2]
              rw [drop_cons hl2] at hk
              simp only at hk
              rw [show decide ((s[i + 1].toNat : Int) ≠ 34) = !decide (s[i + 1] = 34) by rw [← byte_eq s[i + 1] 34 34 rfl]; simp]
              have hgood : ∀ hm : s[i + 1] = 34 ∨ s[i + 1] = 92, (idx s ((i + 1 : Nat) : Int) fun c43 => (some (.go (((i + 1 : Nat) : Int), (c43.toNat : Int))) : Option (Lp (Int × Int) (Lp ((List UInt8) × Int) (Lp Unit S_ref18_Got))))) = some (.go (((i + 1 : Nat) : Int), (s[i + 1].toNat : Int))) := fun _ => by rw [idx_get'' hl2]
              by_cases hm : s[i + 1] = 34 ∨ s[i + 1] = 92
              · rw [if_pos hm] at hk
                have hr : 32 ≤ s[i + 1].toNat ∧ s[i + 1].toNat ≤ 126 := by rcases hm with h | h <;> rw [h] <;> decide
                have hb2 : bindJ (S := Bool) (R := Lp (Int × Int) (Lp ((List UInt8) × Int) (Lp Unit S_ref18_Got))) (bindJ (S := Bool) (cond (!decide (s[i + 1] = 34)) (idx s ((i + 1 : Nat) : Int) fun c41 => some (.go (decide ((c41.toNat : Int) ≠ 92)))) (some (.go false))) (fun b35 => some (.go b35)))
                    (fun b28 => cond b28 (some (.stop (.stop (.stop (S_ref18_Got.mk (S_api_Lexeme.mk 0 0 []) 0 182))))) (idx s ((i + 1 : Nat) : Int) fun c43 => some (.go (((i + 1 : Nat) : Int), (c43.toNat : Int))))) = some (.go (((i + 1 : Nat) : Int), (s[i + 1].toNat : Int))) := by
                  rw [hgood hm]
                  by_cases h1 : s[i + 1] = 34
                  · simp only [h1, decide_true, Bool.not_true, cond_false, bindJ_go]
                  · have h2 : s[i + 1] = 92 := by rcases hm with h | h; exact absurd h h1; exact h
                    simp only [h1, decide_false, Bool.not_false, cond_true]
                    rw [idx_get'' hl2, h2]
                    rfl
                rw [hb2, bindJ_go, need_pos (by omega), need_pos (by simp; omega), w64 (by omega) (by omega)]
                refine .inl ⟨_, rfl, ⟨out ++ [s[i + 1]], i + 2, ?_, by omega, by simp; omega, hk⟩, by simp only; omega⟩
                simp
                omega
              · rw [if_neg hm] at hk
                have h1 : s[i + 1] ≠ 34 := fun q => hm (.inl q)
                have h2 : s[i + 1] ≠ 92 := fun q => hm (.inr q)
                simp only [h1, decide_false, Bool.not_false, cond_true]
                rw [idx_get'' hl2, show decide ((s[i + 1].toNat : Int) ≠ 92) = !decide (s[i + 1] = 92) by rw [← byte_eq s[i + 1] 92 92 rfl]; simp]
                simp only [h2, decide_false, Bool.not_false, bindJ_go, cond_true, bindJ_stop]
                exact .inr ⟨_, rfl, .inr (by rw [← hk]; rfl)⟩
            · rw [decide_eq_true (by omega), cond_true, bindJ_go, cond_true, bindJ_stop]
              have : s.drop (i + 1) = [] := List.drop_eq_nil_of_le (by omega)
              rw [this] at hk
              exact .inr ⟨_, rfl, .inr (by rw [← hk]; rfl)⟩
          · rw [decide_eq_false h92, cond_false, bindJ_go]
            rw [if_neg h92, if_neg hb] at hk
            simp only
            rw [need_pos (by omega), need_pos (by simp; omega), w64 (by omega) (by omega)]
            refine .inl ⟨_, rfl, ⟨out ++ [s[i]], i + 1, ?_, by omega, by simp; omega, hk⟩, by simp only; omega⟩
            simp
    · rw [decide_eq_false (by omega), cond_false]
      have : s.drop i = [] := List.drop_eq_nil_of_le (by omega)
      rw [this, txt_nil] at hk
      exact .inr ⟨_, rfl, .inl ⟨rfl, hk.symm⟩⟩) n ([], ((a + 1 : Nat) : Int)) ⟨[], a + 1, rfl, by omega, by simp, rfl⟩ (by simp; omega)
  rw [e]
  rcases h with ⟨rfl, h⟩ | rfl
  · rw [bindJ_go, h]; rfl
  · rfl
end Go.Proofs.YtgibkdldfnlglaaGreatDoor
namespace Go.Proofs.YtgibkdldfnlglaaGreatDoor
open Go.Abs Go.Lex
set_option linter.unusedSimpArgs false
set_option linter.unusedVariables false
def signsP : List (List UInt8) := longs ++ shorts.map fun q => [q]
/-- does a sign stand at the beginning? -/
def stands (t x : List UInt8) : Bool := decide (x.length ≤ t.length) && decide (t.take x.length = x)
theorem find_short (t : List UInt8) (b : UInt8) : ∀ l : List UInt8, (l.map fun q => [q]).find? (stands (b :: t)) = if b ∈ l then some [b] else none
  | [] => by simp
  | q :: l => by
    have ih := find_short t b l
    rw [List.map_cons, List.find?_cons]
    have : stands (b :: t) [q] = decide (b = q) := by unfold stands; simp
    rw [this]
    by_cases h : b = q
    · subst h; simp
    · rw [decide_eq_false h, ih]
      simp [h]
theorem find_long (b c : UInt8) (t : List UInt8) : ∀ l : List (List UInt8), (∀ x ∈ l, x.length = 2) → l.find? (stands (b :: c :: t)) = if [b, c] ∈ l then some [b, c] else none
  | [], _ => by simp
  | x :: l, h => by
    have ih := find_long b c t l (fun y hy => h y (List.mem_cons_of_mem _ hy))
    have hx := h x (List.mem_cons_self ..)
    rw [List.find?_cons]
    have : stands (b :: c :: t) x = decide ([b, c] = x) := by unfold stands; rw [hx]; simp; exact decide_eq_decide.2 Iff.rfl
    rw [this]
    by_cases q : [b, c] = x
    · rw [decide_eq_true q, if_pos (q ▸ List.mem_cons_self ..), q]
    · rw [decide_eq_false q, ih]
      simp only [List.mem_cons, q, false_or]
theorem find_sign (t : List UInt8) (b : UInt8) : sgnP (b :: t) = match signsP.find? (stands (b :: t)) with | some x => .inr (5, x, (b :: t).drop x.length) | none => .inl 180 := by
  unfold signsP
  rw [List.find?_append, find_short]
  cases t with
  | nil =>
    have : longs.find? (stands [b]) = none := by
      rw [List.find?_eq_none]
      intro x hx
      have h2 : x.length = 2 := by
        have : ∀ x ∈ longs, x.length = 2 := by decide
        exact this x hx
      unfold stands
      rw [h2]
      simp
    rw [this, sgn_one]
    by_cases h : b ∈ shorts
    · rw [if_pos h, if_pos h]; rfl
    · rw [if_neg h, if_neg h]; rfl
  | cons c t =>
    rw [find_long b c t longs (by decide), sgn_two]
    by_cases h1 : [b, c] ∈ longs
    · rw [if_pos h1, if_pos h1]; rfl
    · rw [if_neg h1, if_neg h1]
      by_cases h : b ∈ shorts
      · rw [if_pos h, if_pos h]; rfl
      · rw [if_neg h, if_neg h]; rfl
theorem rsign_eq (s : List UInt8) (hs : s.length ≤ 1000000) (a : Nat) (ha : a < s.length) (n : Nat) (hn : s.length + 100 < n) : ref18_sign n s (a : Int) = some (gotP s a (sgnP (s.drop a))) := by
  unfold ref18_sign
  rw [show ref18_Signs = some signsP from rfl]
  simp only [obind, Option.bind_some]
  have hsl : signsP.length = 22 := rfl
  have hx2 : ∀ x ∈ signsP, x.length ≤ 2 := by decide
  have hc := drop_cons ha
  have hdl : (s.drop a).length = s.length - a := List.length_drop
  obtain ⟨r, e, h⟩ := iter_inv (step := ref18_sign_L1 s (a : Int) signsP) (fun x => ∃ i : Nat, x = (i : Int) ∧ i ≤ signsP.length ∧ (signsP.drop i).find? (stands (s.drop a)) = signsP.find? (stands (s.drop a))) (fun x => signsP.length - x.toNat)
    (fun r => (r = .go () ∧ signsP.find? (stands (s.drop a)) = none) ∨ ∃ x, signsP.find? (stands (s.drop a)) = some x ∧ r = .stop ⟨⟨5, (a : Int), x⟩, ((a + x.length : Nat) : Int), 0⟩) (by
    rintro x ⟨i, rfl, hi, hk⟩
    unfold ref18_sign_L1
    by_cases hlt : i < signsP.length
    · have hx := hx2 _ (List.getElem_mem hlt)
      rw [List.drop_eq_getElem_cons hlt, List.find?_cons] at hk
      rw [decide_eq_true (by omega), cond_true, idx_get'' hlt, w64 (x := (a : Int) + (signsP[i].length : Int)) (by omega) (by omega), show (a : Int) + (signsP[i].length : Int) = ((a + signsP[i].length : Nat) : Int) by omega]
      have hst : ∀ {R : Type} (k : Bool → Option R), bindJ (S := Bool) (cond (decide (((a + signsP[i].length : Nat) : Int) ≤ (s.length : Int)))
          (need (0 ≤ (a : Int) ∧ (a : Int) ≤ ((a + signsP[i].length : Nat) : Int) ∧ ((a + signsP[i].length : Nat) : Int) ≤ (s.length : Int)) (some (.go (decide (((s.take (((a + signsP[i].length : Nat) : Int)).toNat).drop ((a : Int)).toNat) = signsP[i]))))) (some (.go false))) k = k (stands (s.drop a) signsP[i]) := by
        intro R k
        unfold stands
        by_cases hle : a + signsP[i].length ≤ s.length
        · rw [decide_eq_true (by omega), cond_true, need_pos (by omega), bindJ_go, Int.toNat_natCast, Int.toNat_natCast, List.drop_take, Nat.add_sub_cancel_left, hdl, decide_eq_true (show signsP[i].length ≤ s.length - a by omega), Bool.true_and]
        · rw [decide_eq_false (by omega), cond_false, bindJ_go, hdl, decide_eq_false (show ¬ signsP[i].length ≤ s.length - a by omega), Bool.false_and]
      rw [hst]
      cases hq : stands (s.drop a) signsP[i] with
      | true =>
        rw [hq] at hk
        rw [cond_true, idx_get'' hlt]
        exact .inr ⟨_, rfl, .inr ⟨signsP[i], hk.symm, rfl⟩⟩
      | false =>
        rw [hq] at hk
        rw [cond_false, w64 (by omega) (by omega)]
        exact .inl ⟨((i + 1 : Nat) : Int), rfl, ⟨i + 1, rfl, by omega, hk⟩, by simp; omega⟩
    · rw [decide_eq_false (by omega), cond_false]
      rw [show signsP.drop i = [] from List.drop_eq_nil_of_le (by omega)] at hk
      exact .inr ⟨_, rfl, .inl ⟨rfl, by rw [← hk]; rfl⟩⟩) n 0 ⟨0, rfl, by omega, by simp⟩ (by simp; omega)
  rw [e]
  have hf := find_sign (s.drop (a + 1)) s[a]
  rw [← hc] at hf
  rw [hf]
  rcases h with ⟨rfl, h⟩ | ⟨x, h, rfl⟩
  · rw [h]; rfl
  · rw [h]
    have hst := List.find?_some h
    unfold stands at hst
    simp only [Bool.and_eq_true, decide_eq_true_eq] at hst
    rw [hdl] at hst
    simp only [bindJ_stop, gotP, List.length_drop, Option.some.injEq, S_ref18_Got.mk.injEq, true_and, and_true]
    omega
theorem rnext_eq (s : List UInt8) (hs : s.length ≤ 1000000) (a : Nat) (ha : a < s.length) (n : Nat) (hn : s.length + 100 < n) : ref18_next n s (a : Int) = some (gotP s a (nextP kwP (s.drop a))) := by
  unfold ref18_next
  have hc := drop_cons ha
  have hne := next_cons kwP s[a] (s.drop (a + 1))
  rw [← hc] at hne
  rw [idx_get'' ha, rsmall_eq, hne]
  cases h1 : sm s[a] with
  | true =>
    simp only [obind, Option.bind_some, cond_true, if_true]
    rw [rname_eq s hs a (by omega) n hn]; rfl
  | false =>
    simp only [obind, Option.bind_some, cond_false, Bool.false_eq_true, if_false]
    rw [idx_get'' ha, rdigit_eq]
    cases h2 : dg s[a] with
    | true =>
      simp only [Option.bind_some, cond_true, if_true]
      rw [rnumber_eq s hs a ha h2 n hn]; rfl
    | false =>
      simp only [Option.bind_some, cond_false, Bool.false_eq_true, if_false]
      rw [idx_get'' ha, byte_eq s[a] 34 34 rfl]
      by_cases h3 : s[a] = 34
      · simp only [h3, decide_true, cond_true, if_true]
        rw [rtext_eq s hs a ha n hn]; rfl
      · simp only [h3, decide_false, cond_false, if_false]
        rw [rsign_eq s hs a ha n hn]; rfl
theorem rtokens_loop (s : List UInt8) (hs : s.length ≤ 1000000) (n : Nat) (hn : s.length + 100 < n) :
    ∃ r, iter (ref18_Tokens_L1 n s) n (([] : List S_api_Lexeme), ((s.length - (skipP false s).length : Nat) : Int)) = some r ∧
      ((r = .go ((toksP kwP (s.length + 1) s).1.map (mkT s.length)) ∧ (toksP kwP (s.length + 1) s).2 = none) ∨ ∃ k e, r = .stop ⟨[], ⟨((s.length - k : Nat) : Int), e⟩⟩ ∧ (toksP kwP (s.length + 1) s).2 = some (k, e)) := by
  refine iter_inv (step := ref18_Tokens_L1 n s) (fun x => ∃ (d : List (Int × Nat × List UInt8)) (i : Nat), x = (d.map (mkT s.length), (i : Int)) ∧ i ≤ s.length ∧ d.length ≤ i ∧ skipP false (s.drop i) = s.drop i ∧
      (toksP kwP (s.length + 1) s).1 = d ++ (toksP kwP (s.length + 1) (s.drop i)).1 ∧ (toksP kwP (s.length + 1) s).2 = (toksP kwP (s.length + 1) (s.drop i)).2) (fun x => s.length - x.2.toNat) _ ?_ n _ ?_ (by simp; omega)
  · rintro x ⟨d, i, rfl, hi, hd, hk, e1, e2⟩
    unfold ref18_Tokens_L1
    simp only
    by_cases hlt : i < s.length
    · rw [decide_eq_true (show (i : Int) < (s.length : Int) by omega), cond_true, rnext_eq s hs i hlt n hn]
      have hc := drop_cons hlt
      rw [hc] at hk
      cases hq : nextP kwP (s.drop i) with
      | inl e =>
        rw [hc] at hq
        rw [hc, toks_inl hk hq] at e2
        simp only [obind, Option.bind_some, gotP]
        rw [decide_eq_true (next_err hq), cond_true]
        refine .inr ⟨_, rfl, .inr ⟨_, e, ?_, e2⟩⟩
        simp only [List.length_drop, Lp.stop.injEq, S_ref18_Read.mk.injEq, S_api_Problem.mk.injEq, true_and, and_true]
        omega
      | inr q =>
        obtain ⟨kd, w, r⟩ := q
        have hlen := next_len hq
        have hsuf := (next_suf hq).trans (List.drop_suffix i s)
        rw [hc] at hq
        rw [hc, toks_inr hk hq] at e1 e2
        have hrl : r.length ≤ s.length := hsuf.length_le
        simp only [obind, Option.bind_some, gotP]
        rw [show decide ((0 : Int) ≠ 0) = false from rfl, cond_false, need_pos (by simp; omega), rskip_eq s hs _ (by omega) n (by omega), suf_drop hsuf]
        simp only [Option.bind_some]
        have hsk := skip_suffix false r
        have hsl := hsk.length_le
        rw [List.length_drop] at hlen
        refine .inl ⟨_, rfl, ⟨d ++ [(kd, s.length - i, w)], s.length - (skipP false r).length, ?_, by omega, by simp; omega, ?_, ?_, ?_⟩, by simp only; omega⟩
        · simp only [List.map_append, List.map_cons, List.map_nil, Prod.mk.injEq, and_true]
          congr 2
          unfold mkT
          simp only [S_api_Lexeme.mk.injEq, true_and, and_true]
          omega
        · rw [suf_drop (hsk.trans hsuf), skip_idem]
        · rw [suf_drop (hsk.trans hsuf), toks_skip, e1]
          simp only [List.length_drop, List.append_assoc, List.cons_append, List.nil_append]
          rw [toks_fuel kwP s.length (s.length + 1) r (by omega) (by omega), show s.length - (i + 1) + 1 = s.length - i by omega]
        · rw [suf_drop (hsk.trans hsuf), toks_skip, e2]
          simp only
          rw [toks_fuel kwP s.length (s.length + 1) r (by omega) (by omega)]
    · rw [decide_eq_false (by omega), cond_false]
      have : s.drop i = [] := List.drop_eq_nil_of_le (by omega)
      rw [this, toks_nil (kw := kwP) (s := []) rfl] at e1 e2
      refine .inr ⟨_, rfl, .inl ⟨?_, e2⟩⟩
      rw [e1, List.append_nil]
  · have hsk := skip_suffix false s
    refine ⟨[], s.length - (skipP false s).length, rfl, by omega, by simp, ?_, ?_, ?_⟩
    · rw [suf_drop hsk, skip_idem]
    · rw [suf_drop hsk, toks_skip]; rfl
    · rw [suf_drop hsk, toks_skip]
theorem rtokens_eq (s : List UInt8) (hs : s.length ≤ 65536) (n : Nat) (hn : s.length + 100 < n) : ref18_Tokens n s = some ⟨(tokR s).1, (tokR s).2⟩ := by
  unfold ref18_Tokens
  rw [decide_eq_false (by omega), cond_false]
  have h0 := rskip_eq s (by omega) 0 (by omega) n (by omega)
  rw [List.drop_zero] at h0
  have h0' : ref18_skip n s 0 = _ := h0
  rw [h0']
  simp only [obind, Option.bind_some]
  obtain ⟨r, e, h⟩ := rtokens_loop s (by omega) n hn
  rw [e]
  unfold tokR
  rcases h with ⟨rfl, h2⟩ | ⟨k, e, rfl, h2⟩
  · rw [h2]; rfl
  · rw [h2]; rfl
/-! places -/
end Go.Proofs.YtgibkdldfnlglaaGreatDoor
namespace Go.Proofs.YtgibkdldfnlglaaGreatDoor
open Go.Abs
set_option linter.unusedVariables false
set_option linter.unusedSimpArgs false
set_option maxRecDepth 20000
set_option maxHeartbeats 4000000

end Go.Proofs.YtgibkdldfnlglaaGreatDoor
namespace Go.Proofs.YtgibkdldfnlglaaGreatDoor
open Go.Abs Go.Lex
set_option linter.unusedSimpArgs false
set_option linter.unusedVariables false
end Go.Proofs.YtgibkdldfnlglaaGreatDoor
namespace Go.Proofs.YtgibkdldfnlglaaGreatDoor
open Go.Abs
set_option linter.unusedVariables false
set_option linter.unusedSimpArgs false
set_option maxRecDepth 20000
set_option maxHeartbeats 4000000

def ref18_written_L1 (t_0 : S_api_Lexeme) : ((List UInt8) × Int) → Option (Lp ((List UInt8) × Int) (Lp ((List UInt8)) ((List UInt8)))) :=
 fun (out_9, i_10) =>
  cond (decide (i_10 < (t_0.S.length : Int)))
   (bindJ (S := (List UInt8))
    (idx t_0.S i_10 fun c23 =>
    bindJ (S := Bool)
     (cond (decide ((c23.toNat : Int) = 34))
      (some (.go true))
      (idx t_0.S i_10 fun c30 =>
      some (.go (decide ((c30.toNat : Int) = 92)))))
    (fun b24 =>
     cond b24
      (need (out_9.length + ([92] : List UInt8).length ≤ 4294967296) (
      some (.go (out_9 ++ ([92] : List UInt8)))))
      (some (.go out_9))))
   (fun out_17 =>
    idx t_0.S i_10 fun c35 =>
    need (out_17.length + ([c35] : List UInt8).length ≤ 4294967296) (
    some (.go ((out_17 ++ ([c35] : List UInt8)), (IntKind.i64.wrap (i_10 + 1)))))))
   (some (.stop (.go out_9)))
def ref18_written (n : Nat) (t_0 : S_api_Lexeme) : Option ((List UInt8)) :=
 cond (decide (t_0.Kind ≠ 4))
  (some t_0.S)
  (bindJ (S := (List UInt8))
   (iter (ref18_written_L1 t_0) n (([] : List UInt8), 0))
  (fun out_3 =>
   need ([34].length + out_3.length ≤ 4294967296) (
   need (([34] ++ out_3).length + [34].length ≤ 4294967296) (
   some (([34] ++ out_3) ++ [34])))))
theorem ref18_written_ok (n : Nat) (t_0 : S_api_Lexeme)  {r : (List UInt8)} (h : ref18_written n t_0 = some r) :
  Meets Tryz.prog 40 [.agg #[.int .i64 t_0.Kind, .int .i64 t_0.At, .string (bs t_0.S)]] [] (fun v G => v = .string (bs r) ∧ G = []) := by
 refine fn_of_run Tryz.func40 rfl Tryz.ntmps40 rfl (fun w0 o0 => ?_)
 refine run_seq ?_
 refine run_region' ?_
 refine ot rfl rfl (t_box rfl) ?_
 rintro _ _ ⟨b1, rfl, rfl⟩
 refine oy rfl rfl (y_assign rfl) ?_
 refine ops_nil ?_
 refine goes_code ?_
 refine run_seq ?_
 refine run_seq ?_
 refine run_region' ?_
 refine oy rfl rfl (y_fieldAddr_box (sz := 0) Tryz.runUnderlying44 rfl Tryz.sizeOf3 rfl) ?_
 refine oy rfl rfl (y_load_box 0 Tryz.isAgg3 rfl rfl rfl) ?_
 refine oy rfl rfl (y_neq rfl rfl) ?_
 refine ops_nil ?_
 refine goes_code ?_
 refine run_cond (decide (t_0.Kind ≠ 4)) rfl (fun hc2 => ?_) (fun hc2 => ?_)
 ·replace h := cond_t h hc2
  refine run_seq ?_
  refine run_region' ?_
  refine oy rfl rfl (y_fieldAddr_box (sz := 0) Tryz.runUnderlying44 rfl Tryz.sizeOf9 rfl) ?_
  refine oy rfl rfl (y_load_box 0 Tryz.isAgg9 rfl rfl rfl) ?_
  refine oy rfl rfl (y_assign rfl) ?_
  refine ops_nil ?_
  refine goes_code ?_
  refine run_ret ?_
  obtain rfl := some_eq h
  refine fin_slots [2] [.string (bs t_0.S)] [] [] Tryz.results40 rfl (by decide) rfl ?_
  exact ⟨rfl, rfl⟩
 ·replace h := cond_f h hc2
  refine run_skip ?_
  refine goes_code ?_
  refine run_seq ?_
  refine run_region' ?_
  refine oy rfl rfl (y_assign rfl) ?_
  refine ops_nil ?_
  refine goes_code ?_
  obtain ⟨o5, h, ho6⟩ := bindJ_some h
  refine run_cut (((List UInt8)) × (Value)) (fun σ => [(3, σ.2)]) (fun σ => [row σ.2 1 (σ.1.map eB8)]) (fun σ => o5 = .go σ.1) (fun L8 hL7 => ?_) ?_
  ·
   refine run_seq ?_
   refine run_region' ?_
   refine oy rfl rfl (y_assign rfl) ?_
   refine ops_nil ?_
   refine goes_code ?_
   refine run_block ?_
   refine run_turn (nilrow 1) ?_
   refine run_turn (retell 1 (g := row (.slice none 0 0) 1 (([] : List UInt8).map eB8)) rfl rfl) ?_
   refine run_iter (step := ref18_written_L1 t_0) (n := n) (s0 := (([] : List UInt8), 0)) h (G := Value) (.slice none 0 0) (fun σ γ => [(3, γ), (4, .int .i64 σ.2), (1, boxP b1 0)]) (fun σ γ => [row γ 1 (σ.1.map eB8), box b1 [.int .i64 t_0.Kind, .int .i64 t_0.At, .string (bs t_0.S)]]) [1, 0] (qv3 rfl rfl rfl) (by decide) rfl ?_
   rintro ⟨out_9, i_10⟩ v11 o12 h L15 hgo13 hstop14
   change Run _ _ _ (VF.of [(3, v11), (4, .int .i64 i_10), (1, boxP b1 0)]) [row v11 1 (out_9.map eB8), box b1 [.int .i64 t_0.Kind, .int .i64 t_0.At, .string (bs t_0.S)]]
   refine run_seq ?_
   refine run_seq ?_
   refine run_region' ?_
   refine oy rfl rfl (y_move rfl) ?_
   refine oy rfl rfl (y_fieldAddr_box (sz := 0) Tryz.runUnderlying44 rfl Tryz.sizeOf9 rfl) ?_
   refine oy rfl rfl (y_load_box 1 Tryz.isAgg9 rfl rfl rfl) ?_
   refine oy rfl rfl (y_len_str rfl Tryz.runUnderlying9 rfl) ?_
   refine oy rfl rfl (y_lss rfl rfl) ?_
   refine ops_nil ?_
   refine goes_code ?_
   refine run_cond (decide (i_10 < (t_0.S.length : Int))) rfl (fun hc16 => ?_) (fun hc16 => ?_)
   ·replace h := cond_t h hc16
    refine run_skip ?_
    refine goes_code ?_
    refine run_seq ?_
    refine run_block ?_
    obtain ⟨o19, h, ho20⟩ := bindJ_some h
    refine run_cut (((List UInt8)) × (Value)) (fun σ => [(3, σ.2), (1, boxP b1 0), (4, .int .i64 i_10)]) (fun σ => [row σ.2 1 (σ.1.map eB8), box b1 [.int .i64 t_0.Kind, .int .i64 t_0.At, .string (bs t_0.S)]]) (fun σ => o19 = .go σ.1) (fun L22 hL21 => ?_) ?_
    ·
     refine run_seq ?_
     refine run_region' ?_
     refine oy rfl rfl (y_fieldAddr_box (sz := 0) Tryz.runUnderlying44 rfl Tryz.sizeOf9 rfl) ?_
     refine oy rfl rfl (y_load_box 1 Tryz.isAgg9 rfl rfl rfl) ?_
     refine oy rfl rfl (y_move rfl) ?_
     obtain ⟨c23, hzc23, hlc23, hxc23, h⟩ := idx_some h
     refine oy rfl rfl (y_index_strI (kd := .i64) (i := i_10) Tryz.runUnderlying9 rfl rfl hzc23 hxc23) ?_
     refine oy rfl rfl (y_eql rfl rfl) ?_
     refine oy rfl rfl (y_move rfl) ?_
     obtain ⟨o25, h, ho26⟩ := bindJ_some h
     refine ops_cut 6 (Bool) (fun σ => [(3, v11), (4, .int .i64 i_10), (1, boxP b1 0), (28, .bool σ)]) (fun σ => [row v11 1 (out_9.map eB8), box b1 [.int .i64 t_0.Kind, .int .i64 t_0.At, .string (bs t_0.S)]]) (fun σ => o25 = .go σ) (fun L27 hL28 => ?_) ?_
     ·refine ops_split 22 (decide ((c23.toNat : Int) = 34)) rfl (fun hg29 => ?_) (fun hg29 => ?_)
      ·replace h := cond_t h hg29
       refine ops_no 5 false 22 rfl rfl rfl rfl rfl ?_
       refine ops_no 5 false 22 rfl rfl rfl rfl rfl ?_
       refine ops_no 5 false 22 rfl rfl rfl rfl rfl ?_
       refine ops_no 5 false 22 rfl rfl rfl rfl rfl ?_
       refine ops_weak [(3, v11), (4, .int .i64 i_10), (1, boxP b1 0), (22, .bool true), (26, undef)] [0, 1] [row v11 1 (out_9.map eB8), box b1 [.int .i64 t_0.Kind, .int .i64 t_0.At, .string (bs t_0.S)]] (qv5 rfl rfl rfl rfl rfl) (by decide) rfl ?_
       refine ops_no 5 false 22 rfl rfl rfl rfl rfl ?_
       refine oy rfl rfl (y_pick (b := true) rfl rfl) ?_
       refine ops_nil ?_
       obtain rfl := some_eq h
       exact goes_cut hL28 true [0, 1] (qv4 rfl rfl rfl rfl) (by decide) rfl rfl
      ·replace h := cond_f h hg29
       refine ops_y (wg 5 false 22 rfl rfl rfl rfl) rfl (y_fieldAddr_box (sz := 0) Tryz.runUnderlying44 rfl Tryz.sizeOf9 rfl) ?_
       refine ops_y (wg 5 false 22 rfl rfl rfl rfl) rfl (y_load_box 1 Tryz.isAgg9 rfl rfl rfl) ?_
       refine ops_y (wg 5 false 22 rfl rfl rfl rfl) rfl (y_move rfl) ?_
       obtain ⟨c30, hzc30, hlc30, hxc30, h⟩ := idx_some h
       refine ops_y (wg 5 false 22 rfl rfl rfl rfl) rfl (y_index_strI (kd := .i64) (i := i_10) Tryz.runUnderlying9 rfl rfl hzc30 hxc30) ?_
       refine ops_weak [(3, v11), (4, .int .i64 i_10), (1, boxP b1 0), (22, .bool false), (26, .int .u8 (c30.toNat : Int))] [0, 1] [row v11 1 (out_9.map eB8), box b1 [.int .i64 t_0.Kind, .int .i64 t_0.At, .string (bs t_0.S)]] (qv5 rfl rfl rfl rfl rfl) (by decide) rfl ?_
       refine ops_y (wg 5 false 22 rfl rfl rfl rfl) rfl (y_eql rfl rfl) ?_
       refine oy rfl rfl (y_pick (b := false) rfl rfl) ?_
       refine ops_nil ?_
       obtain rfl := some_eq h
       exact goes_cut hL28 (decide ((c30.toNat : Int) = 92)) [0, 1] (qv4 rfl rfl rfl rfl) (by decide) rfl rfl
     rintro b24 hj
     obtain rfl : o25 = _ := hj
     replace h := after_go ho26
     clear ho26
     refine ops_nil ?_
     refine goes_code ?_
     refine run_cond b24 rfl (fun hc31 => ?_) (fun hc31 => ?_)
     ·replace h := cond_t h hc31
      refine run_region' ?_
      refine oy rfl rfl (y_move rfl) ?_
      refine ot rfl rfl (t_lit [.int .u8 92] Tryz.runUnderlying47 Tryz.sizeOf5 Tryz.zeroValue5 rfl (by decide) (by decide) rfl (by simp [Value.cells, boxP])) ?_
      rintro v32 _ ⟨rfl, _⟩
      refine ops_turn (retell 2 (g := row v32 1 (([92] : List UInt8).map eB8)) rfl rfl) ?_
      obtain ⟨hr34, h⟩ := need_some h
      refine ot rfl rfl (t_append (es := 1) 0 rfl Tryz.runUnderlying47 rfl Tryz.runUnderlying47 (.inr ⟨_, rfl⟩) Tryz.typeInfo5 rfl (by decide) Tryz.zeroValue5 rfl rfl rfl rfl (src_reads 2 rfl reads_row (map_ok eB8_ok _)) (map_room hr34 (by decide)) (map_fit hr34)) ?_
      rintro v33 _ rfl
      refine ops_turn (retell 0 (g := row v33 1 ((out_9 ++ ([92] : List UInt8)).map eB8)) rfl (congrArg (row _ _) List.map_append.symm)) ?_
      refine oy rfl rfl (y_assign rfl) ?_
      refine ops_nil ?_
      obtain rfl := some_eq h
      exact goes_cut hL21 ((out_9 ++ ([92] : List UInt8)), v33) [0, 1] (qv3 rfl rfl rfl) (by decide) rfl rfl
     ·replace h := cond_f h hc31
      refine run_skip ?_
      obtain rfl := some_eq h
      exact goes_cut hL21 (out_9, v11) [0, 1] (qv3 rfl rfl rfl) (by decide) rfl rfl
    rintro ⟨out_17, v18⟩ hj
    obtain rfl : o19 = _ := hj
    replace h := after_go ho20
    clear ho20
    change Run _ _ _ (VF.of [(3, v18), (1, boxP b1 0), (4, .int .i64 i_10)]) [row v18 1 (out_17.map eB8), box b1 [.int .i64 t_0.Kind, .int .i64 t_0.At, .string (bs t_0.S)]]
    refine run_region' ?_
    refine oy rfl rfl (y_move rfl) ?_
    refine oy rfl rfl (y_fieldAddr_box (sz := 0) Tryz.runUnderlying44 rfl Tryz.sizeOf9 rfl) ?_
    refine oy rfl rfl (y_load_box 1 Tryz.isAgg9 rfl rfl rfl) ?_
    refine oy rfl rfl (y_move rfl) ?_
    obtain ⟨c35, hzc35, hlc35, hxc35, h⟩ := idx_some h
    refine oy rfl rfl (y_index_strI (kd := .i64) (i := i_10) Tryz.runUnderlying9 rfl rfl hzc35 hxc35) ?_
    refine ot rfl rfl (t_lit [.int .u8 (c35.toNat : Int)] Tryz.runUnderlying47 Tryz.sizeOf5 Tryz.zeroValue5 rfl (by decide) (by decide) rfl (by simp [Value.cells, boxP])) ?_
    rintro v36 _ ⟨rfl, _⟩
    refine ops_turn (retell 2 (g := row v36 1 (([c35] : List UInt8).map eB8)) rfl rfl) ?_
    obtain ⟨hr38, h⟩ := need_some h
    refine ot rfl rfl (t_append (es := 1) 0 rfl Tryz.runUnderlying47 rfl Tryz.runUnderlying47 (.inr ⟨_, rfl⟩) Tryz.typeInfo5 rfl (by decide) Tryz.zeroValue5 rfl rfl rfl rfl (src_reads 2 rfl reads_row (map_ok eB8_ok _)) (map_room hr38 (by decide)) (map_fit hr38)) ?_
    rintro v37 _ rfl
    refine ops_turn (retell 0 (g := row v37 1 ((out_17 ++ ([c35] : List UInt8)).map eB8)) rfl (congrArg (row _ _) List.map_append.symm)) ?_
    refine oy rfl rfl (y_assign rfl) ?_
    refine ops_nil ?_
    refine goes_blk ?_
    refine goes_code ?_
    refine run_weak [(3, v37), (1, boxP b1 0), (4, .int .i64 i_10)] [0, 1] [row v37 1 ((out_17 ++ ([c35] : List UInt8)).map eB8), box b1 [.int .i64 t_0.Kind, .int .i64 t_0.At, .string (bs t_0.S)]] (qv3 rfl rfl rfl) (by decide) rfl ?_
    refine run_region' ?_
    refine oy rfl rfl (y_move rfl) ?_
    refine oy rfl rfl (y_add rfl rfl) ?_
    refine oy rfl rfl (y_assign rfl) ?_
    refine ops_nil ?_
    obtain rfl := some_eq h
    exact goes_iter hgo13 ((out_17 ++ ([c35] : List UInt8)), (IntKind.i64.wrap (i_10 + 1))) v37 [0, 1] rfl (qv3 rfl rfl rfl) (by decide) rfl
   ·replace h := cond_f h hc16
    refine run_exit _ rfl ?_
    obtain rfl := some_eq h
    obtain rfl := hstop14 _ rfl
    exact goes_cut hL7 (out_9, v11) [0] (qv1 rfl) (by decide) rfl rfl
  rintro ⟨out_3, v4⟩ hj
  obtain rfl : o5 = _ := hj
  replace h := after_go ho6
  clear ho6
  change Run _ _ _ (VF.of [(3, v4)]) [row v4 1 (out_3.map eB8)]
  refine run_seq ?_
  refine run_region' ?_
  refine oy rfl rfl (y_move rfl) ?_
  refine oy rfl rfl (y_b2s (l := out_3) 0 Tryz.runUnderlying47 Tryz.runUnderlying5 Tryz.runUnderlying9 rfl rfl reads_row) ?_
  obtain ⟨hs39, h⟩ := need_some h
  refine oy rfl rfl (y_sadd rfl rfl hs39) ?_
  obtain ⟨hs40, h⟩ := need_some h
  refine oy rfl rfl (y_sadd rfl rfl hs40) ?_
  refine oy rfl rfl (y_assign rfl) ?_
  refine ops_nil ?_
  refine goes_code ?_
  refine run_ret ?_
  obtain rfl := some_eq h
  refine fin_slots [2] [.string (bs (([34] ++ out_3) ++ [34]))] [] [] Tryz.results40 rfl (by decide) rfl ?_
  exact ⟨rfl, rfl⟩

def ref18_Possible (n : Nat) (t_0 : S_api_Lexeme) : Option (Bool) :=
 cond (decide (32768 < (t_0.S.length : Int)))
  (some false)
  (obind (ref18_written n t_0) fun r3 =>
  obind (ref18_Tokens n r3) fun r5 =>
  bindJ (S := Bool)
   (cond (decide (r5.P.E = 0) && decide ((r5.L.length : Int) = 1))
    (idx r5.L 0 fun x19 =>
    some (.go (decide (x19.Kind = t_0.Kind))))
    (some (.go false)))
  (fun b13 =>
   bindJ (S := Bool)
    (cond b13
     (idx r5.L 0 fun x26 =>
     some (.go (decide (x26.S = t_0.S))))
     (some (.go false)))
   (fun b20 =>
    bindJ (S := Bool)
     (cond b20
      (idx r5.L 0 fun x33 =>
      some (.go (decide (x33.At = 0))))
      (some (.go false)))
    (fun b27 =>
     some b27))))
theorem ref18_Possible_ok (n : Nat) (t_0 : S_api_Lexeme)  {r : Bool} (h : ref18_Possible n t_0 = some r) :
  Meets Tryz.prog 37 [.agg #[.int .i64 t_0.Kind, .int .i64 t_0.At, .string (bs t_0.S)]] [] (fun v G => v = .bool r ∧ G = []) := by
 refine fn_of_run Tryz.func37 rfl Tryz.ntmps37 rfl (fun w0 o0 => ?_)
 refine run_seq ?_
 refine run_region' ?_
 refine ot rfl rfl (t_box rfl) ?_
 rintro _ _ ⟨b1, rfl, rfl⟩
 refine oy rfl rfl (y_assign rfl) ?_
 refine ops_nil ?_
 refine goes_code ?_
 refine run_seq ?_
 refine run_seq ?_
 refine run_region' ?_
 refine oy rfl rfl (y_fieldAddr_box (sz := 0) Tryz.runUnderlying44 rfl Tryz.sizeOf9 rfl) ?_
 refine oy rfl rfl (y_load_box 0 Tryz.isAgg9 rfl rfl rfl) ?_
 refine oy rfl rfl (y_len_str rfl Tryz.runUnderlying9 rfl) ?_
 refine oy rfl rfl (y_gtr rfl rfl) ?_
 refine ops_nil ?_
 refine goes_code ?_
 refine run_cond (decide (32768 < (t_0.S.length : Int))) rfl (fun hc2 => ?_) (fun hc2 => ?_)
 ·replace h := cond_t h hc2
  refine run_seq ?_
  refine run_region' ?_
  refine oy rfl rfl (y_assign rfl) ?_
  refine ops_nil ?_
  refine goes_code ?_
  refine run_ret ?_
  obtain rfl := some_eq h
  refine fin_slots [2] [.bool false] [] [] Tryz.results37 rfl (by decide) rfl ?_
  exact ⟨rfl, rfl⟩
 ·replace h := cond_f h hc2
  refine run_skip ?_
  refine goes_code ?_
  refine run_seq ?_
  refine run_region' ?_
  refine oy rfl rfl (y_load_boxagg (c := [.int .i64 t_0.Kind, .int .i64 t_0.At, .string (bs t_0.S)]) 0 Tryz.isAgg44 Tryz.sizeOf44 rfl rfl rfl) ?_
  obtain ⟨r3, hr4, h⟩ := obind_some h
  refine ot rfl rfl (t_callx (vs := [.agg #[.int .i64 t_0.Kind, .int .i64 t_0.At, .string (bs t_0.S)]]) (cs := []) [] rfl Tryz.call40 rfl (ref18_written_ok n  t_0  hr4) showsX_nil rfl (.inl rfl)) ?_
  rintro _ _ ⟨_, ⟨rfl, rfl⟩, rfl⟩
  obtain ⟨r5, hr6, h⟩ := obind_some h
  refine ot rfl rfl (t_callx (vs := [.string (bs r3)]) (cs := []) [] rfl Tryz.call11 rfl (ref18_Tokens_ok n  r3  hr6) showsX_nil rfl (.inl rfl)) ?_
  rintro _ _ ⟨_, ⟨v7, rfl, rfl⟩, rfl⟩
  refine ot rfl rfl (t_alloc Tryz.zeroValue30) ?_
  rintro _ _ ⟨b8, rfl, rfl⟩
  refine ops_slc 1 rfl reads_row (fun hs9 hs9o => ?_)
  refine ot rfl rfl (t_store 2 Tryz.sizeOf30 rfl rfl rfl rfl (by simp [Value.cells, boxP]) (allL_cons hs9o (allL_cons rfl (allL_cons rfl (allL_nil))))) ?_
  rintro _ _ ⟨rfl, rfl⟩
  refine ops_turn (retell 2 (g := box b8 [v7, .int .i64 r5.P.At, .int .i64 r5.P.E]) rfl rfl) ?_
  refine ops_nil ?_
  refine goes_code ?_
  refine run_seq ?_
  refine run_weak [(1, boxP b1 0), (3, boxP b8 0)] [0, 1, 2] [box b1 [.int .i64 t_0.Kind, .int .i64 t_0.At, .string (bs t_0.S)], row v7 3 (r5.L.map S_api_Lexeme.enc), box b8 [v7, .int .i64 r5.P.At, .int .i64 r5.P.E]] (qv2 rfl rfl) (by decide) rfl ?_
  refine run_draw (by kernel_rfl) (by kernel_rfl) ?_
  refine sy rfl rfl (y_fieldAddr_box (sz := 1) Tryz.runUnderlying30 rfl Tryz.sizeOf26 rfl) ?_
  refine sy rfl rfl (y_fieldAddr_box (sz := 0) Tryz.runUnderlying26 rfl Tryz.sizeOf24 rfl) ?_
  refine sy rfl rfl (y_load_box 2 Tryz.isAgg24 rfl rfl rfl) ?_
  refine sy rfl rfl (y_eql rfl rfl) ?_
  refine sy rfl rfl (y_move rfl) ?_
  refine still_cut 5 (Bool) (fun σ => [(1, boxP b1 0), (3, boxP b8 0), (20, .bool σ)]) (fun σ => [box b1 [.int .i64 t_0.Kind, .int .i64 t_0.At, .string (bs t_0.S)], row v7 3 (r5.L.map S_api_Lexeme.enc), box b8 [v7, .int .i64 r5.P.At, .int .i64 r5.P.E]]) (fun σ => σ = (decide (r5.P.E = 0) && decide ((r5.L.length : Int) = 1))) (fun L10 hL11 => ?_) ?_
  ·refine still_split 15 (decide (r5.P.E = 0)) rfl (fun hg12 => ?_) (fun hg12 => ?_)
   ·skip
    refine still_y (wg 4 true 15 rfl rfl rfl rfl) rfl (y_fieldAddr_box (sz := 0) Tryz.runUnderlying30 rfl Tryz.sizeOf23 rfl) ?_
    refine still_y (wg 4 true 15 rfl rfl rfl rfl) rfl (y_load_box 2 Tryz.isAgg23 rfl rfl rfl) ?_
    refine still_y (wg 4 true 15 rfl rfl rfl rfl) rfl ((y_len 1 rfl Tryz.runUnderlying23 rfl rfl reads_row).to (v_len S_api_Lexeme.enc _)) ?_
    refine still_y (wg 4 true 15 rfl rfl rfl rfl) rfl (y_eql rfl rfl) ?_
    refine sy rfl rfl (y_pick (b := true) rfl rfl) ?_
    refine still_nil ?_
    exact goes_cut hL11 (decide ((r5.L.length : Int) = 1)) [0, 1, 2] (qv3 rfl rfl rfl) (by decide) rfl (by rw [hg12]; simp)
   ·skip
    refine still_no 4 true 15 rfl rfl rfl rfl rfl ?_
    refine still_no 4 true 15 rfl rfl rfl rfl rfl ?_
    refine still_no 4 true 15 rfl rfl rfl rfl rfl ?_
    refine still_no 4 true 15 rfl rfl rfl rfl rfl ?_
    refine sy rfl rfl (y_pick (b := false) rfl rfl) ?_
    refine still_nil ?_
    exact goes_cut hL11 false [0, 1, 2] (qv3 rfl rfl rfl) (by decide) rfl (by rw [hg12]; simp)
  rintro _ rfl
  refine sy rfl rfl (y_move rfl) ?_
  obtain ⟨o14, h, ho15⟩ := bindJ_some h
  refine still_cut 9 (Bool) (fun σ => [(1, boxP b1 0), (3, boxP b8 0), (30, .bool σ)]) (fun σ => [box b1 [.int .i64 t_0.Kind, .int .i64 t_0.At, .string (bs t_0.S)], row v7 3 (r5.L.map S_api_Lexeme.enc), box b8 [v7, .int .i64 r5.P.At, .int .i64 r5.P.E]]) (fun σ => o14 = .go σ) (fun L16 hL17 => ?_) ?_
  ·refine still_split 21 (decide (r5.P.E = 0) && decide ((r5.L.length : Int) = 1)) rfl (fun hg18 => ?_) (fun hg18 => ?_)
   ·replace h := cond_t h hg18
    refine still_y (wg 10 true 21 rfl rfl rfl rfl) rfl (y_fieldAddr_box (sz := 0) Tryz.runUnderlying30 rfl Tryz.sizeOf23 rfl) ?_
    refine still_y (wg 10 true 21 rfl rfl rfl rfl) rfl (y_load_box 2 Tryz.isAgg23 rfl rfl rfl) ?_
    obtain ⟨x19, hzx19, hlx19, hxx19, h⟩ := idx_some h
    refine still_y (wg 10 true 21 rfl rfl rfl rfl) rfl (y_indexAddrI (kd := .i64) (i := 0) 1 Tryz.runUnderlying23 Tryz.sizeOf44 rfl rfl rfl reads_row hzx19 (map_lt hlx19)) ?_
    refine still_y (wg 10 true 21 rfl rfl rfl rfl) rfl (y_fieldAddr_elem (sz := 0) Tryz.runUnderlying44 rfl Tryz.sizeOf3 rfl) ?_
    refine still_y (wg 10 true 21 rfl rfl rfl rfl) rfl (y_load_field (i := (0 : Int).toNat) (j := 0) 1 Tryz.isAgg3 rfl rfl reads_row (map_get hxx19) rfl) ?_
    refine still_y (wg 10 true 21 rfl rfl rfl rfl) rfl (y_fieldAddr_box (sz := 0) Tryz.runUnderlying44 rfl Tryz.sizeOf3 rfl) ?_
    refine still_y (wg 10 true 21 rfl rfl rfl rfl) rfl (y_load_box 0 Tryz.isAgg3 rfl rfl rfl) ?_
    refine still_y (wg 10 true 21 rfl rfl rfl rfl) rfl (y_eql rfl rfl) ?_
    refine sy rfl rfl (y_pick (b := true) rfl rfl) ?_
    refine still_nil ?_
    obtain rfl := some_eq h
    exact goes_cut hL17 (decide (x19.Kind = t_0.Kind)) [0, 1, 2] (qv3 rfl rfl rfl) (by decide) rfl rfl
   ·replace h := cond_f h hg18
    refine still_no 10 true 21 rfl rfl rfl rfl rfl ?_
    refine still_no 10 true 21 rfl rfl rfl rfl rfl ?_
    refine still_no 10 true 21 rfl rfl rfl rfl rfl ?_
    refine still_no 10 true 21 rfl rfl rfl rfl rfl ?_
    refine still_no 10 true 21 rfl rfl rfl rfl rfl ?_
    refine still_no 10 true 21 rfl rfl rfl rfl rfl ?_
    refine still_no 10 true 21 rfl rfl rfl rfl rfl ?_
    refine still_no 10 true 21 rfl rfl rfl rfl rfl ?_
    refine sy rfl rfl (y_pick (b := false) rfl rfl) ?_
    refine still_nil ?_
    obtain rfl := some_eq h
    exact goes_cut hL17 false [0, 1, 2] (qv3 rfl rfl rfl) (by decide) rfl rfl
  rintro b13 hj
  obtain rfl : o14 = _ := hj
  replace h := after_go ho15
  clear ho15
  refine sy rfl rfl (y_move rfl) ?_
  obtain ⟨o21, h, ho22⟩ := bindJ_some h
  refine still_cut 9 (Bool) (fun σ => [(3, boxP b8 0), (40, .bool σ)]) (fun σ => [box b1 [.int .i64 t_0.Kind, .int .i64 t_0.At, .string (bs t_0.S)], row v7 3 (r5.L.map S_api_Lexeme.enc), box b8 [v7, .int .i64 r5.P.At, .int .i64 r5.P.E]]) (fun σ => o21 = .go σ) (fun L23 hL24 => ?_) ?_
  ·refine still_split 31 b13 rfl (fun hg25 => ?_) (fun hg25 => ?_)
   ·replace h := cond_t h hg25
    refine still_y (wg 20 true 31 rfl rfl rfl rfl) rfl (y_fieldAddr_box (sz := 0) Tryz.runUnderlying30 rfl Tryz.sizeOf23 rfl) ?_
    refine still_y (wg 20 true 31 rfl rfl rfl rfl) rfl (y_load_box 2 Tryz.isAgg23 rfl rfl rfl) ?_
    obtain ⟨x26, hzx26, hlx26, hxx26, h⟩ := idx_some h
    refine still_y (wg 20 true 31 rfl rfl rfl rfl) rfl (y_indexAddrI (kd := .i64) (i := 0) 1 Tryz.runUnderlying23 Tryz.sizeOf44 rfl rfl rfl reads_row hzx26 (map_lt hlx26)) ?_
    refine still_y (wg 20 true 31 rfl rfl rfl rfl) rfl (y_fieldAddr_elem (sz := 0) Tryz.runUnderlying44 rfl Tryz.sizeOf9 rfl) ?_
    refine still_y (wg 20 true 31 rfl rfl rfl rfl) rfl (y_load_field (i := (0 : Int).toNat) (j := 2) 1 Tryz.isAgg9 rfl rfl reads_row (map_get hxx26) rfl) ?_
    refine still_y (wg 20 true 31 rfl rfl rfl rfl) rfl (y_fieldAddr_box (sz := 0) Tryz.runUnderlying44 rfl Tryz.sizeOf9 rfl) ?_
    refine still_y (wg 20 true 31 rfl rfl rfl rfl) rfl (y_load_box 0 Tryz.isAgg9 rfl rfl rfl) ?_
    refine still_y (wg 20 true 31 rfl rfl rfl rfl) rfl (y_seql rfl rfl) ?_
    refine sy rfl rfl (y_pick (b := true) rfl rfl) ?_
    refine still_nil ?_
    obtain rfl := some_eq h
    exact goes_cut hL24 (decide (x26.S = t_0.S)) [0, 1, 2] (qv2 rfl rfl) (by decide) rfl rfl
   ·replace h := cond_f h hg25
    refine still_no 20 true 31 rfl rfl rfl rfl rfl ?_
    refine still_no 20 true 31 rfl rfl rfl rfl rfl ?_
    refine still_no 20 true 31 rfl rfl rfl rfl rfl ?_
    refine still_no 20 true 31 rfl rfl rfl rfl rfl ?_
    refine still_no 20 true 31 rfl rfl rfl rfl rfl ?_
    refine still_no 20 true 31 rfl rfl rfl rfl rfl ?_
    refine still_no 20 true 31 rfl rfl rfl rfl rfl ?_
    refine still_no 20 true 31 rfl rfl rfl rfl rfl ?_
    refine sy rfl rfl (y_pick (b := false) rfl rfl) ?_
    refine still_nil ?_
    obtain rfl := some_eq h
    exact goes_cut hL24 false [0, 1, 2] (qv2 rfl rfl) (by decide) rfl rfl
  rintro b20 hj
  obtain rfl : o21 = _ := hj
  replace h := after_go ho22
  clear ho22
  refine sy rfl rfl (y_move rfl) ?_
  obtain ⟨o28, h, ho29⟩ := bindJ_some h
  refine still_cut 7 (Bool) (fun σ => [(48, .bool σ)]) (fun σ => [box b1 [.int .i64 t_0.Kind, .int .i64 t_0.At, .string (bs t_0.S)], row v7 3 (r5.L.map S_api_Lexeme.enc), box b8 [v7, .int .i64 r5.P.At, .int .i64 r5.P.E]]) (fun σ => o28 = .go σ) (fun L30 hL31 => ?_) ?_
  ·refine still_split 41 b20 rfl (fun hg32 => ?_) (fun hg32 => ?_)
   ·replace h := cond_t h hg32
    refine still_y (wg 30 true 41 rfl rfl rfl rfl) rfl (y_fieldAddr_box (sz := 0) Tryz.runUnderlying30 rfl Tryz.sizeOf23 rfl) ?_
    refine still_y (wg 30 true 41 rfl rfl rfl rfl) rfl (y_load_box 2 Tryz.isAgg23 rfl rfl rfl) ?_
    obtain ⟨x33, hzx33, hlx33, hxx33, h⟩ := idx_some h
    refine still_y (wg 30 true 41 rfl rfl rfl rfl) rfl (y_indexAddrI (kd := .i64) (i := 0) 1 Tryz.runUnderlying23 Tryz.sizeOf44 rfl rfl rfl reads_row hzx33 (map_lt hlx33)) ?_
    refine still_y (wg 30 true 41 rfl rfl rfl rfl) rfl (y_fieldAddr_elem (sz := 0) Tryz.runUnderlying44 rfl Tryz.sizeOf3 rfl) ?_
    refine still_y (wg 30 true 41 rfl rfl rfl rfl) rfl (y_load_field (i := (0 : Int).toNat) (j := 1) 1 Tryz.isAgg3 rfl rfl reads_row (map_get hxx33) rfl) ?_
    refine still_y (wg 30 true 41 rfl rfl rfl rfl) rfl (y_eql rfl rfl) ?_
    refine sy rfl rfl (y_pick (b := true) rfl rfl) ?_
    refine still_nil ?_
    obtain rfl := some_eq h
    exact goes_cut hL31 (decide (x33.At = 0)) [0, 1, 2] (qv1 rfl) (by decide) rfl rfl
   ·replace h := cond_f h hg32
    refine still_no 30 true 41 rfl rfl rfl rfl rfl ?_
    refine still_no 30 true 41 rfl rfl rfl rfl rfl ?_
    refine still_no 30 true 41 rfl rfl rfl rfl rfl ?_
    refine still_no 30 true 41 rfl rfl rfl rfl rfl ?_
    refine still_no 30 true 41 rfl rfl rfl rfl rfl ?_
    refine still_no 30 true 41 rfl rfl rfl rfl rfl ?_
    refine sy rfl rfl (y_pick (b := false) rfl rfl) ?_
    refine still_nil ?_
    obtain rfl := some_eq h
    exact goes_cut hL31 false [0, 1, 2] (qv1 rfl) (by decide) rfl rfl
  rintro b27 hj
  obtain rfl : o28 = _ := hj
  replace h := after_go ho29
  clear ho29
  refine sy rfl rfl (y_assign rfl) ?_
  refine still_nil ?_
  refine goes_code ?_
  refine run_ret ?_
  obtain rfl := some_eq h
  refine fin_slots [2] [.bool b27] [] [] Tryz.results37 rfl (by decide) rfl ?_
  exact ⟨rfl, rfl⟩

def ref18_Value_L1 (t_0 : S_api_Lexeme) : (Int × Int) → Option (Lp (Int × Int) (Lp (Int) (S_ref18_Number))) :=
 fun (n_17, i_18) =>
  cond (decide (i_18 < (t_0.S.length : Int)))
   (idx t_0.S i_18 fun c24 =>
   some (.go ((IntKind.i64.wrap ((IntKind.i64.wrap (10 * n_17)) + (IntKind.i64.wrap (IntKind.u8.wrap ((c24.toNat : Int) - 48))))), (IntKind.i64.wrap (i_18 + 1)))))
   (some (.stop (.go n_17)))
def ref18_Value (n : Nat) (t_0 : S_api_Lexeme) : Option (S_ref18_Number) :=
 bindJ (S := Bool)
  (cond (decide (t_0.Kind ≠ 3))
   (some (.go true))
   (obind (ref18_Possible n t_0) fun r9 =>
   some (.go (!r9))))
 (fun b3 =>
  cond b3
   (some (S_ref18_Number.mk 0 1))
   (bindJ (S := Int)
    (iter (ref18_Value_L1 t_0) n (0, 0))
   (fun n_12 =>
    some (S_ref18_Number.mk n_12 0))))
theorem ref18_Value_ok (n : Nat) (t_0 : S_api_Lexeme)  {r : S_ref18_Number} (h : ref18_Value n t_0 = some r) :
  Meets Tryz.prog 21 [.agg #[.int .i64 t_0.Kind, .int .i64 t_0.At, .string (bs t_0.S)]] [] (fun v G => v = .agg #[.int .i64 r.N, .int .i64 r.E] ∧ G = []) := by
 refine fn_of_run Tryz.func21 rfl Tryz.ntmps21 rfl (fun w0 o0 => ?_)
 refine run_seq ?_
 refine run_region' ?_
 refine ot rfl rfl (t_box rfl) ?_
 rintro _ _ ⟨b1, rfl, rfl⟩
 refine ot rfl rfl (t_alloc Tryz.zeroValue52) ?_
 rintro _ _ ⟨b2, rfl, rfl⟩
 refine ops_nil ?_
 refine goes_code ?_
 refine run_seq ?_
 refine run_seq ?_
 refine run_region' ?_
 refine oy rfl rfl (y_fieldAddr_box (sz := 0) Tryz.runUnderlying44 rfl Tryz.sizeOf3 rfl) ?_
 refine oy rfl rfl (y_load_box 0 Tryz.isAgg3 rfl rfl rfl) ?_
 refine oy rfl rfl (y_neq rfl rfl) ?_
 refine oy rfl rfl (y_move rfl) ?_
 obtain ⟨o4, h, ho5⟩ := bindJ_some h
 refine ops_cut 4 (Bool) (fun σ => [(1, boxP b1 0), (2, boxP b2 0), (12, .bool σ)]) (fun σ => [box b1 [.int .i64 t_0.Kind, .int .i64 t_0.At, .string (bs t_0.S)], box b2 [.int .i64 0, .int .i64 0]]) (fun σ => o4 = .go σ) (fun L6 hL7 => ?_) ?_
 ·refine ops_split 8 (decide (t_0.Kind ≠ 3)) rfl (fun hg8 => ?_) (fun hg8 => ?_)
  ·replace h := cond_t h hg8
   refine ops_no 3 false 8 rfl rfl rfl rfl rfl ?_
   refine ops_no 3 false 8 rfl rfl rfl rfl rfl ?_
   refine ops_no 3 false 8 rfl rfl rfl rfl rfl ?_
   refine oy rfl rfl (y_pick (b := true) rfl rfl) ?_
   refine ops_nil ?_
   obtain rfl := some_eq h
   exact goes_cut hL7 true [0, 1] (qv3 rfl rfl rfl) (by decide) rfl rfl
  ·replace h := cond_f h hg8
   refine ops_y (wg 3 false 8 rfl rfl rfl rfl) rfl (y_load_boxagg (c := [.int .i64 t_0.Kind, .int .i64 t_0.At, .string (bs t_0.S)]) 0 Tryz.isAgg44 Tryz.sizeOf44 rfl rfl rfl) ?_
   obtain ⟨r9, hr10, h⟩ := obind_some h
   refine ops_t (wg 3 false 8 rfl rfl rfl rfl) rfl (t_callx (vs := [.agg #[.int .i64 t_0.Kind, .int .i64 t_0.At, .string (bs t_0.S)]]) (cs := []) [] rfl Tryz.call37 rfl (ref18_Possible_ok n  t_0  hr10) showsX_nil rfl (.inl rfl)) ?_
   rintro _ _ ⟨_, ⟨rfl, rfl⟩, rfl⟩
   refine ops_y (wg 3 false 8 rfl rfl rfl rfl) rfl (y_not rfl) ?_
   refine oy rfl rfl (y_pick (b := false) rfl rfl) ?_
   refine ops_nil ?_
   obtain rfl := some_eq h
   exact goes_cut hL7 (!r9) [0, 1] (qv3 rfl rfl rfl) (by decide) rfl rfl
 rintro b3 hj
 obtain rfl : o4 = _ := hj
 replace h := after_go ho5
 clear ho5
 refine ops_nil ?_
 refine goes_code ?_
 refine run_cond b3 rfl (fun hc11 => ?_) (fun hc11 => ?_)
 ·replace h := cond_t h hc11
  refine run_seq ?_
  refine run_region' ?_
  refine oy rfl rfl (y_build_struct (cells := #[.int .i64 0, .int .i64 1]) [(1, .int .i64 1)] [(1, [.int .i64 1])] Tryz.zeroValue52 Tryz.runUnderlying52 (fs_cons Tryz.sizeOf3 (fs_cons Tryz.sizeOf24 fs_nil)) rfl rfl rfl) ?_
  refine ot rfl rfl (t_store 1 Tryz.sizeOf52 rfl rfl rfl rfl (by simp [Value.cells, boxP]) (by simp [Value.cells, Value.oneCell', boxP])) ?_
  rintro _ _ ⟨rfl, rfl⟩
  refine ops_turn (retell 1 (g := box b2 [.int .i64 0, .int .i64 1]) rfl rfl) ?_
  refine ops_nil ?_
  refine goes_code ?_
  refine run_ret ?_
  obtain rfl := some_eq h
  refine fin_res [.cell 2 52] [.agg #[.int .i64 0, .int .i64 1]] [] [] Tryz.results21 rfl (rescons (res_box 1 Tryz.isAgg52 Tryz.sizeOf52 rfl rfl rfl) resnil) (by decide) rfl ?_
  exact ⟨rfl, rfl⟩
 ·replace h := cond_f h hc11
  refine run_skip ?_
  refine goes_code ?_
  refine run_seq ?_
  refine run_region' ?_
  refine oy rfl rfl (y_assign rfl) ?_
  refine ops_nil ?_
  refine goes_code ?_
  obtain ⟨o13, h, ho14⟩ := bindJ_some h
  refine run_cut ((Int) × (Unit)) (fun σ => [(3, .int .i64 σ.1), (2, boxP b2 0)]) (fun σ => [box b2 [.int .i64 0, .int .i64 0]]) (fun σ => o13 = .go σ.1) (fun L16 hL15 => ?_) ?_
  ·
   refine run_seq ?_
   refine run_region' ?_
   refine oy rfl rfl (y_assign rfl) ?_
   refine ops_nil ?_
   refine goes_code ?_
   refine run_block ?_
   refine run_iter (step := ref18_Value_L1 t_0) (n := n) (s0 := (0, 0)) h (G := Unit) () (fun σ γ => [(3, .int .i64 σ.1), (4, .int .i64 σ.2), (1, boxP b1 0), (2, boxP b2 0)]) (fun σ γ => [box b1 [.int .i64 t_0.Kind, .int .i64 t_0.At, .string (bs t_0.S)], box b2 [.int .i64 0, .int .i64 0]]) [0, 1] (qv4 rfl rfl rfl rfl) (by decide) rfl ?_
   rintro ⟨n_17, i_18⟩ _ o19 h L22 hgo20 hstop21
   change Run _ _ _ (VF.of [(3, .int .i64 n_17), (4, .int .i64 i_18), (1, boxP b1 0), (2, boxP b2 0)]) [box b1 [.int .i64 t_0.Kind, .int .i64 t_0.At, .string (bs t_0.S)], box b2 [.int .i64 0, .int .i64 0]]
   refine run_seq ?_
   refine run_seq ?_
   refine run_region' ?_
   refine oy rfl rfl (y_move rfl) ?_
   refine oy rfl rfl (y_fieldAddr_box (sz := 0) Tryz.runUnderlying44 rfl Tryz.sizeOf9 rfl) ?_
   refine oy rfl rfl (y_load_box 0 Tryz.isAgg9 rfl rfl rfl) ?_
   refine oy rfl rfl (y_len_str rfl Tryz.runUnderlying9 rfl) ?_
   refine oy rfl rfl (y_lss rfl rfl) ?_
   refine ops_nil ?_
   refine goes_code ?_
   refine run_cond (decide (i_18 < (t_0.S.length : Int))) rfl (fun hc23 => ?_) (fun hc23 => ?_)
   ·replace h := cond_t h hc23
    refine run_skip ?_
    refine goes_code ?_
    refine run_seq ?_
    refine run_block ?_
    refine run_region' ?_
    refine oy rfl rfl (y_move rfl) ?_
    refine oy rfl rfl (y_mul rfl rfl) ?_
    refine oy rfl rfl (y_fieldAddr_box (sz := 0) Tryz.runUnderlying44 rfl Tryz.sizeOf9 rfl) ?_
    refine oy rfl rfl (y_load_box 0 Tryz.isAgg9 rfl rfl rfl) ?_
    refine oy rfl rfl (y_move rfl) ?_
    obtain ⟨c24, hzc24, hlc24, hxc24, h⟩ := idx_some h
    refine oy rfl rfl (y_index_strI (kd := .i64) (i := i_18) Tryz.runUnderlying9 rfl rfl hzc24 hxc24) ?_
    refine oy rfl rfl (y_sub rfl rfl) ?_
    refine oy rfl rfl (y_conv Tryz.runUnderlying5 Tryz.runUnderlying3 rfl) ?_
    refine oy rfl rfl (y_add rfl rfl) ?_
    refine oy rfl rfl (y_assign rfl) ?_
    refine ops_nil ?_
    refine goes_blk ?_
    refine goes_code ?_
    refine run_weak [(3, .int .i64 (IntKind.i64.wrap ((IntKind.i64.wrap (10 * n_17)) + (IntKind.i64.wrap (IntKind.u8.wrap ((c24.toNat : Int) - 48)))))), (4, .int .i64 i_18), (1, boxP b1 0), (2, boxP b2 0)] [0, 1] [box b1 [.int .i64 t_0.Kind, .int .i64 t_0.At, .string (bs t_0.S)], box b2 [.int .i64 0, .int .i64 0]] (qv4 rfl rfl rfl rfl) (by decide) rfl ?_
    refine run_region' ?_
    refine oy rfl rfl (y_move rfl) ?_
    refine oy rfl rfl (y_add rfl rfl) ?_
    refine oy rfl rfl (y_assign rfl) ?_
    refine ops_nil ?_
    obtain rfl := some_eq h
    exact goes_iter hgo20 ((IntKind.i64.wrap ((IntKind.i64.wrap (10 * n_17)) + (IntKind.i64.wrap (IntKind.u8.wrap ((c24.toNat : Int) - 48))))), (IntKind.i64.wrap (i_18 + 1))) () [0, 1] rfl (qv4 rfl rfl rfl rfl) (by decide) rfl
   ·replace h := cond_f h hc23
    refine run_exit _ rfl ?_
    obtain rfl := some_eq h
    obtain rfl := hstop21 _ rfl
    exact goes_cut hL15 (n_17, ()) [1] (qv2 rfl rfl) (by decide) rfl rfl
  rintro ⟨n_12, _⟩ hj
  obtain rfl : o13 = _ := hj
  replace h := after_go ho14
  clear ho14
  change Run _ _ _ (VF.of [(3, .int .i64 n_12), (2, boxP b2 0)]) [box b2 [.int .i64 0, .int .i64 0]]
  refine run_seq ?_
  refine run_region' ?_
  refine oy rfl rfl (y_move rfl) ?_
  refine oy rfl rfl (y_build_struct (cells := #[.int .i64 n_12, .int .i64 0]) [(0, .int .i64 n_12)] [(0, [.int .i64 n_12])] Tryz.zeroValue52 Tryz.runUnderlying52 (fs_cons Tryz.sizeOf3 (fs_cons Tryz.sizeOf24 fs_nil)) rfl rfl rfl) ?_
  refine ot rfl rfl (t_store 0 Tryz.sizeOf52 rfl rfl rfl rfl (by simp [Value.cells, boxP]) (by simp [Value.cells, Value.oneCell', boxP])) ?_
  rintro _ _ ⟨rfl, rfl⟩
  refine ops_turn (retell 0 (g := box b2 [.int .i64 n_12, .int .i64 0]) rfl rfl) ?_
  refine ops_nil ?_
  refine goes_code ?_
  refine run_ret ?_
  obtain rfl := some_eq h
  refine fin_res [.cell 2 52] [.agg #[.int .i64 n_12, .int .i64 0]] [] [] Tryz.results21 rfl (rescons (res_box 0 Tryz.isAgg52 Tryz.sizeOf52 rfl rfl rfl) resnil) (by decide) rfl ?_
  exact ⟨rfl, rfl⟩

def lexer_Text_L1 (n : Nat) (l_0 : (List S_api_Lexeme)) : ((List (List UInt8)) × Int) → Option (Lp ((List (List UInt8)) × Int) (Lp ((List (List UInt8))) ((List UInt8) × Int))) :=
 fun (out_7, s_8) =>
  cond (decide (s_8 < (l_0.length : Int)))
   (idx l_0 s_8 fun x15 =>
   obind (lexer_isToken n x15) fun r17 =>
   cond (!r17)
    (some (.stop (.stop ([], 1))))
    (obind (lexer_write x15) fun r20 =>
    need (out_7.length + ([r20] : List (List UInt8)).length ≤ 4294967296) (
    some (.go ((out_7 ++ ([r20] : List (List UInt8))), (IntKind.i64.wrap (s_8 + 1)))))))
   (some (.stop (.go out_7)))
def lexer_Text (n : Nat) (l_0 : (List S_api_Lexeme)) : Option ((List UInt8) × Int) :=
 bindJ (S := (List (List UInt8)))
  (iter (lexer_Text_L1 n l_0) n (([] : List (List UInt8)), 0))
 (fun out_1 =>
  obind (joinH out_1 [32]) fun r25 =>
  cond (decide (65536 < (r25.length : Int)))
   (some ([], 2))
   (some (r25, 0)))
theorem lexer_Text_ok (n : Nat) (l_0 : (List S_api_Lexeme)) (l_0v : Value) {r : (List UInt8) × Int} (h : lexer_Text n l_0 = some r) :
  Meets Tryz.prog 22 [l_0v] [ro l_0v 3 (l_0.map S_api_Lexeme.enc), globA] (fun v G => v = .tuple #[.string (bs r.1), .int .i64 r.2] ∧ G = []) := by
 refine fn_of_run Tryz.func22 rfl Tryz.ntmps22 rfl (fun w0 o0 => ?_)
 refine run_seq ?_
 refine run_region' ?_
 refine oy rfl rfl (y_assign rfl) ?_
 refine oy rfl rfl (y_assign rfl) ?_
 refine ops_nil ?_
 refine goes_code ?_
 refine run_seq ?_
 refine run_region' ?_
 refine oy rfl rfl (y_assign rfl) ?_
 refine ops_nil ?_
 refine goes_code ?_
 obtain ⟨o3, h, ho4⟩ := bindJ_some h
 refine run_cut (((List (List UInt8))) × (Value)) (fun σ => [(4, σ.2)]) (fun σ => [row σ.2 1 (σ.1.map eStr), globA]) (fun σ => o3 = .go σ.1) (fun L6 hL5 => ?_) ?_
 ·
  refine run_seq ?_
  refine run_region' ?_
  refine oy rfl rfl (y_move rfl) ?_
  refine oy rfl rfl ((y_len 0 rfl Tryz.runUnderlying23 rfl rfl reads_ro).to (v_len S_api_Lexeme.enc _)) ?_
  refine oy rfl rfl (y_move rfl) ?_
  refine ops_nil ?_
  refine goes_code ?_
  refine run_block ?_
  refine run_turn (nilrow 1) ?_
  refine run_turn (retell 2 (g := row (.slice none 0 0) 1 (([] : List (List UInt8)).map eStr)) rfl rfl) ?_
  refine run_iter (step := lexer_Text_L1 n l_0) (n := n) (s0 := (([] : List (List UInt8)), 0)) h (G := Value) (.slice none 0 0) (fun σ γ => [(4, γ), (10, .int .i64 σ.2), (8, l_0v), (9, .int .i64 (l_0.length : Int))]) (fun σ γ => [row γ 1 (σ.1.map eStr), ro l_0v 3 (l_0.map S_api_Lexeme.enc), globA]) [2, 0, 1] (qv4 rfl rfl rfl rfl) (by decide) rfl ?_
  rintro ⟨out_7, s_8⟩ v9 o10 h L13 hgo11 hstop12
  change Run _ _ _ (VF.of [(4, v9), (10, .int .i64 s_8), (8, l_0v), (9, .int .i64 (l_0.length : Int))]) [row v9 1 (out_7.map eStr), ro l_0v 3 (l_0.map S_api_Lexeme.enc), globA]
  refine run_seq ?_
  refine run_region' ?_
  refine oy rfl rfl (y_lss rfl rfl) ?_
  refine ops_nil ?_
  refine goes_code ?_
  refine run_seq ?_
  refine run_cond (decide (s_8 < (l_0.length : Int))) rfl (fun hc14 => ?_) (fun hc14 => ?_)
  ·replace h := cond_t h hc14
   refine run_skip ?_
   refine goes_code ?_
   refine run_seq ?_
   refine run_block ?_
   refine run_seq ?_
   refine run_region' ?_
   obtain ⟨x15, hzx15, hlx15, hxx15, h⟩ := idx_some h
   refine oy rfl rfl (y_indexAddrI (kd := .i64) (i := s_8) 1 Tryz.runUnderlying23 Tryz.sizeOf44 rfl rfl rfl reads_ro hzx15 (map_lt hlx15)) ?_
   refine oy rfl rfl (y_load_agg (i := s_8.toNat) (c := [.int .i64 x15.Kind, .int .i64 x15.At, .string (bs x15.S)]) 1 Tryz.isAgg44 Tryz.sizeOf44 rfl rfl reads_ro (map_get hxx15)) ?_
   refine ot rfl rfl (t_alloc Tryz.zeroValue44) ?_
   rintro _ _ ⟨b16, rfl, rfl⟩
   refine ot rfl rfl (t_store 3 Tryz.sizeOf44 rfl rfl rfl rfl (by simp [Value.cells, boxP]) (by simp [Value.cells, Value.oneCell', boxP])) ?_
   rintro _ _ ⟨rfl, rfl⟩
   refine ops_turn (retell 3 (g := box b16 [.int .i64 x15.Kind, .int .i64 x15.At, .string (bs x15.S)]) rfl rfl) ?_
   refine ops_nil ?_
   refine goes_code ?_
   refine run_seq ?_
   refine run_seq ?_
   refine run_region' ?_
   refine oy rfl rfl (y_load_boxagg (c := [.int .i64 x15.Kind, .int .i64 x15.At, .string (bs x15.S)]) 3 Tryz.isAgg44 Tryz.sizeOf44 rfl rfl rfl) ?_
   obtain ⟨r17, hr18, h⟩ := obind_some h
   refine ot rfl rfl (t_callx (vs := [.agg #[.int .i64 x15.Kind, .int .i64 x15.At, .string (bs x15.S)]]) (cs := []) [(2, 0)] rfl Tryz.call35 rfl (lexer_isToken_ok n  x15  hr18) (showsX_view 2 rfl views_glob showsX_nil) rfl (.inl rfl)) ?_
   rintro _ _ ⟨_, ⟨rfl, rfl⟩, rfl⟩
   refine oy rfl rfl (y_not rfl) ?_
   refine ops_nil ?_
   refine goes_code ?_
   refine run_cond (!r17) rfl (fun hc19 => ?_) (fun hc19 => ?_)
   ·replace h := cond_t h hc19
    refine run_seq ?_
    refine run_weak [] [2] [globA] vnil (by decide) rfl ?_
    refine run_region' ?_
    refine oy rfl rfl (y_assign rfl) ?_
    refine oy rfl rfl (y_assign rfl) ?_
    refine ops_nil ?_
    refine goes_code ?_
    refine run_ret ?_
    obtain rfl := some_eq h
    obtain rfl := hstop12 _ rfl
    skip
    obtain rfl := after_stop ho4
    refine fin_slots [2, 3] [.string (bs []), .int .i64 1] [] [] Tryz.results22 rfl (by decide) rfl ?_
    exact ⟨rfl, rfl⟩
   ·replace h := cond_f h hc19
    refine run_skip ?_
    refine goes_code ?_
    refine run_weak [(4, v9), (10, .int .i64 s_8), (8, l_0v), (9, .int .i64 (l_0.length : Int)), (6, boxP b16 0)] [0, 1, 2, 3] [row v9 1 (out_7.map eStr), ro l_0v 3 (l_0.map S_api_Lexeme.enc), globA, box b16 [.int .i64 x15.Kind, .int .i64 x15.At, .string (bs x15.S)]] (qv5 rfl rfl rfl rfl rfl) (by decide) rfl ?_
    refine run_region' ?_
    refine oy rfl rfl (y_move rfl) ?_
    refine oy rfl rfl (y_load_boxagg (c := [.int .i64 x15.Kind, .int .i64 x15.At, .string (bs x15.S)]) 3 Tryz.isAgg44 Tryz.sizeOf44 rfl rfl rfl) ?_
    obtain ⟨r20, hr21, h⟩ := obind_some h
    refine ot rfl rfl (t_callx (vs := [.agg #[.int .i64 x15.Kind, .int .i64 x15.At, .string (bs x15.S)]]) (cs := []) [] rfl Tryz.call38 rfl (lexer_write_ok  x15  hr21) showsX_nil rfl (.inl rfl)) ?_
    rintro _ _ ⟨_, ⟨rfl, rfl⟩, rfl⟩
    refine ot rfl rfl (t_lit [.string (bs r20)] Tryz.runUnderlying39 Tryz.sizeOf9 Tryz.zeroValue9 rfl (by decide) (by decide) rfl (by simp [Value.cells, boxP])) ?_
    rintro v22 _ ⟨rfl, _⟩
    refine ops_turn (retell 4 (g := row v22 1 (([r20] : List (List UInt8)).map eStr)) rfl rfl) ?_
    obtain ⟨hr24, h⟩ := need_some h
    refine ot rfl rfl (t_append (es := 1) 0 rfl Tryz.runUnderlying39 rfl Tryz.runUnderlying39 (.inr ⟨_, rfl⟩) Tryz.typeInfo9 rfl (by decide) Tryz.zeroValue9 rfl rfl rfl rfl (src_reads 4 rfl reads_row (map_ok eStr_ok _)) (map_room hr24 (by decide)) (map_fit hr24)) ?_
    rintro v23 _ rfl
    refine ops_turn (retell 0 (g := row v23 1 ((out_7 ++ ([r20] : List (List UInt8))).map eStr)) rfl (congrArg (row _ _) List.map_append.symm)) ?_
    refine oy rfl rfl (y_assign rfl) ?_
    refine ops_nil ?_
    refine goes_blk ?_
    refine goes_code ?_
    refine run_region' ?_
    refine oy rfl rfl (y_add rfl rfl) ?_
    refine oy rfl rfl (y_move rfl) ?_
    refine ops_nil ?_
    obtain rfl := some_eq h
    exact goes_iter hgo11 ((out_7 ++ ([r20] : List (List UInt8))), (IntKind.i64.wrap (s_8 + 1))) v23 [0, 1, 2] rfl (qv4 rfl rfl rfl rfl) (by decide) rfl
  ·replace h := cond_f h hc14
   refine run_exit _ rfl ?_
   obtain rfl := some_eq h
   obtain rfl := hstop12 _ rfl
   exact goes_cut hL5 (out_7, v9) [0, 2] (qv1 rfl) (by decide) rfl rfl
 rintro ⟨out_1, v2⟩ hj
 obtain rfl : o3 = _ := hj
 replace h := after_go ho4
 clear ho4
 change Run _ _ _ (VF.of [(4, v2)]) [row v2 1 (out_1.map eStr), globA]
 refine run_seq ?_
 refine run_region' ?_
 refine oy rfl rfl (y_move rfl) ?_
 obtain ⟨r25, hr26, h⟩ := obind_some h
 refine ot rfl rfl (t_callx (vs := [v2, .string (bs [32])]) (cs := []) [(0, 1)] rfl Tryz.call39 rfl (joinH_ok  out_1 [32] v2 hr26) (showsX_look 0 rfl views_row showsX_nil) rfl (.inr (by rintro _ _ ⟨rfl, rfl⟩ g hg; first | (cases hg; done) | (simp only [List.mem_cons, List.not_mem_nil, or_false] at hg; first | (subst hg; first | exact strict_row | exact strict_box) | (rcases hg with rfl | rfl <;> first | exact strict_row | exact strict_box) | (rcases hg with rfl | rfl | rfl <;> first | exact strict_row | exact strict_box))))) ?_
 rintro _ _ ⟨_, ⟨rfl, rfl⟩, rfl⟩
 refine oy rfl rfl (y_assign rfl) ?_
 refine ops_nil ?_
 refine goes_code ?_
 refine run_seq ?_
 refine run_seq ?_
 refine run_region' ?_
 refine oy rfl rfl (y_move rfl) ?_
 refine oy rfl rfl (y_len_str rfl Tryz.runUnderlying9 rfl) ?_
 refine oy rfl rfl (y_gtr rfl rfl) ?_
 refine ops_nil ?_
 refine goes_code ?_
 refine run_cond (decide (65536 < (r25.length : Int))) rfl (fun hc27 => ?_) (fun hc27 => ?_)
 ·replace h := cond_t h hc27
  refine run_seq ?_
  refine run_region' ?_
  refine oy rfl rfl (y_assign rfl) ?_
  refine oy rfl rfl (y_assign rfl) ?_
  refine ops_nil ?_
  refine goes_code ?_
  refine run_ret ?_
  obtain rfl := some_eq h
  refine fin_slots [2, 3] [.string (bs []), .int .i64 2] [] [] Tryz.results22 rfl (by decide) rfl ?_
  exact ⟨rfl, rfl⟩
 ·replace h := cond_f h hc27
  refine run_skip ?_
  refine goes_code ?_
  refine run_seq ?_
  refine run_region' ?_
  refine oy rfl rfl (y_move rfl) ?_
  refine oy rfl rfl (y_assign rfl) ?_
  refine oy rfl rfl (y_assign rfl) ?_
  refine ops_nil ?_
  refine goes_code ?_
  refine run_ret ?_
  obtain rfl := some_eq h
  refine fin_slots [2, 3] [.string (bs r25), .int .i64 0] [] [] Tryz.results22 rfl (by decide) rfl ?_
  exact ⟨rfl, rfl⟩

def ref18_Text_L1 (n : Nat) (l_0 : (List S_api_Lexeme)) : ((List UInt8) × Int) → Option (Lp ((List UInt8) × Int) (Lp ((List UInt8)) (S_ref18_Printed))) :=
 fun (out_8, i_9) =>
  cond (decide (i_9 < (l_0.length : Int)))
   (idx l_0 i_9 fun x16 =>
   obind (ref18_Possible n x16) fun r17 =>
   cond (!r17)
    (some (.stop (.stop (S_ref18_Printed.mk [] 1))))
    (bindJ (S := (List UInt8))
     (cond (decide (0 < i_9))
      (need (out_8.length + ([32] : List UInt8).length ≤ 4294967296) (
      some (.go (out_8 ++ ([32] : List UInt8)))))
      (some (.go out_8)))
    (fun out_20 =>
     idx l_0 i_9 fun x30 =>
     obind (ref18_written n x30) fun r31 =>
     need (out_20.length + r31.length ≤ 4294967296) (
     some (.go ((out_20 ++ r31), (IntKind.i64.wrap (i_9 + 1))))))))
   (some (.stop (.go out_8)))
def ref18_Text (n : Nat) (l_0 : (List S_api_Lexeme)) : Option (S_ref18_Printed) :=
 bindJ (S := (List UInt8))
  (iter (ref18_Text_L1 n l_0) n (([] : List UInt8), 0))
 (fun out_2 =>
  cond (decide (65536 < (out_2.length : Int)))
   (some (S_ref18_Printed.mk [] 2))
   (some (S_ref18_Printed.mk out_2 0)))
theorem ref18_Text_ok (n : Nat) (l_0 : (List S_api_Lexeme)) (l_0v : Value) {r : S_ref18_Printed} (h : ref18_Text n l_0 = some r) :
  Meets Tryz.prog 23 [l_0v] [ro l_0v 3 (l_0.map S_api_Lexeme.enc)] (fun v G => v = .agg #[.string (bs r.S), .int .i64 r.E] ∧ G = []) := by
 refine fn_of_run Tryz.func23 rfl Tryz.ntmps23 rfl (fun w0 o0 => ?_)
 refine run_seq ?_
 refine run_region' ?_
 refine ot rfl rfl (t_alloc Tryz.zeroValue57) ?_
 rintro _ _ ⟨b1, rfl, rfl⟩
 refine ops_nil ?_
 refine goes_code ?_
 refine run_seq ?_
 refine run_region' ?_
 refine oy rfl rfl (y_assign rfl) ?_
 refine ops_nil ?_
 refine goes_code ?_
 obtain ⟨o4, h, ho5⟩ := bindJ_some h
 refine run_cut (((List UInt8)) × (Value)) (fun σ => [(3, σ.2), (2, boxP b1 0)]) (fun σ => [row σ.2 1 (σ.1.map eB8), box b1 [.string (bs []), .int .i64 0]]) (fun σ => o4 = .go σ.1) (fun L7 hL6 => ?_) ?_
 ·
  refine run_seq ?_
  refine run_region' ?_
  refine oy rfl rfl (y_assign rfl) ?_
  refine ops_nil ?_
  refine goes_code ?_
  refine run_block ?_
  refine run_turn (nilrow 1) ?_
  refine run_turn (retell 2 (g := row (.slice none 0 0) 1 (([] : List UInt8).map eB8)) rfl rfl) ?_
  refine run_iter (step := ref18_Text_L1 n l_0) (n := n) (s0 := (([] : List UInt8), 0)) h (G := Value) (.slice none 0 0) (fun σ γ => [(3, γ), (4, .int .i64 σ.2), (0, l_0v), (2, boxP b1 0)]) (fun σ γ => [row γ 1 (σ.1.map eB8), ro l_0v 3 (l_0.map S_api_Lexeme.enc), box b1 [.string (bs []), .int .i64 0]]) [2, 0, 1] (qv4 rfl rfl rfl rfl) (by decide) rfl ?_
  rintro ⟨out_8, i_9⟩ v10 o11 h L14 hgo12 hstop13
  change Run _ _ _ (VF.of [(3, v10), (4, .int .i64 i_9), (0, l_0v), (2, boxP b1 0)]) [row v10 1 (out_8.map eB8), ro l_0v 3 (l_0.map S_api_Lexeme.enc), box b1 [.string (bs []), .int .i64 0]]
  refine run_seq ?_
  refine run_seq ?_
  refine run_region' ?_
  refine oy rfl rfl (y_move rfl) ?_
  refine oy rfl rfl (y_move rfl) ?_
  refine oy rfl rfl ((y_len 1 rfl Tryz.runUnderlying23 rfl rfl reads_ro).to (v_len S_api_Lexeme.enc _)) ?_
  refine oy rfl rfl (y_lss rfl rfl) ?_
  refine ops_nil ?_
  refine goes_code ?_
  refine run_cond (decide (i_9 < (l_0.length : Int))) rfl (fun hc15 => ?_) (fun hc15 => ?_)
  ·replace h := cond_t h hc15
   refine run_skip ?_
   refine goes_code ?_
   refine run_seq ?_
   refine run_block ?_
   refine run_seq ?_
   refine run_region' ?_
   refine oy rfl rfl (y_move rfl) ?_
   refine oy rfl rfl (y_move rfl) ?_
   obtain ⟨x16, hzx16, hlx16, hxx16, h⟩ := idx_some h
   refine oy rfl rfl (y_indexAddrI (kd := .i64) (i := i_9) 1 Tryz.runUnderlying23 Tryz.sizeOf44 rfl rfl rfl reads_ro hzx16 (map_lt hlx16)) ?_
   refine oy rfl rfl (y_load_agg (i := i_9.toNat) (c := [.int .i64 x16.Kind, .int .i64 x16.At, .string (bs x16.S)]) 1 Tryz.isAgg44 Tryz.sizeOf44 rfl rfl reads_ro (map_get hxx16)) ?_
   obtain ⟨r17, hr18, h⟩ := obind_some h
   refine ot rfl rfl (t_callx (vs := [.agg #[.int .i64 x16.Kind, .int .i64 x16.At, .string (bs x16.S)]]) (cs := []) [] rfl Tryz.call37 rfl (ref18_Possible_ok n  x16  hr18) showsX_nil rfl (.inl rfl)) ?_
   rintro _ _ ⟨_, ⟨rfl, rfl⟩, rfl⟩
   refine oy rfl rfl (y_assign rfl) ?_
   refine ops_nil ?_
   refine goes_code ?_
   refine run_seq ?_
   refine run_seq ?_
   refine run_weak [(3, v10), (4, .int .i64 i_9), (0, l_0v), (2, boxP b1 0), (5, .bool r17)] [0, 1, 2] [row v10 1 (out_8.map eB8), ro l_0v 3 (l_0.map S_api_Lexeme.enc), box b1 [.string (bs []), .int .i64 0]] (qv5 rfl rfl rfl rfl rfl) (by decide) rfl ?_
   refine run_region' ?_
   refine oy rfl rfl (y_move rfl) ?_
   refine oy rfl rfl (y_not rfl) ?_
   refine ops_nil ?_
   refine goes_code ?_
   refine run_cond (!r17) rfl (fun hc19 => ?_) (fun hc19 => ?_)
   ·replace h := cond_t h hc19
    refine run_seq ?_
    refine run_region' ?_
    refine oy rfl rfl (y_build_struct (cells := #[.string (bs []), .int .i64 1]) [(1, .int .i64 1)] [(1, [.int .i64 1])] Tryz.zeroValue57 Tryz.runUnderlying57 (fs_cons Tryz.sizeOf9 (fs_cons Tryz.sizeOf24 fs_nil)) rfl rfl rfl) ?_
    refine ot rfl rfl (t_store 2 Tryz.sizeOf57 rfl rfl rfl rfl (by simp [Value.cells, boxP]) (by simp [Value.cells, Value.oneCell', boxP])) ?_
    rintro _ _ ⟨rfl, rfl⟩
    refine ops_turn (retell 2 (g := box b1 [.string (bs []), .int .i64 1]) rfl rfl) ?_
    refine ops_nil ?_
    refine goes_code ?_
    refine run_ret ?_
    obtain rfl := some_eq h
    obtain rfl := hstop13 _ rfl
    skip
    obtain rfl := after_stop ho5
    refine fin_res [.cell 2 57] [.agg #[.string (bs []), .int .i64 1]] [] [] Tryz.results23 rfl (rescons (res_box 2 Tryz.isAgg57 Tryz.sizeOf57 rfl rfl rfl) resnil) (by decide) rfl ?_
    exact ⟨rfl, rfl⟩
   ·replace h := cond_f h hc19
    refine run_skip ?_
    refine goes_code ?_
    obtain ⟨o22, h, ho23⟩ := bindJ_some h
    refine run_cut (((List UInt8)) × (Value)) (fun σ => [(3, σ.2), (0, l_0v), (2, boxP b1 0), (4, .int .i64 i_9)]) (fun σ => [row σ.2 1 (σ.1.map eB8), ro l_0v 3 (l_0.map S_api_Lexeme.enc), box b1 [.string (bs []), .int .i64 0]]) (fun σ => o22 = .go σ.1) (fun L25 hL24 => ?_) ?_
    ·
     refine run_seq ?_
     refine run_region' ?_
     refine oy rfl rfl (y_move rfl) ?_
     refine oy rfl rfl (y_gtr rfl rfl) ?_
     refine ops_nil ?_
     refine goes_code ?_
     refine run_cond (decide (0 < i_9)) rfl (fun hc26 => ?_) (fun hc26 => ?_)
     ·replace h := cond_t h hc26
      refine run_region' ?_
      refine oy rfl rfl (y_move rfl) ?_
      refine ot rfl rfl (t_lit [.int .u8 32] Tryz.runUnderlying47 Tryz.sizeOf5 Tryz.zeroValue5 rfl (by decide) (by decide) rfl (by simp [Value.cells, boxP])) ?_
      rintro v27 _ ⟨rfl, _⟩
      refine ops_turn (retell 3 (g := row v27 1 (([32] : List UInt8).map eB8)) rfl rfl) ?_
      obtain ⟨hr29, h⟩ := need_some h
      refine ot rfl rfl (t_append (es := 1) 0 rfl Tryz.runUnderlying47 rfl Tryz.runUnderlying47 (.inr ⟨_, rfl⟩) Tryz.typeInfo5 rfl (by decide) Tryz.zeroValue5 rfl rfl rfl rfl (src_reads 3 rfl reads_row (map_ok eB8_ok _)) (map_room hr29 (by decide)) (map_fit hr29)) ?_
      rintro v28 _ rfl
      refine ops_turn (retell 0 (g := row v28 1 ((out_8 ++ ([32] : List UInt8)).map eB8)) rfl (congrArg (row _ _) List.map_append.symm)) ?_
      refine oy rfl rfl (y_assign rfl) ?_
      refine ops_nil ?_
      obtain rfl := some_eq h
      exact goes_cut hL24 ((out_8 ++ ([32] : List UInt8)), v28) [0, 1, 2] (qv4 rfl rfl rfl rfl) (by decide) rfl rfl
     ·replace h := cond_f h hc26
      refine run_skip ?_
      obtain rfl := some_eq h
      exact goes_cut hL24 (out_8, v10) [0, 1, 2] (qv4 rfl rfl rfl rfl) (by decide) rfl rfl
    rintro ⟨out_20, v21⟩ hj
    obtain rfl : o22 = _ := hj
    replace h := after_go ho23
    clear ho23
    change Run _ _ _ (VF.of [(3, v21), (0, l_0v), (2, boxP b1 0), (4, .int .i64 i_9)]) [row v21 1 (out_20.map eB8), ro l_0v 3 (l_0.map S_api_Lexeme.enc), box b1 [.string (bs []), .int .i64 0]]
    refine run_region' ?_
    refine oy rfl rfl (y_move rfl) ?_
    refine oy rfl rfl (y_move rfl) ?_
    refine oy rfl rfl (y_move rfl) ?_
    obtain ⟨x30, hzx30, hlx30, hxx30, h⟩ := idx_some h
    refine oy rfl rfl (y_indexAddrI (kd := .i64) (i := i_9) 1 Tryz.runUnderlying23 Tryz.sizeOf44 rfl rfl rfl reads_ro hzx30 (map_lt hlx30)) ?_
    refine oy rfl rfl (y_load_agg (i := i_9.toNat) (c := [.int .i64 x30.Kind, .int .i64 x30.At, .string (bs x30.S)]) 1 Tryz.isAgg44 Tryz.sizeOf44 rfl rfl reads_ro (map_get hxx30)) ?_
    obtain ⟨r31, hr32, h⟩ := obind_some h
    refine ot rfl rfl (t_callx (vs := [.agg #[.int .i64 x30.Kind, .int .i64 x30.At, .string (bs x30.S)]]) (cs := []) [] rfl Tryz.call40 rfl (ref18_written_ok n  x30  hr32) showsX_nil rfl (.inl rfl)) ?_
    rintro _ _ ⟨_, ⟨rfl, rfl⟩, rfl⟩
    obtain ⟨hr34, h⟩ := need_some h
    refine ot rfl rfl (t_append (es := 1) 0 rfl Tryz.runUnderlying47 rfl Tryz.runUnderlying9 (.inl rfl) Tryz.typeInfo5 rfl (by decide) Tryz.zeroValue5 rfl rfl rfl rfl (src_str _) (map_room hr34 (by decide)) (map_fit hr34)) ?_
    rintro v33 _ rfl
    refine ops_turn (retell 0 (g := row v33 1 ((out_20 ++ r31).map eB8)) rfl (congrArg (row _ _) List.map_append.symm)) ?_
    refine oy rfl rfl (y_assign rfl) ?_
    refine ops_nil ?_
    refine goes_blk ?_
    refine goes_code ?_
    refine run_weak [(3, v33), (0, l_0v), (2, boxP b1 0), (4, .int .i64 i_9)] [0, 1, 2] [row v33 1 ((out_20 ++ r31).map eB8), ro l_0v 3 (l_0.map S_api_Lexeme.enc), box b1 [.string (bs []), .int .i64 0]] (qv4 rfl rfl rfl rfl) (by decide) rfl ?_
    refine run_region' ?_
    refine oy rfl rfl (y_move rfl) ?_
    refine oy rfl rfl (y_add rfl rfl) ?_
    refine oy rfl rfl (y_assign rfl) ?_
    refine ops_nil ?_
    obtain rfl := some_eq h
    exact goes_iter hgo12 ((out_20 ++ r31), (IntKind.i64.wrap (i_9 + 1))) v33 [0, 1, 2] rfl (qv4 rfl rfl rfl rfl) (by decide) rfl
  ·replace h := cond_f h hc15
   refine run_exit _ rfl ?_
   obtain rfl := some_eq h
   obtain rfl := hstop13 _ rfl
   exact goes_cut hL6 (out_8, v10) [0, 2] (qv2 rfl rfl) (by decide) rfl rfl
 rintro ⟨out_2, v3⟩ hj
 obtain rfl : o4 = _ := hj
 replace h := after_go ho5
 clear ho5
 change Run _ _ _ (VF.of [(3, v3), (2, boxP b1 0)]) [row v3 1 (out_2.map eB8), box b1 [.string (bs []), .int .i64 0]]
 refine run_seq ?_
 refine run_seq ?_
 refine run_region' ?_
 refine oy rfl rfl (y_move rfl) ?_
 refine oy rfl rfl ((y_len 0 rfl Tryz.runUnderlying47 rfl rfl reads_row).to (v_len eB8 _)) ?_
 refine oy rfl rfl (y_gtr rfl rfl) ?_
 refine ops_nil ?_
 refine goes_code ?_
 refine run_cond (decide (65536 < (out_2.length : Int))) rfl (fun hc35 => ?_) (fun hc35 => ?_)
 ·replace h := cond_t h hc35
  refine run_seq ?_
  refine run_region' ?_
  refine oy rfl rfl (y_build_struct (cells := #[.string (bs []), .int .i64 2]) [(1, .int .i64 2)] [(1, [.int .i64 2])] Tryz.zeroValue57 Tryz.runUnderlying57 (fs_cons Tryz.sizeOf9 (fs_cons Tryz.sizeOf24 fs_nil)) rfl rfl rfl) ?_
  refine ot rfl rfl (t_store 1 Tryz.sizeOf57 rfl rfl rfl rfl (by simp [Value.cells, boxP]) (by simp [Value.cells, Value.oneCell', boxP])) ?_
  rintro _ _ ⟨rfl, rfl⟩
  refine ops_turn (retell 1 (g := box b1 [.string (bs []), .int .i64 2]) rfl rfl) ?_
  refine ops_nil ?_
  refine goes_code ?_
  refine run_ret ?_
  obtain rfl := some_eq h
  refine fin_res [.cell 2 57] [.agg #[.string (bs []), .int .i64 2]] [] [] Tryz.results23 rfl (rescons (res_box 1 Tryz.isAgg57 Tryz.sizeOf57 rfl rfl rfl) resnil) (by decide) rfl ?_
  exact ⟨rfl, rfl⟩
 ·replace h := cond_f h hc35
  refine run_skip ?_
  refine goes_code ?_
  refine run_seq ?_
  refine run_region' ?_
  refine oy rfl rfl (y_move rfl) ?_
  refine oy rfl rfl (y_b2s (l := out_2) 0 Tryz.runUnderlying47 Tryz.runUnderlying5 Tryz.runUnderlying9 rfl rfl reads_row) ?_
  refine oy rfl rfl (y_build_struct (cells := #[.string (bs out_2), .int .i64 0]) [(0, .string (bs out_2))] [(0, [.string (bs out_2)])] Tryz.zeroValue57 Tryz.runUnderlying57 (fs_cons Tryz.sizeOf9 (fs_cons Tryz.sizeOf24 fs_nil)) rfl rfl rfl) ?_
  refine ot rfl rfl (t_store 1 Tryz.sizeOf57 rfl rfl rfl rfl (by simp [Value.cells, boxP]) (by simp [Value.cells, Value.oneCell', boxP])) ?_
  rintro _ _ ⟨rfl, rfl⟩
  refine ops_turn (retell 1 (g := box b1 [.string (bs out_2), .int .i64 0]) rfl rfl) ?_
  refine ops_nil ?_
  refine goes_code ?_
  refine run_ret ?_
  obtain rfl := some_eq h
  refine fin_res [.cell 2 57] [.agg #[.string (bs out_2), .int .i64 0]] [] [] Tryz.results23 rfl (rescons (res_box 1 Tryz.isAgg57 Tryz.sizeOf57 rfl rfl rfl) resnil) (by decide) rfl ?_
  exact ⟨rfl, rfl⟩

end Go.Proofs.YtgibkdldfnlglaaGreatDoor
namespace Go.Proofs.YtgibkdldfnlglaaGreatDoor
open Go.Abs Go.Lex
set_option linter.unusedSimpArgs false
set_option linter.unusedVariables false
theorem bindJ_goj {S R : Type} (s : S) (k : S → Option R) : bindJ (some (.go s)) k = k s := rfl
def wr (t : S_api_Lexeme) : List UInt8 := if t.Kind = 4 then [34] ++ esc t.S ++ [34] else t.S
theorem wr_len (t : S_api_Lexeme) : (wr t).length ≤ 2 * t.S.length + 2 := by
  have h1 := esc_len t.S; have h2 := k2_le t.S
  unfold wr
  split
  · simp; omega
  · omega
theorem write_eq (t : S_api_Lexeme) (h : t.S.length ≤ 1000000) : lexer_write t = some (wr t) := by
  have h1 := esc_len t.S; have h2 := k2_le t.S
  unfold lexer_write wr
  by_cases hk : t.Kind = 4
  · rw [decide_eq_false (by simpa using hk), cond_false, if_pos hk]
    unfold newReplH replaceH
    rw [need_pos (by rfl), need_pos ⟨⟨rfl, rfl⟩, rfl, by omega⟩]
    simp only [obind, Option.bind_some]
    rw [need_pos (by simp; omega), need_pos (by simp; omega)]
  · rw [decide_eq_true (by simpa using hk), cond_true, if_neg hk]
theorem written_eq (t : S_api_Lexeme) (h : t.S.length ≤ 1000000) (n : Nat) (hn : t.S.length < n) : ref18_written n t = some (wr t) := by
  have h1 := esc_len t.S; have h2 := k2_le t.S
  unfold ref18_written wr
  by_cases hk : t.Kind = 4
  · rw [decide_eq_false (by simpa using hk), cond_false, if_pos hk]
    obtain ⟨r, e, rfl⟩ := iter_inv (step := ref18_written_L1 t) (fun x => ∃ i : Nat, x = (esc (t.S.take i), (i : Int)) ∧ i ≤ t.S.length) (fun x => t.S.length - x.2.toNat) (fun r => r = .go (esc t.S)) (by
      rintro _ ⟨i, rfl, hi⟩
      unfold ref18_written_L1
      by_cases hlt : i < t.S.length
      · refine .inl ⟨_, ?_, ⟨i + 1, rfl, hlt⟩, by simp; omega⟩
        have hel := esc_len (t.S.take i); have hk2 := k2_le (t.S.take i)
        have hle : (t.S.take i).length ≤ t.S.length := by simp; omega
        simp only
        rw [decide_eq_true (show (i : Int) < (t.S.length : Int) by omega), cond_true, idx_get' hlt, idx_get' hlt]
        rw [byte_eq t.S[i] 34 34 rfl, byte_eq t.S[i] 92 92 rfl, esc_take hlt, w64 (by omega) (by omega)]
        by_cases a1 : t.S[i] = 34
        · rw [decide_eq_true a1, cond_true, bindJ_goj, cond_true, need_pos (by simp; omega), bindJ_goj, idx_get' hlt, need_pos (by simp; omega), a1]
          simp [escB_34]
        · by_cases a2 : t.S[i] = 92
          · rw [decide_eq_false a1, cond_false, decide_eq_true a2, bindJ_goj, cond_true, need_pos (by simp; omega), bindJ_goj, idx_get' hlt, need_pos (by simp; omega), a2]
            simp [escB_92]
          · rw [decide_eq_false a1, cond_false, decide_eq_false a2, bindJ_goj, cond_false, bindJ_goj, idx_get' hlt, need_pos (by simp; omega), escB_no a1 a2]
            simp
      · obtain rfl : i = t.S.length := by omega
        refine .inr ⟨_, ?_, rfl⟩
        simp only
        rw [decide_eq_false (by omega), cond_false]
        simp) n ([], 0) ⟨0, by simp [esc], by omega⟩ (by simp; omega)
    rw [e, bindJ_goj]
    rw [need_pos (by simp; omega), need_pos (by simp; omega)]
  · rw [decide_eq_true (by simpa using hk), cond_true, if_neg hk]
/-- is it a token? -/
def isT (t : S_api_Lexeme) : Bool := decide ((tokR (wr t)).2.E = 0) && decide ((tokR (wr t)).1 = [⟨t.Kind, 0, t.S⟩])
theorem lex_eq (x : S_api_Lexeme) (k : Int) (s : List UInt8) : (x = ⟨k, 0, s⟩) ↔ x.Kind = k ∧ x.At = 0 ∧ x.S = s := by
  obtain ⟨a, b, c⟩ := x
  simp
theorem isToken_eq (t : S_api_Lexeme) (h : t.S.length ≤ 30000) (n : Nat) (hn : 100000 < n) : lexer_isToken n t = some (isT t) := by
  have hw := wr_len t
  unfold lexer_isToken isT
  rw [write_eq t (by omega)]
  simp only [obind, Option.bind_some]
  rw [tokens_eq (wr t) (by omega) n (by omega)]
  simp only [Option.bind_some]
  generalize tokR (wr t) = r
  obtain ⟨l, p⟩ := r
  by_cases h0 : p.E = 0
  · match l with
    | [] => simp [h0, bindJ_goj]
    | [x] =>
      have h3 : (x = (⟨t.Kind, 0, t.S⟩ : S_api_Lexeme)) ↔ _ := lex_eq x t.Kind t.S
      have h4 : (decide (x.Kind = t.Kind) && (decide (x.At = 0) && decide (x.S = t.S))) = decide (x = (⟨t.Kind, 0, t.S⟩ : S_api_Lexeme)) := by
        rw [Bool.eq_iff_iff]; simp only [Bool.and_eq_true, decide_eq_true_eq]; rw [h3]
      simp [h0, bindJ_goj, idx, h4]
    | x :: y :: l =>
      have hlen : decide (((x :: y :: l).length : Int) = 1) = false := decide_eq_false (by simp; omega)
      rw [hlen, Bool.and_false, cond_false]
      simp [bindJ_goj]
  · simp [h0, bindJ_goj]
theorem possible_eq (t : S_api_Lexeme) (h : t.S.length ≤ 30000) (n : Nat) (hn : 100000 < n) : ref18_Possible n t = some (isT t) := by
  have hw := wr_len t
  unfold ref18_Possible isT
  rw [decide_eq_false (by omega), cond_false, written_eq t (by omega) n (by omega)]
  simp only [obind, Option.bind_some]
  rw [rtokens_eq (wr t) (by omega) n (by omega)]
  simp only [Option.bind_some]
  generalize tokR (wr t) = r
  obtain ⟨l, p⟩ := r
  by_cases h0 : p.E = 0
  · match l with
    | [] => simp [h0, bindJ_goj]
    | [x] =>
      have h3 : (x = (⟨t.Kind, 0, t.S⟩ : S_api_Lexeme)) ↔ _ := lex_eq x t.Kind t.S
      have hlen : decide ((([x] : List S_api_Lexeme).length : Int) = 1) = true := rfl
      have hi0 : ∀ {R : Type} (k : S_api_Lexeme → Option R), idx [x] 0 k = k x := fun k => rfl
      rw [hlen, decide_eq_true h0]
      simp only [Bool.and_true, cond_true, hi0, bindJ_goj]
      by_cases a1 : x.Kind = t.Kind <;> by_cases a2 : x.At = 0 <;> by_cases a3 : x.S = t.S <;> simp [a1, a2, a3, bindJ_goj, h3]
    | x :: y :: l =>
      have hlen : decide (((x :: y :: l).length : Int) = 1) = false := decide_eq_false (by simp; omega)
      rw [hlen, Bool.and_false, cond_false]
      simp [bindJ_goj]
  · simp [h0, bindJ_goj]
theorem txt_kind : ∀ (n : Nat) (s out : List UInt8) (k : Int) (w r : List UInt8), s.length ≤ n → txtP out s = .inr (k, w, r) → k = 4 := by
  intro n
  induction n with
  | zero =>
    intro s out k w r hn h
    match s, hn with
    | [], _ => rw [txt_nil] at h; cases h
  | succ n ih =>
    intro s out k w r hn h
    match s, hn with
    | [], _ => rw [txt_nil] at h; cases h
    | b :: t, hn =>
      rw [txt_cons] at h
      split at h
      · split at h
        · cases h
        · cases h; rfl
      · split at h
        · match t, hn, h with
          | [], _, h => cases h
          | c :: t', hn, h =>
            simp only at h
            split at h
            · exact ih t' _ _ _ _ (by simp at hn; omega) h
            · cases h
        · split at h
          · cases h
          · exact ih t _ _ _ _ (by simp at hn; omega) h
theorem next_num {kw : List (List UInt8)} {s w r : List UInt8} (h : nextP kw s = .inr (3, w, r)) : (∀ b ∈ w, 48 ≤ b.toNat ∧ b.toNat ≤ 57) ∧ w.length ≤ 18 ∧ w ≠ [] := by
  match s, h with
  | b :: t, h =>
    rw [next_cons] at h
    split at h
    · unfold namP at h
      split at h
      · simp at h
      · split at h <;> simp at h
    · split at h
      · rename_i hb
        unfold numP at h
        split at h
        · simp at h
        · rename_i hbad
          simp only [Sum.inr.injEq, Prod.mk.injEq, true_and] at h
          obtain ⟨rfl, rfl⟩ := h
          refine ⟨fun x hx => ?_, ?_, by rw [List.takeWhile_cons_of_pos hb]; simp⟩
          · have := List.all_takeWhile (p := dg) (l := b :: t)
            have h2 := List.all_eq_true.1 this x hx
            unfold dg at h2
            simpa using h2
          · unfold badNum at hbad
            simp only [Bool.or_eq_true, decide_eq_true_eq, not_or] at hbad
            omega
      · split at h
        · have := txt_kind _ _ _ _ _ _ (Nat.le_refl _) h
          simp at this
        · match t, h with
          | [], h => rw [sgn_one] at h; split at h <;> simp at h
          | c :: t', h =>
            rw [sgn_two] at h
            split at h
            · simp at h
            · split at h <;> simp at h
theorem isT_num {t : S_api_Lexeme} (hk : t.Kind = 3) (h : isT t = true) : (∀ b ∈ t.S, 48 ≤ b.toNat ∧ b.toNat ≤ 57) ∧ t.S.length ≤ 18 ∧ t.S ≠ [] := by
  unfold isT wr at h
  rw [if_neg (by omega)] at h
  simp only [Bool.and_eq_true, decide_eq_true_eq] at h
  obtain ⟨_, h2⟩ := h
  unfold tokR at h2
  split at h2
  · simp at h2
  · cases hs : skipP false t.S with
    | nil => rw [toks_nil hs] at h2; simp at h2
    | cons b r =>
      cases hq : nextP kwP (b :: r) with
      | inl e => rw [toks_inl hs hq] at h2; simp at h2
      | inr q =>
        obtain ⟨k, w, rest⟩ := q
        rw [toks_inr hs hq] at h2
        simp only [List.map_cons, List.cons.injEq, mkT, S_api_Lexeme.mk.injEq] at h2
        obtain ⟨⟨rfl, _, rfl⟩, _⟩ := h2
        rw [hk] at hq
        exact next_num hq
def numV (a : Nat) (l : List UInt8) : Nat := l.foldl (fun n c => 10 * n + (c.toNat - 48)) a
theorem numV_parse : ∀ (l : List UInt8) (k a : Nat), (∀ b ∈ l, 48 ≤ b.toNat ∧ b.toNat ≤ 57) → a < 10 ^ k → k + l.length ≤ 18 → Lib.parseUint10 a l = .ok (numV a l) ∧ numV a l < 1000000000000000000
  | [], k, a, _, h1, h2 => by
    refine ⟨rfl, ?_⟩
    have : (10 : Nat) ^ k ≤ 10 ^ 18 := Nat.pow_le_pow_right (by omega) (by simpa using h2)
    show a < _
    have e : (10 : Nat) ^ 18 = 1000000000000000000 := rfl
    omega
  | c :: r, k, a, hd, h1, h2 => by
    have hc := hd c (List.mem_cons_self ..)
    simp only [List.length_cons] at h2
    have hle : (10 : Nat) ^ k ≤ 10 ^ 17 := Nat.pow_le_pow_right (by omega) (by omega)
    have e : (10 : Nat) ^ 17 = 100000000000000000 := rfl
    have ih := numV_parse r (k + 1) (a * 10 + (c.toNat - 48)) (fun b hb => hd b (List.mem_cons_of_mem _ hb)) (by rw [Nat.pow_succ]; omega) (by omega)
    unfold Lib.parseUint10
    rw [if_pos hc, if_neg (by omega), if_neg (by omega)]
    have e2 : numV a (c :: r) = numV (a * 10 + (c.toNat - 48)) r := by unfold numV; rw [List.foldl_cons, Nat.mul_comm]
    rw [e2]
    exact ih
theorem atoi_num (l : List UInt8) (hd : ∀ b ∈ l, 48 ≤ b.toNat ∧ b.toNat ≤ 57) (hl : l.length ≤ 18) (hne : l ≠ []) : atoiH l = some ((numV 0 l : Int), true) := by
  obtain ⟨hp, hu⟩ := numV_parse l 0 0 hd (by decide) (by omega)
  unfold atoiH atoiP
  rw [need_pos (by omega)]
  cases l with
  | nil => exact absurd rfl hne
  | cons c r =>
    have hc := hd c (List.mem_cons_self ..)
    generalize numV 0 (c :: r) = u at hp hu
    unfold Lib.atoiAll Lib.parseMag
    have a1 : ¬ c.toNat = 43 := by omega
    have a2 : ¬ c.toNat = 45 := by omega
    have a3 : ¬ (9223372036854775808 ≤ u) := by omega
    simp only [a1, a2, or_self, if_false, hne, hp, not_false_eq_true, true_and, false_and, a3]
theorem numV_take (l : List UInt8) (i : Nat) (h : i < l.length) : numV 0 (l.take (i + 1)) = 10 * numV 0 (l.take i) + (l[i].toNat - 48) := by
  unfold numV
  rw [List.take_add_one, List.getElem?_eq_getElem h, List.foldl_append]
  rfl
theorem numV_le (l : List UInt8) (hd : ∀ b ∈ l, 48 ≤ b.toNat ∧ b.toNat ≤ 57) (hl : l.length ≤ 18) : numV 0 l < 1000000000000000000 := (numV_parse l 0 0 hd (by decide) (by omega)).2
theorem rvalue_loop (t : S_api_Lexeme) (hd : ∀ b ∈ t.S, 48 ≤ b.toNat ∧ b.toNat ≤ 57) (hl : t.S.length ≤ 18) (n : Nat) (hn : 100 < n) : iter (ref18_Value_L1 t) n (0, 0) = some (.go (numV 0 t.S : Int)) := by
  obtain ⟨r, e, rfl⟩ := iter_inv (step := ref18_Value_L1 t) (fun x => ∃ i : Nat, x = ((numV 0 (t.S.take i) : Int), (i : Int)) ∧ i ≤ t.S.length) (fun x => t.S.length - x.2.toNat) (fun r => r = .go (numV 0 t.S : Int)) (by
    rintro _ ⟨i, rfl, hi⟩
    unfold ref18_Value_L1
    by_cases hlt : i < t.S.length
    · refine .inl ⟨_, ?_, ⟨i + 1, rfl, hlt⟩, by simp; omega⟩
      have hc := hd t.S[i] (List.getElem_mem hlt)
      have hb := numV_le (t.S.take (i + 1)) (fun b hb => hd b (List.mem_of_mem_take hb)) (by simp; omega)
      have ht := numV_take t.S i hlt
      simp only
      rw [decide_eq_true (show (i : Int) < (t.S.length : Int) by omega), cond_true, idx_get' hlt]
      have e1 : IntKind.u8.wrap ((t.S[i].toNat : Int) - 48) = ((t.S[i].toNat - 48 : Nat) : Int) := by
        have : ((t.S[i].toNat : Int) - 48) = ((t.S[i].toNat - 48 : Nat) : Int) := by omega
        rw [this]
        rw [wrap_u8]; omega
      rw [e1, w64 (x := ((t.S[i].toNat - 48 : Nat) : Int)) (by omega) (by omega), w64 (x := 10 * (numV 0 (t.S.take i) : Int)) (by omega) (by omega), w64 (by omega) (by omega), w64 (x := (i : Int) + 1) (by omega) (by omega)]
      congr 3
      · rw [ht]; omega
    · obtain rfl : i = t.S.length := by omega
      refine .inr ⟨_, ?_, rfl⟩
      simp only
      rw [decide_eq_false (by omega), cond_false]
      simp) n (0, 0) ⟨0, by simp [numV], by omega⟩ (by simp; omega)
  exact e
theorem value_eq (t : S_api_Lexeme) (h : t.S.length ≤ 30000) (n : Nat) (hn : 100000 < n) : ∃ v e, lexer_Value n t = some (v, e) ∧ ref18_Value n t = some ⟨v, e⟩ := by
  unfold lexer_Value ref18_Value
  by_cases hk : t.Kind = 3
  · rw [decide_eq_false (by simpa using hk), cond_false, cond_false, isToken_eq t h n hn, possible_eq t h n hn]
    simp only [obind, Option.bind_some, bindJ_goj]
    cases hT : isT t with
    | false => exact ⟨_, _, rfl, rfl⟩
    | true =>
      obtain ⟨h1, h2, h3⟩ := isT_num hk hT
      simp only [Bool.not_true, cond_false]
      rw [atoi_num t.S h1 h2 h3, rvalue_loop t h1 h2 n (by omega)]
      exact ⟨_, _, rfl, rfl⟩
  · rw [decide_eq_true (by simpa using hk), cond_true, cond_true]
    exact ⟨_, _, rfl, rfl⟩
end Go.Proofs.YtgibkdldfnlglaaGreatDoor
namespace Go.Proofs.YtgibkdldfnlglaaGreatDoor
open Go.Abs
set_option linter.unusedVariables false
set_option linter.unusedSimpArgs false
set_option maxRecDepth 20000
set_option maxHeartbeats 4000000

def law18_LexerWritesAsSpecified_L1 (n : Nat) (l_0 : (List S_api_Lexeme)) : (Int) → Option (Lp (Int) (Lp (Unit) (Bool))) :=
 fun i_8 =>
  cond (decide (i_8 < (l_0.length : Int)))
   (idx l_0 i_8 fun x14 =>
   cond (decide (300 < (x14.S.length : Int)))
    (obind (law18_sanity n) fun r16 =>
    some (.stop (.stop r16)))
    (obind (lexer_Value n x14) fun r18 =>
    obind (ref18_Value n x14) fun r20 =>
    cond (decide (r18.1 ≠ r20.N) || decide (r18.2 ≠ r20.E))
     (some (.stop (.stop false)))
     (some (.go (IntKind.i64.wrap (i_8 + 1))))))
   (some (.stop (.go ())))
def law18_LexerWritesAsSpecified (n : Nat) (l_0 : (List S_api_Lexeme)) : Option (Bool) :=
 cond (decide (100 < (l_0.length : Int)))
  (obind (law18_sanity n) fun r2 =>
  some r2)
  (bindJ (S := Unit)
   (iter (law18_LexerWritesAsSpecified_L1 n l_0) n 0)
  (fun _ =>
   obind (lexer_Text n l_0) fun r27 =>
   obind (ref18_Text n l_0) fun r29 =>
   obind (law18_sanity n) fun r32 =>
   some ((r32 && decide (r27.1 = r29.S)) && decide (r27.2 = r29.E))))
theorem law18_LexerWritesAsSpecified_ok (n : Nat) (l_0 : (List S_api_Lexeme)) (l_0v : Value) {r : Bool} (h : law18_LexerWritesAsSpecified n l_0 = some r) :
  Meets Tryz.prog 6 [l_0v] [ro l_0v 3 (l_0.map S_api_Lexeme.enc), globA] (fun v G => v = .bool r ∧ G = []) := by
 refine fn_of_run Tryz.func6 rfl Tryz.ntmps6 rfl (fun w0 o0 => ?_)
 refine run_seq ?_
 refine run_region' ?_
 refine oy rfl rfl (y_assign rfl) ?_
 refine ops_nil ?_
 refine goes_code ?_
 refine run_seq ?_
 refine run_seq ?_
 refine run_region' ?_
 refine oy rfl rfl (y_move rfl) ?_
 refine oy rfl rfl ((y_len 0 rfl Tryz.runUnderlying23 rfl rfl reads_ro).to (v_len S_api_Lexeme.enc _)) ?_
 refine oy rfl rfl (y_gtr rfl rfl) ?_
 refine ops_nil ?_
 refine goes_code ?_
 refine run_cond (decide (100 < (l_0.length : Int))) rfl (fun hc1 => ?_) (fun hc1 => ?_)
 ·replace h := cond_t h hc1
  refine run_seq ?_
  refine run_region' ?_
  obtain ⟨r2, hr3, h⟩ := obind_some h
  refine ot rfl rfl (t_callx (vs := []) (cs := []) [(1, 0)] rfl Tryz.call9 rfl (law18_sanity_ok n    hr3) (showsX_view 1 rfl views_glob showsX_nil) rfl (.inl rfl)) ?_
  rintro _ _ ⟨_, ⟨rfl, rfl⟩, rfl⟩
  refine oy rfl rfl (y_assign rfl) ?_
  refine ops_nil ?_
  refine goes_code ?_
  refine run_ret ?_
  obtain rfl := some_eq h
  refine fin_slots [2] [.bool r2] [] [] Tryz.results6 rfl (by decide) rfl ?_
  exact ⟨rfl, rfl⟩
 ·replace h := cond_f h hc1
  refine run_skip ?_
  refine goes_code ?_
  obtain ⟨o4, h, ho5⟩ := bindJ_some h
  refine run_cut ((Unit) × (Unit)) (fun σ => [(0, l_0v)]) (fun σ => [ro l_0v 3 (l_0.map S_api_Lexeme.enc), globA]) (fun σ => o4 = .go σ.1) (fun L7 hL6 => ?_) ?_
  ·
   refine run_seq ?_
   refine run_region' ?_
   refine oy rfl rfl (y_assign rfl) ?_
   refine ops_nil ?_
   refine goes_code ?_
   refine run_block ?_
   refine run_iter (step := law18_LexerWritesAsSpecified_L1 n l_0) (n := n) (s0 := 0) h (G := Unit) () (fun σ γ => [(3, .int .i64 σ), (0, l_0v)]) (fun σ γ => [ro l_0v 3 (l_0.map S_api_Lexeme.enc), globA]) [0, 1] (qv2 rfl rfl) (by decide) rfl ?_
   rintro i_8 _ o9 h L12 hgo10 hstop11
   change Run _ _ _ (VF.of [(3, .int .i64 i_8), (0, l_0v)]) [ro l_0v 3 (l_0.map S_api_Lexeme.enc), globA]
   refine run_seq ?_
   refine run_seq ?_
   refine run_region' ?_
   refine oy rfl rfl (y_move rfl) ?_
   refine oy rfl rfl (y_move rfl) ?_
   refine oy rfl rfl ((y_len 0 rfl Tryz.runUnderlying23 rfl rfl reads_ro).to (v_len S_api_Lexeme.enc _)) ?_
   refine oy rfl rfl (y_lss rfl rfl) ?_
   refine ops_nil ?_
   refine goes_code ?_
   refine run_cond (decide (i_8 < (l_0.length : Int))) rfl (fun hc13 => ?_) (fun hc13 => ?_)
   ·replace h := cond_t h hc13
    refine run_skip ?_
    refine goes_code ?_
    refine run_seq ?_
    refine run_block ?_
    refine run_seq ?_
    refine run_seq ?_
    refine run_region' ?_
    refine oy rfl rfl (y_move rfl) ?_
    refine oy rfl rfl (y_move rfl) ?_
    obtain ⟨x14, hzx14, hlx14, hxx14, h⟩ := idx_some h
    refine oy rfl rfl (y_indexAddrI (kd := .i64) (i := i_8) 0 Tryz.runUnderlying23 Tryz.sizeOf44 rfl rfl rfl reads_ro hzx14 (map_lt hlx14)) ?_
    refine oy rfl rfl (y_fieldAddr_elem (sz := 0) Tryz.runUnderlying44 rfl Tryz.sizeOf9 rfl) ?_
    refine oy rfl rfl (y_load_field (i := i_8.toNat) (j := 2) 0 Tryz.isAgg9 rfl rfl reads_ro (map_get hxx14) rfl) ?_
    refine oy rfl rfl (y_len_str rfl Tryz.runUnderlying9 rfl) ?_
    refine oy rfl rfl (y_gtr rfl rfl) ?_
    refine ops_nil ?_
    refine goes_code ?_
    refine run_cond (decide (300 < (x14.S.length : Int))) rfl (fun hc15 => ?_) (fun hc15 => ?_)
    ·replace h := cond_t h hc15
     refine run_seq ?_
     refine run_weak [] [1] [globA] vnil (by decide) rfl ?_
     refine run_region' ?_
     obtain ⟨r16, hr17, h⟩ := obind_some h
     refine ot rfl rfl (t_callx (vs := []) (cs := []) [(0, 0)] rfl Tryz.call9 rfl (law18_sanity_ok n    hr17) (showsX_view 0 rfl views_glob showsX_nil) rfl (.inl rfl)) ?_
     rintro _ _ ⟨_, ⟨rfl, rfl⟩, rfl⟩
     refine oy rfl rfl (y_assign rfl) ?_
     refine ops_nil ?_
     refine goes_code ?_
     refine run_ret ?_
     obtain rfl := some_eq h
     obtain rfl := hstop11 _ rfl
     skip
     obtain rfl := after_stop ho5
     refine fin_slots [2] [.bool r16] [] [] Tryz.results6 rfl (by decide) rfl ?_
     exact ⟨rfl, rfl⟩
    ·replace h := cond_f h hc15
     refine run_skip ?_
     refine goes_code ?_
     refine run_seq ?_
     refine run_weak [(3, .int .i64 i_8), (0, l_0v)] [0, 1] [ro l_0v 3 (l_0.map S_api_Lexeme.enc), globA] (qv2 rfl rfl) (by decide) rfl ?_
     refine run_region' ?_
     refine oy rfl rfl (y_move rfl) ?_
     refine oy rfl rfl (y_move rfl) ?_
     refine oy rfl rfl (y_indexAddrI (kd := .i64) (i := i_8) 0 Tryz.runUnderlying23 Tryz.sizeOf44 rfl rfl rfl reads_ro hzx14 (map_lt hlx14)) ?_
     refine oy rfl rfl (y_load_agg (i := i_8.toNat) (c := [.int .i64 x14.Kind, .int .i64 x14.At, .string (bs x14.S)]) 0 Tryz.isAgg44 Tryz.sizeOf44 rfl rfl reads_ro (map_get hxx14)) ?_
     obtain ⟨r18, hr19, h⟩ := obind_some h
     refine ot rfl rfl (t_callx (vs := [.agg #[.int .i64 x14.Kind, .int .i64 x14.At, .string (bs x14.S)]]) (cs := []) [(1, 0)] rfl Tryz.call20 rfl (lexer_Value_ok n  x14  hr19) (showsX_view 1 rfl views_glob showsX_nil) rfl (.inl rfl)) ?_
     rintro _ _ ⟨_, ⟨rfl, rfl⟩, rfl⟩
     refine oy rfl rfl (y_move rfl) ?_
     refine oy rfl rfl (y_extract rfl rfl) ?_
     refine oy rfl rfl (y_extract rfl rfl) ?_
     refine oy rfl rfl (y_assign rfl) ?_
     refine oy rfl rfl (y_assign rfl) ?_
     refine ops_nil ?_
     refine goes_code ?_
     refine run_seq ?_
     refine run_weak [(3, .int .i64 i_8), (0, l_0v), (4, .int .i64 r18.1), (5, .int .i64 r18.2)] [0, 1] [ro l_0v 3 (l_0.map S_api_Lexeme.enc), globA] (qv4 rfl rfl rfl rfl) (by decide) rfl ?_
     refine run_region' ?_
     refine oy rfl rfl (y_move rfl) ?_
     refine oy rfl rfl (y_move rfl) ?_
     refine oy rfl rfl (y_indexAddrI (kd := .i64) (i := i_8) 0 Tryz.runUnderlying23 Tryz.sizeOf44 rfl rfl rfl reads_ro hzx14 (map_lt hlx14)) ?_
     refine oy rfl rfl (y_load_agg (i := i_8.toNat) (c := [.int .i64 x14.Kind, .int .i64 x14.At, .string (bs x14.S)]) 0 Tryz.isAgg44 Tryz.sizeOf44 rfl rfl reads_ro (map_get hxx14)) ?_
     obtain ⟨r20, hr21, h⟩ := obind_some h
     refine ot rfl rfl (t_callx (vs := [.agg #[.int .i64 x14.Kind, .int .i64 x14.At, .string (bs x14.S)]]) (cs := []) [] rfl Tryz.call21 rfl (ref18_Value_ok n  x14  hr21) showsX_nil rfl (.inl rfl)) ?_
     rintro _ _ ⟨_, ⟨rfl, rfl⟩, rfl⟩
     refine ot rfl rfl (t_alloc Tryz.zeroValue52) ?_
     rintro _ _ ⟨b22, rfl, rfl⟩
     refine ot rfl rfl (t_store 2 Tryz.sizeOf52 rfl rfl rfl rfl (by simp [Value.cells, boxP]) (by simp [Value.cells, Value.oneCell', boxP])) ?_
     rintro _ _ ⟨rfl, rfl⟩
     refine ops_turn (retell 2 (g := box b22 [.int .i64 r20.N, .int .i64 r20.E]) rfl rfl) ?_
     refine ops_nil ?_
     refine goes_code ?_
     refine run_seq ?_
     refine run_region' ?_
     refine oy rfl rfl (y_move rfl) ?_
     refine oy rfl rfl (y_fieldAddr_box (sz := 0) Tryz.runUnderlying52 rfl Tryz.sizeOf3 rfl) ?_
     refine oy rfl rfl (y_load_box 2 Tryz.isAgg3 rfl rfl rfl) ?_
     refine oy rfl rfl (y_neq rfl rfl) ?_
     refine oy rfl rfl (y_move rfl) ?_
     refine ops_cut 5 (Bool) (fun σ => [(3, .int .i64 i_8), (0, l_0v), (50, .bool σ)]) (fun σ => [ro l_0v 3 (l_0.map S_api_Lexeme.enc), globA]) (fun σ => σ = (decide (r18.1 ≠ r20.N) || decide (r18.2 ≠ r20.E))) (fun L23 hL24 => ?_) ?_
     ·refine ops_split 45 (decide (r18.1 ≠ r20.N)) rfl (fun hg25 => ?_) (fun hg25 => ?_)
      ·skip
       refine ops_no 4 false 45 rfl rfl rfl rfl rfl ?_
       refine ops_no 4 false 45 rfl rfl rfl rfl rfl ?_
       refine ops_no 4 false 45 rfl rfl rfl rfl rfl ?_
       refine ops_weak [(3, .int .i64 i_8), (0, l_0v), (45, .bool true), (46, undef), (48, undef)] [0, 1] [ro l_0v 3 (l_0.map S_api_Lexeme.enc), globA] (qv5 rfl rfl rfl rfl rfl) (by decide) rfl ?_
       refine ops_no 4 false 45 rfl rfl rfl rfl rfl ?_
       refine oy rfl rfl (y_pick (b := true) rfl rfl) ?_
       refine ops_nil ?_
       exact goes_cut hL24 true [0, 1] (qv3 rfl rfl rfl) (by decide) rfl (by rw [hg25]; simp)
      ·skip
       refine ops_y (wg 4 false 45 rfl rfl rfl rfl) rfl (y_move rfl) ?_
       refine ops_y (wg 4 false 45 rfl rfl rfl rfl) rfl (y_fieldAddr_box (sz := 0) Tryz.runUnderlying52 rfl Tryz.sizeOf24 rfl) ?_
       refine ops_y (wg 4 false 45 rfl rfl rfl rfl) rfl (y_load_box 2 Tryz.isAgg24 rfl rfl rfl) ?_
       refine ops_weak [(3, .int .i64 i_8), (0, l_0v), (45, .bool false), (46, .int .i64 r18.2), (48, .int .i64 r20.E)] [0, 1] [ro l_0v 3 (l_0.map S_api_Lexeme.enc), globA] (qv5 rfl rfl rfl rfl rfl) (by decide) rfl ?_
       refine ops_y (wg 4 false 45 rfl rfl rfl rfl) rfl (y_neq rfl rfl) ?_
       refine oy rfl rfl (y_pick (b := false) rfl rfl) ?_
       refine ops_nil ?_
       exact goes_cut hL24 (decide (r18.2 ≠ r20.E)) [0, 1] (qv3 rfl rfl rfl) (by decide) rfl (by rw [hg25]; simp)
     rintro _ rfl
     refine ops_nil ?_
     refine goes_code ?_
     refine run_cond (decide (r18.1 ≠ r20.N) || decide (r18.2 ≠ r20.E)) rfl (fun hc26 => ?_) (fun hc26 => ?_)
     ·replace h := cond_t h hc26
      refine run_seq ?_
      refine run_region' ?_
      refine oy rfl rfl (y_assign rfl) ?_
      refine ops_nil ?_
      refine goes_code ?_
      refine run_ret ?_
      obtain rfl := some_eq h
      obtain rfl := hstop11 _ rfl
      skip
      obtain rfl := after_stop ho5
      refine fin_slots [2] [.bool false] [] [] Tryz.results6 rfl (by decide) rfl ?_
      exact ⟨rfl, rfl⟩
     ·replace h := cond_f h hc26
      refine run_skip ?_
      refine goes_blk ?_
      refine goes_code ?_
      refine run_region' ?_
      refine oy rfl rfl (y_move rfl) ?_
      refine oy rfl rfl (y_add rfl rfl) ?_
      refine oy rfl rfl (y_assign rfl) ?_
      refine ops_nil ?_
      obtain rfl := some_eq h
      exact goes_iter hgo10 (IntKind.i64.wrap (i_8 + 1)) () [0, 1] rfl (qv2 rfl rfl) (by decide) rfl
   ·replace h := cond_f h hc13
    refine run_exit _ rfl ?_
    obtain rfl := some_eq h
    obtain rfl := hstop11 _ rfl
    exact goes_cut hL6 ((), ()) [0, 1] (qv1 rfl) (by decide) rfl rfl
  rintro ⟨_, _⟩ hj
  obtain rfl : o4 = _ := hj
  replace h := after_go ho5
  clear ho5
  change Run _ _ _ (VF.of [(0, l_0v)]) [ro l_0v 3 (l_0.map S_api_Lexeme.enc), globA]
  refine run_seq ?_
  refine run_region' ?_
  refine oy rfl rfl (y_move rfl) ?_
  obtain ⟨r27, hr28, h⟩ := obind_some h
  refine ot rfl rfl (t_callx (vs := [l_0v]) (cs := []) [(0, 0), (1, 0)] rfl Tryz.call22 rfl (lexer_Text_ok n  l_0 l_0v hr28) (showsX_view 0 rfl views_ro (showsX_view 1 rfl views_glob showsX_nil)) rfl (.inl rfl)) ?_
  rintro _ _ ⟨_, ⟨rfl, rfl⟩, rfl⟩
  refine oy rfl rfl (y_move rfl) ?_
  refine oy rfl rfl (y_extract rfl rfl) ?_
  refine oy rfl rfl (y_extract rfl rfl) ?_
  refine oy rfl rfl (y_assign rfl) ?_
  refine oy rfl rfl (y_assign rfl) ?_
  refine ops_nil ?_
  refine goes_code ?_
  refine run_seq ?_
  refine run_region' ?_
  refine oy rfl rfl (y_move rfl) ?_
  obtain ⟨r29, hr30, h⟩ := obind_some h
  refine ot rfl rfl (t_callx (vs := [l_0v]) (cs := []) [(0, 0)] rfl Tryz.call23 rfl (ref18_Text_ok n  l_0 l_0v hr30) (showsX_view 0 rfl views_ro showsX_nil) rfl (.inl rfl)) ?_
  rintro _ _ ⟨_, ⟨rfl, rfl⟩, rfl⟩
  refine ot rfl rfl (t_alloc Tryz.zeroValue57) ?_
  rintro _ _ ⟨b31, rfl, rfl⟩
  refine ot rfl rfl (t_store 2 Tryz.sizeOf57 rfl rfl rfl rfl (by simp [Value.cells, boxP]) (by simp [Value.cells, Value.oneCell', boxP])) ?_
  rintro _ _ ⟨rfl, rfl⟩
  refine ops_turn (retell 2 (g := box b31 [.string (bs r29.S), .int .i64 r29.E]) rfl rfl) ?_
  refine ops_nil ?_
  refine goes_code ?_
  refine run_seq ?_
  refine run_weak [(7, .string (bs r27.1)), (8, .int .i64 r27.2), (9, boxP b31 0)] [1, 2] [globA, box b31 [.string (bs r29.S), .int .i64 r29.E]] (qv3 rfl rfl rfl) (by decide) rfl ?_
  refine run_region' ?_
  obtain ⟨r32, hr33, h⟩ := obind_some h
  refine ot rfl rfl (t_callx (vs := []) (cs := []) [(0, 0)] rfl Tryz.call9 rfl (law18_sanity_ok n    hr33) (showsX_view 0 rfl views_glob showsX_nil) rfl (.inl rfl)) ?_
  rintro _ _ ⟨_, ⟨rfl, rfl⟩, rfl⟩
  refine oy rfl rfl (y_move rfl) ?_
  refine ops_cut 5 (Bool) (fun σ => [(8, .int .i64 r27.2), (9, boxP b31 0), (64, .bool σ)]) (fun σ => [globA, box b31 [.string (bs r29.S), .int .i64 r29.E]]) (fun σ => σ = (r32 && decide (r27.1 = r29.S))) (fun L34 hL35 => ?_) ?_
  ·refine ops_split 59 r32 rfl (fun hg36 => ?_) (fun hg36 => ?_)
   ·skip
    refine ops_y (wg 1 true 59 rfl rfl rfl rfl) rfl (y_move rfl) ?_
    refine ops_y (wg 1 true 59 rfl rfl rfl rfl) rfl (y_fieldAddr_box (sz := 0) Tryz.runUnderlying57 rfl Tryz.sizeOf9 rfl) ?_
    refine ops_y (wg 1 true 59 rfl rfl rfl rfl) rfl (y_load_box 1 Tryz.isAgg9 rfl rfl rfl) ?_
    refine ops_y (wg 1 true 59 rfl rfl rfl rfl) rfl (y_seql rfl rfl) ?_
    refine oy rfl rfl (y_pick (b := true) rfl rfl) ?_
    refine ops_nil ?_
    exact goes_cut hL35 (decide (r27.1 = r29.S)) [0, 1] (qv3 rfl rfl rfl) (by decide) rfl (by rw [hg36]; simp)
   ·skip
    refine ops_no 1 true 59 rfl rfl rfl rfl rfl ?_
    refine ops_no 1 true 59 rfl rfl rfl rfl rfl ?_
    refine ops_no 1 true 59 rfl rfl rfl rfl rfl ?_
    refine ops_no 1 true 59 rfl rfl rfl rfl rfl ?_
    refine oy rfl rfl (y_pick (b := false) rfl rfl) ?_
    refine ops_nil ?_
    exact goes_cut hL35 false [0, 1] (qv3 rfl rfl rfl) (by decide) rfl (by rw [hg36]; simp)
  rintro _ rfl
  refine oy rfl rfl (y_move rfl) ?_
  refine ops_cut 5 (Bool) (fun σ => [(70, .bool σ)]) (fun σ => [globA]) (fun σ => σ = ((r32 && decide (r27.1 = r29.S)) && decide (r27.2 = r29.E))) (fun L37 hL38 => ?_) ?_
  ·refine ops_split 65 (r32 && decide (r27.1 = r29.S)) rfl (fun hg39 => ?_) (fun hg39 => ?_)
   ·skip
    refine ops_y (wg 7 true 65 rfl rfl rfl rfl) rfl (y_move rfl) ?_
    refine ops_y (wg 7 true 65 rfl rfl rfl rfl) rfl (y_fieldAddr_box (sz := 0) Tryz.runUnderlying57 rfl Tryz.sizeOf24 rfl) ?_
    refine ops_y (wg 7 true 65 rfl rfl rfl rfl) rfl (y_load_box 1 Tryz.isAgg24 rfl rfl rfl) ?_
    refine ops_y (wg 7 true 65 rfl rfl rfl rfl) rfl (y_eql rfl rfl) ?_
    refine oy rfl rfl (y_pick (b := true) rfl rfl) ?_
    refine ops_nil ?_
    exact goes_cut hL38 (decide (r27.2 = r29.E)) [0] (qv1 rfl) (by decide) rfl (by rw [hg39]; simp)
   ·skip
    refine ops_no 7 true 65 rfl rfl rfl rfl rfl ?_
    refine ops_no 7 true 65 rfl rfl rfl rfl rfl ?_
    refine ops_no 7 true 65 rfl rfl rfl rfl rfl ?_
    refine ops_no 7 true 65 rfl rfl rfl rfl rfl ?_
    refine oy rfl rfl (y_pick (b := false) rfl rfl) ?_
    refine ops_nil ?_
    exact goes_cut hL38 false [0] (qv1 rfl) (by decide) rfl (by rw [hg39]; simp)
  rintro _ rfl
  refine oy rfl rfl (y_assign rfl) ?_
  refine ops_nil ?_
  refine goes_code ?_
  refine run_ret ?_
  obtain rfl := some_eq h
  refine fin_slots [2] [.bool ((r32 && decide (r27.1 = r29.S)) && decide (r27.2 = r29.E))] [] [] Tryz.results6 rfl (by decide) rfl ?_
  exact ⟨rfl, rfl⟩

end Go.Proofs.YtgibkdldfnlglaaGreatDoor
namespace Go.Proofs.YtgibkdldfnlglaaGreatDoor
open Go.Abs Go.Lex
set_option linter.unusedSimpArgs false
set_option linter.unusedVariables false
theorem join_cons2 (y z : List UInt8) (r : List (List UInt8)) : joinP (y :: z :: r) [32] = y ++ [32] ++ joinP (z :: r) [32] := by simp [joinP, List.intercalate]
theorem join_snoc (x : List UInt8) : ∀ L : List (List UInt8), joinP (L ++ [x]) [32] = if L = [] then x else joinP L [32] ++ [32] ++ x
  | [] => by simp [joinP, List.intercalate]
  | [y] => by simp [joinP, List.intercalate]
  | y :: z :: r => by
    have ih := join_snoc x (z :: r)
    rw [if_neg (by simp)] at ih ⊢
    rw [List.cons_append, List.cons_append, join_cons2, ← List.cons_append, ih, join_cons2]
    simp
theorem join_len (k : Nat) : ∀ L : List (List UInt8), (∀ x ∈ L, x.length ≤ k) → (joinP L [32]).length ≤ (k + 1) * L.length
  | [], _ => by simp [joinP, List.intercalate]
  | [y], h => by
    have := h y (by simp)
    simp [joinP, List.intercalate]; omega
  | y :: z :: r, h => by
    have ih := join_len k (z :: r) (fun x hx => h x (List.mem_cons_of_mem _ hx))
    have hy := h y (by simp)
    rw [join_cons2]
    simp only [List.length_append, List.length_cons, List.length_nil] at ih ⊢
    rw [Nat.mul_add (k + 1) (r.length + 1) 1]
    omega
theorem wr_all (l : List S_api_Lexeme) (k : Nat) (h : ∀ t ∈ l, t.S.length ≤ k) : ∀ x ∈ l.map wr, x.length ≤ 2 * k + 2 := by
  intro x hx
  obtain ⟨t, ht, rfl⟩ := List.mem_map.1 hx
  have := wr_len t; have := h t ht
  omega
theorem take_snoc {α : Type} {l : List α} {i : Nat} (h : i < l.length) : l.take (i + 1) = l.take i ++ [l[i]] := by
  rw [List.take_add_one, List.getElem?_eq_getElem h]; rfl
/-- what Text returns -/
def textR (l : List S_api_Lexeme) : List UInt8 × Int := if (∀ t ∈ l, isT t = true) then (if 65536 < (joinP (l.map wr) [32]).length then ([], 2) else (joinP (l.map wr) [32], 0)) else ([], 1)
theorem text_val (l : List S_api_Lexeme) (hl : l.length ≤ 3000) (hs : ∀ t ∈ l, t.S.length ≤ 3000) (n : Nat) (hn : 1000000 < n) : lexer_Text n l = some (textR l) := by
  unfold lexer_Text
  obtain ⟨r, e, h⟩ := iter_inv (step := lexer_Text_L1 n l) (fun x => ∃ i : Nat, x = ((l.take i).map wr, (i : Int)) ∧ i ≤ l.length ∧ ∀ t ∈ l.take i, isT t = true) (fun x => l.length - x.2.toNat)
    (fun r => (r = .go (l.map wr) ∧ ∀ t ∈ l, isT t = true) ∨ (r = .stop ([], 1) ∧ ¬ ∀ t ∈ l, isT t = true)) (by
    rintro _ ⟨i, rfl, hi, ha⟩
    unfold lexer_Text_L1
    by_cases hlt : i < l.length
    · have hm : l[i] ∈ l := List.getElem_mem hlt
      have hsi := hs _ hm
      simp only
      rw [decide_eq_true (show (i : Int) < (l.length : Int) by omega), cond_true, idx_get' hlt, isToken_eq _ (by omega) n (by omega), write_eq _ (by omega)]
      simp only [obind, Option.bind_some]
      cases hT : isT l[i] with
      | false => exact .inr ⟨_, rfl, .inr ⟨rfl, fun hq => by rw [hq _ hm] at hT; cases hT⟩⟩
      | true =>
        refine .inl ⟨_, ?_, ⟨i + 1, rfl, hlt, fun t ht => ?_⟩, by simp; omega⟩
        · simp only [Bool.not_true, cond_false]
          rw [need_pos (by simp; omega), w64 (by omega) (by omega), take_snoc hlt, List.map_append]
          simp only [List.map_singleton, Int.natCast_add, Int.cast_ofNat_Int]
        · rw [take_snoc hlt] at ht
          rcases List.mem_append.1 ht with h1 | h1
          · exact ha t h1
          · rw [List.mem_singleton.1 h1]; exact hT
    · obtain rfl : i = l.length := by omega
      refine .inr ⟨_, ?_, .inl ⟨rfl, by simpa using ha⟩⟩
      simp only
      rw [decide_eq_false (by omega), cond_false]
      simp) n ([], 0) ⟨0, by simp, by omega, by simp⟩ (by simp; omega)
  rw [e]
  unfold textR
  rcases h with ⟨rfl, h⟩ | ⟨rfl, h⟩
  · rw [bindJ_goj, if_pos h]
    have hj := join_len 6002 (l.map wr) (wr_all l 3000 hs)
    rw [List.length_map] at hj
    have hj2 : (6002 + 1) * l.length ≤ 6003 * 3000 := Nat.mul_le_mul_left _ hl
    unfold joinH
    rw [need_pos ⟨by rw [List.length_map]; omega, by omega⟩]
    simp only [obind, Option.bind_some]
    by_cases h2 : 65536 < (joinP (l.map wr) [32]).length
    · rw [decide_eq_true (by omega), if_pos h2]; rfl
    · rw [decide_eq_false (by omega), if_neg h2]; rfl
  · rw [if_neg h]; rfl
theorem rtext_val (l : List S_api_Lexeme) (hl : l.length ≤ 3000) (hs : ∀ t ∈ l, t.S.length ≤ 3000) (n : Nat) (hn : 1000000 < n) : ref18_Text n l = some ⟨(textR l).1, (textR l).2⟩ := by
  unfold ref18_Text
  obtain ⟨r, e, h⟩ := iter_inv (step := ref18_Text_L1 n l) (fun x => ∃ i : Nat, x = (joinP ((l.take i).map wr) [32], (i : Int)) ∧ i ≤ l.length ∧ ∀ t ∈ l.take i, isT t = true) (fun x => l.length - x.2.toNat)
    (fun r => (r = .go (joinP (l.map wr) [32]) ∧ ∀ t ∈ l, isT t = true) ∨ (r = .stop ⟨[], 1⟩ ∧ ¬ ∀ t ∈ l, isT t = true)) (by
    rintro _ ⟨i, rfl, hi, ha⟩
    unfold ref18_Text_L1
    by_cases hlt : i < l.length
    · have hm : l[i] ∈ l := List.getElem_mem hlt
      have hsi := hs _ hm
      have hj := join_len 6002 ((l.take i).map wr) (wr_all _ 3000 (fun t ht => hs t (List.mem_of_mem_take ht)))
      rw [List.length_map, List.length_take] at hj
      have hj2 : (6002 + 1) * min i l.length ≤ 6003 * 3000 := Nat.mul_le_mul_left _ (by omega)
      have hwl := wr_len l[i]
      simp only
      rw [decide_eq_true (show (i : Int) < (l.length : Int) by omega), cond_true, idx_get' hlt, possible_eq _ (by omega) n (by omega)]
      simp only [obind, Option.bind_some]
      cases hT : isT l[i] with
      | false => exact .inr ⟨_, rfl, .inr ⟨rfl, fun hq => by rw [hq _ hm] at hT; cases hT⟩⟩
      | true =>
        refine .inl ⟨_, ?_, ⟨i + 1, rfl, hlt, fun t ht => ?_⟩, by simp; omega⟩
        · simp only [Bool.not_true, cond_false]
          rw [take_snoc hlt, List.map_append, List.map_singleton, join_snoc]
          by_cases h0 : i = 0
          · subst h0
            rw [decide_eq_false (by omega), cond_false, bindJ_goj, idx_get' hlt, written_eq _ (by omega) n (by omega)]
            simp only [Option.bind_some]
            rw [need_pos (by simp [joinP, List.intercalate]; omega), w64 (by omega) (by omega)]
            simp [joinP, List.intercalate]
          · rw [decide_eq_true (by omega), cond_true, need_pos (by simp only [List.length_append, List.length_cons, List.length_nil]; omega), bindJ_goj, idx_get' hlt, written_eq _ (by omega) n (by omega)]
            simp only [Option.bind_some]
            rw [need_pos (by simp only [List.length_append, List.length_cons, List.length_nil]; omega), w64 (by omega) (by omega), if_neg (fun hq => by have := congrArg List.length hq; rw [List.length_map, List.length_take, List.length_nil] at this; omega)]
            simp only [Int.natCast_add, Int.cast_ofNat_Int]
        · rw [take_snoc hlt] at ht
          rcases List.mem_append.1 ht with h1 | h1
          · exact ha t h1
          · rw [List.mem_singleton.1 h1]; exact hT
    · obtain rfl : i = l.length := by omega
      refine .inr ⟨_, ?_, .inl ⟨rfl, by simpa using ha⟩⟩
      simp only
      rw [decide_eq_false (by omega), cond_false]
      simp) n ([], 0) ⟨0, by simp [joinP, List.intercalate], by omega, by simp⟩ (by simp; omega)
  rw [e]
  unfold textR
  rcases h with ⟨rfl, h⟩ | ⟨rfl, h⟩
  · rw [bindJ_goj, if_pos h]
    by_cases h2 : 65536 < (joinP (l.map wr) [32]).length
    · rw [decide_eq_true (by omega), if_pos h2]; rfl
    · rw [decide_eq_false (by omega), if_neg h2]; rfl
  · rw [if_neg h]; rfl
theorem law6_of (l : List S_api_Lexeme) : ∃ m, law18_LexerWritesAsSpecified m l = some true := by
  obtain ⟨n, hsane, hn⟩ : ∃ n, law18_sanity n = some true ∧ 2000000 ≤ n := ⟨2000000 + 60, sane _, by omega⟩
  refine ⟨n, ?_⟩
  unfold law18_LexerWritesAsSpecified
  by_cases hl : 100 < l.length
  · rw [decide_eq_true (by omega), cond_true, hsane]; rfl
  · rw [decide_eq_false (by omega), cond_false]
    obtain ⟨r, e, h⟩ := iter_inv (step := law18_LexerWritesAsSpecified_L1 n l) (fun x => ∃ i : Nat, x = (i : Int) ∧ i ≤ l.length ∧ ∀ t ∈ l.take i, t.S.length ≤ 300) (fun x => l.length - x.toNat)
      (fun r => (r = .go () ∧ ∀ t ∈ l, t.S.length ≤ 300) ∨ r = .stop true) (by
      rintro _ ⟨i, rfl, hi, ha⟩
      unfold law18_LexerWritesAsSpecified_L1
      by_cases hlt : i < l.length
      · rw [decide_eq_true (show (i : Int) < (l.length : Int) by omega), cond_true, idx_get' hlt]
        by_cases hb : 300 < l[i].S.length
        · rw [decide_eq_true (by omega), cond_true, hsane]
          exact .inr ⟨_, rfl, .inr rfl⟩
        · obtain ⟨v, er, h1, h2⟩ := value_eq l[i] (by omega) n (by omega)
          rw [decide_eq_false (by omega), cond_false, h1, h2]
          refine .inl ⟨_, ?_, ⟨i + 1, rfl, hlt, fun t ht => ?_⟩, by simp; omega⟩
          · simp only [obind, Option.bind_some]
            rw [w64 (by omega) (by omega)]
            simp
          · rw [take_snoc hlt] at ht
            rcases List.mem_append.1 ht with h1 | h1
            · exact ha t h1
            · rw [List.mem_singleton.1 h1]; omega
      · obtain rfl : i = l.length := by omega
        refine .inr ⟨_, ?_, .inl ⟨rfl, by simpa using ha⟩⟩
        rw [decide_eq_false (by omega), cond_false]) n 0 ⟨0, rfl, by omega, by simp⟩ (by simp; omega)
    rw [e]
    rcases h with ⟨rfl, h⟩ | rfl
    · rw [bindJ_goj, text_val l (by omega) (fun t ht => by have := h t ht; omega) n (by omega), rtext_val l (by omega) (fun t ht => by have := h t ht; omega) n (by omega), hsane]
      simp [obind]
    · rfl
end Go.Proofs.YtgibkdldfnlglaaGreatDoor
namespace Go.Abs
open Go.Sem Go.ChangeShapes Go.RowKit

/-- a law's contract, as the claim's frame wants it -/
theorem Meets.law {P : Program} {f : FuncId} {args : List Value} {H : List HA} (h : Meets P f args H (fun v G => v = .bool true ∧ G = [])) {w : World} (hs : Sats w (fun _ => .no) H) :
    Calls P f args.toArray w fun e w' => e = .returned (.bool true) ∧ Below w.heap.size w w' := by
  refine (h w (fun _ => .no) (fun _ _ => rfl) hs).mono fun e w' ⟨v, G, o', he, ⟨hv, _⟩, _, ht, _⟩ => ?_
  subst hv
  exact ⟨he, ht.os, ht.tape, ht.output, ht.size, fun k hk => (ht.no k hk rfl).2⟩

theorem cells_open {w : World} {a : Option Addr} {len cap es : Nat} {cells : List (List Value)} (hcl : cells.length = len) (h1 : len ≤ cap) (h2 : cap ≤ maxLen) (h3 : a = none → cap = 0) (hes : 0 < es)
    (he : ∀ c ∈ cells, c.length = es) (hc : ∀ x, a = some x → ∀ i c, cells[i]? = some c → ∀ j v, c[j]? = some v → w.cell? (x.add (i * es + j)) = some v) :
    SliceIs w (fun b => (fun _ => Ow.no : Own) b = .no) (.slice a len cap) es cells := by
  refine ⟨a, cap, by rw [hcl], by omega, h2, h3, ?_⟩
  intro i c hi
  have hlen := he c (List.mem_of_getElem? hi)
  cases a with
  | none =>
    have := (List.getElem?_eq_some_iff.1 hi).1
    have := h3 rfl
    omega
  | some x =>
    have e0 : c[0]? = some (c[0]'(by omega)) := List.getElem?_eq_getElem (by omega)
    have h := hc x rfl i c hi 0 _ e0
    have hs0 := World.cell?_spot h
    have hb : x.block < w.heap.size := by
      unfold World.cell? at h
      have e : (x.add (i * es + 0)).block = x.block := by unfold Addr.add; split <;> rfl
      rw [e] at h
      cases hh : w.heap[x.block]? with
      | none => rw [hh] at h; simp at h
      | some o => exact (Array.getElem?_eq_some_iff.1 hh).1
    obtain ⟨b, off, spot⟩ := x
    refine ⟨hlen, b, off, ?_, hb, rfl, ?_⟩
    · cases spot with
      | none => rfl
      | some q =>
        exfalso
        have hi0 : ∀ i c, cells[i]? = some c → i = 0 := by
          intro i c hi
          false_or_by_contra
          have hlen := he c (List.mem_of_getElem? hi)
          have hi00 : cells[0]? = some (cells[0]'(by have := (List.getElem?_eq_some_iff.1 hi).1; omega)) := List.getElem?_eq_getElem _
          have hl0 := he _ (List.mem_of_getElem? hi00)
          have h := hc _ rfl 0 _ hi00 0 _ (List.getElem?_eq_getElem (by omega))
          have := World.cell?_spot h
          simp [Addr.add] at this
        have := hi0 i c hi
        subst this
        simp [Addr.add] at hs0
    · intro j v hj
      have h' := hc _ rfl i c hi j v hj
      have hsp := World.cell?_spot h'
      rw [← h']
      congr 1
      unfold Addr.add at hsp ⊢
      split
      · rename_i h0
        rw [if_pos h0] at hsp
        simp only at hsp
        rw [hsp]
        have : off + i * es + j = off := by omega
        rw [this]
      · rw [Nat.add_assoc]
theorem slice_nil {w : World} {B : Nat → Prop} {es : Nat} : SliceIs w B (.slice none 0 0) es [] := ⟨none, 0, rfl, by simp, by unfold maxLen; omega, fun _ => rfl, fun i c h => by simp at h⟩
end Go.Abs
namespace Go.Abs
open Go.Sem Go.ChangeShapes Go.RowKit
end Go.Abs
namespace Go.Abs
open Go.Sem Go.ChangeShapes Go.RowKit
section
variable {H : Type} {enc : TypeId × Value → H} {P : Program} {w : World} {base : Nat} {sp : Nat → Bool} {held : Bool}
end
end Go.Abs
namespace Go.Abs
open Go.Sem Go.ChangeShapes Go.RowKit
section
variable {H : Type} {enc : TypeId × Value → H} {P : Program} {w : World} {base : Nat} {sp : Nat → Bool} {held : Bool}
def wfI (k : IntKind) (n : Int) : Prop := (Lit.int k n).wf = true
/-- a type is opened: what is read of it lies in the cells 'F a', and a is well formed -/
def Opens (enc : TypeId × Value → H) (P : Program) (w : World) (base : Nat) (sp : Nat → Bool) (held : Bool) (t : TypeId) {α : Type} (F : α → List Value) (wf : α → Prop) : Prop :=
  ∀ (fuel : Nat) (cs : List Value) (x : DataW H × List MemPlace), DataW.trod enc P w base sp held fuel t cs = some x → ∃ a, cs = F a ∧ wf a
theorem opn_int {t : TypeId} {k : IntKind} (ht : P.underlying t = some (.int k)) : Opens enc P w base sp held t (eInt k) (wfI k) := by
  intro fuel cs x h
  obtain ⟨n, hc, _, hw⟩ := DataW.trod_int ht h
  exact ⟨n, hc, hw⟩
/-- the elements of a slice that is opened -/
theorem opn_slice {t e : TypeId} {es : Nat} {α : Type} {F : α → List Value} {wf : α → Prop} (ht : P.underlying t = some (.slice e)) (hce : P.cellsOf e = es) (hes : 0 < es) (hF : ∀ a, (F a).length = es)
    (ho : Opens enc P w base sp held e F wf) {fuel : Nat} {cs : List Value} {x : DataW H × List MemPlace} (h : DataW.trod enc P w base sp held fuel t cs = some x) :
    ∃ (v : Value) (l : List α), cs = [v] ∧ (∀ a ∈ l, wf a) ∧ SliceIs w (fun b => (fun _ => Ow.no : Own) b = .no) v es (l.map F) ∧
      ((x = (.nil, []) ∧ l = []) ∨ ∃ ys rs ps, x = (.slice ys rs, ps) ∧ ys.length = l.length) := by
  rcases DataW.trod_slice ht h with ⟨rfl, hx⟩ | ⟨a, len, cap, elems, rest, m, _, rfl, rfl, hb, hl, hm, hlen, hel', hsp, hns⟩
  · exact ⟨_, [], rfl, by simp, slice_nil, .inl ⟨hx, rfl⟩⟩
  · have each : ∀ i, i < len → ∃ d : α, wf d ∧ ∀ j v, (F d)[j]? = some v → w.cell? (a.add (i * es + j)) = some v := by
      intro i hi
      have h1 := hel' i hi
      rw [List.getElem?_eq_getElem (by omega), hce, Option.bind_eq_some_iff] at h1
      obtain ⟨cs', hcs, hy⟩ := h1
      obtain ⟨d, rfl, hd⟩ := ho _ _ _ hy
      refine ⟨d, hd, fun j v hj => ?_⟩
      have hjlt : j < es := by have := (List.getElem?_eq_some_iff.1 hj).1; rw [hF] at this; omega
      have := (World.cells?_some hcs).2.2 j hjlt
      rw [hj] at this
      rw [← this]
      congr 1
      unfold Addr.add
      by_cases e1 : i * es = 0
      · rw [if_pos e1]; simp [e1]
      · rw [if_neg e1, if_neg (by omega)]
        by_cases e2 : j = 0
        · simp [e2]
        · rw [if_neg e2]; simp [Nat.add_assoc]
    have hch : ∃ l : List α, l.length = len ∧ ∀ i d, l[i]? = some d → wf d ∧ ∀ j v, (F d)[j]? = some v → w.cell? (a.add (i * es + j)) = some v := by
      clear hel' hlen hsp hns hl h
      induction len with
      | zero => exact ⟨[], rfl, by simp⟩
      | succ k ih =>
        obtain ⟨l, hl1, hl2⟩ := ih (fun i hi => each i (by omega))
        obtain ⟨d, hd1, hd2⟩ := each k (by omega)
        refine ⟨l ++ [d], by simp [hl1], fun i d' hi => ?_⟩
        by_cases hik : i < k
        · rw [List.getElem?_append_left (by omega)] at hi; exact hl2 i d' hi
        · rw [List.getElem?_append_right (by omega)] at hi
          have : i = k := by have := (List.getElem?_eq_some_iff.1 hi).1; simp at this; omega
          subst this
          rw [hl1, Nat.sub_self] at hi
          simp at hi
          subst hi
          exact ⟨hd1, hd2⟩
    obtain ⟨l, hl1, hl2⟩ := hch
    refine ⟨_, l, rfl, ?_, ?_, .inr ⟨_, _, _, rfl, by simp [hlen, hl1]⟩⟩
    · intro d hd
      obtain ⟨i, hi⟩ := List.getElem?_of_mem hd
      exact (hl2 i d hi).1
    · refine cells_open (by rw [List.length_map, hl1]) hl hm (by simp) hes ?_ ?_
      · intro c hc
        obtain ⟨d, hd, rfl⟩ := List.mem_map.1 hc
        exact hF d
      · intro x hx i c hi j v hj
        cases hx
        simp only [List.getElem?_map, Option.map_eq_some_iff] at hi
        obtain ⟨d, hd, rfl⟩ := hi
        exact (hl2 i d hd).2 j v hj
end
end Go.Abs
namespace Go.Abs
open Go.Sem Go.ChangeShapes Go.RowKit
section
variable {H : Type} {enc : TypeId × Value → H} {P : Program} {w : World} {base : Nat} {sp : Nat → Bool} {held : Bool}
theorem opn_str {t : TypeId} (ht : P.underlying t = some .string) : Opens enc P w base sp held t eStr (fun l => l.length ≤ maxLen) := by
  intro fuel cs x h
  obtain ⟨s, hc, _, hl⟩ := DataW.trod_string ht h
  exact ⟨s.data.toList, by rw [hc]; rfl, hl⟩
def noO : Own := fun _ => .no
theorem slice_len {t e : TypeId} (ht : P.underlying t = some (.slice e)) {fuel : Nat} {cs : List Value} {x : DataW H × List MemPlace} (h : DataW.trod enc P w base sp held fuel t cs = some x) {N : Nat}
    (hx : (x = (.nil, []) ∧ N = 0) ∨ ∃ ys rs ps, x = (.slice ys rs, ps) ∧ ys.length = N) : N ≤ maxLen := by
  rcases DataW.trod_slice ht h with ⟨_, h0⟩ | ⟨a, len, cap, elems, rest, m, _, _, h0, _, hl, hm, hlen, _⟩
  · rcases hx with ⟨_, rfl⟩ | ⟨ys, rs, ps, h1, _⟩
    · exact Nat.zero_le _
    · rw [h0] at h1; cases h1
  · rcases hx with ⟨h1, _⟩ | ⟨ys, rs, ps, h1, h2⟩
    · rw [h0] at h1; cases h1
    · rw [h0] at h1; cases h1; rw [List.length_map] at h2; omega
theorem opn_leafL {t e : TypeId} {es : Nat} {α : Type} {F : α → List Value} {wf : α → Prop} (ht : P.underlying t = some (.slice e)) (hce : P.cellsOf e = es) (hes : 0 < es) (hF : ∀ a, (F a).length = es)
    (ho : Opens enc P w base sp held e F wf) {fuel : Nat} {cs : List Value} {x : DataW H × List MemPlace} (h : DataW.trod enc P w base sp held fuel t cs = some x) :
    ∃ (v : Value) (l : List α), cs = [v] ∧ (l.length ≤ maxLen ∧ ∀ a ∈ l, wf a) ∧ ∀ k, (ro v es (l.map F)).p w noO k := by
  obtain ⟨v, l, h1, h2, h3, h4⟩ := opn_slice ht hce hes hF ho h
  refine ⟨v, l, h1, ⟨slice_len ht h ?_, h2⟩, fun _ => h3⟩
  rcases h4 with ⟨h5, rfl⟩ | h5
  · exact .inl ⟨h5, rfl⟩
  · exact .inr h5
end
end Go.Abs
namespace Go.Abs
open Go.Sem Go.ChangeShapes Go.RowKit
theorem laid_at {P : Program} {w : World} {n : String} {d : DataW Unit} : ∀ {l : List (String × DataW Unit)} {ps : List MemPlace}, DataW.LaidVars P w l ps → (n, d) ∈ l →
    ∃ g t cs fuel p, P.globalNamed n = some g ∧ (P.globals[g]?).map (·.type) = some t ∧ w.var? P n = some cs ∧ DataW.trod (fun _ => ()) P w 0 (fun _ => true) false fuel t cs.toList = some (d, p)
  | [], _, _, h => by simp at h
  | (m, e) :: r, ps, ⟨g, t, cs, fuel, p, q, h1, h2, h3, h4, h5, _⟩, h => by
    rcases List.mem_cons.1 h with h | h
    · cases h; exact ⟨g, t, cs, fuel, p, h1, h2, h3, h4⟩
    · exact laid_at h5 h
theorem laid_tab {P : Program} {w : World} {l : List (String × DataW Unit)} {name : String} {k : IntKind} {zs : List Int} {g t e : Nat} {n : Nat} (h : laidMet P l w) (hm : (name, Lib.tabData k zs) ∈ l)
    (hg : P.globalNamed name = some g) (hty : (P.globals[g]?).map (·.type) = some t) (ht : P.underlying t = some (.array n e)) (he : P.underlying e = some (.int k)) (hce : P.cellsOf e = 1) (hct : P.cellsOf t = n) : Lib.TabIs P w name k zs := by
  obtain ⟨ps, hl, _⟩ := h
  obtain ⟨g', t', cs, fuel, p, hg', ht', hvar, hd⟩ := laid_at hl hm
  obtain rfl := Option.some.inj (hg.symm.trans hg')
  obtain rfl := Option.some.inj (hty.symm.trans ht')
  unfold Lib.TabIs
  rw [hvar, ← Lib.cells_of_tab ht he hce hct hd]
theorem laid_iface {P : Program} {w : World} {l : List (String × DataW Unit)} {name s : String} {d : DataW Unit} {g t : Nat} {ms : Array (String × TypeId)} (h : laidMet P l w) (hm : (name, DataW.iface s d) ∈ l)
    (hg : P.globalNamed name = some g) (hty : (P.globals[g]?).map (·.type) = some t) (ht : P.underlying t = some (.interface ms)) : ∃ u v, w.cell? ⟨g, 0, none⟩ = some (.iface u v) := by
  obtain ⟨ps, hl, _⟩ := h
  obtain ⟨g', t', cs, fuel, p, hg', ht', hvar, hd⟩ := laid_at hl hm
  obtain rfl := Option.some.inj (hg.symm.trans hg')
  obtain rfl := Option.some.inj (hty.symm.trans ht')
  have hc : ∃ u v, cs.toList = [.iface u v] := by
    cases fuel with
    | zero => simp [DataW.trod] at hd
    | succ fuel =>
      unfold DataW.trod at hd
      rw [ht] at hd
      split at hd <;> simp_all
  obtain ⟨u, v, hc⟩ := hc
  refine ⟨u, v, ?_⟩
  have := World.var?_cell hg hvar 0
  rw [this, ← Array.getElem?_toList, hc]; rfl
section
variable {H : Type} {enc : TypeId × Value → H} {P : Program} {w : World} {base : Nat} {sp : Nat → Bool} {held : Bool}
end
end Go.Abs
namespace Go.Proofs.YtgibkdldfnlglaaGreatDoor
open Go.Abs Go.ChangeShapes Go.RowKit
set_option maxRecDepth 100000
set_option linter.unusedVariables false
def S_api_Lexeme.wf (x : S_api_Lexeme) : Prop := wfI .i64 x.Kind ∧ wfI .i64 x.At ∧ x.S.length ≤ maxLen
theorem S_api_Lexeme.opn {H : Type} {enc : TypeId × Value → H} {w : World} {base : Nat} {sp : Nat → Bool} {held : Bool} : Opens enc Tryz.prog w base sp held 44 S_api_Lexeme.enc S_api_Lexeme.wf := by
  intro fuel cs x h
  obtain ⟨xs, n, _, _, hl, hlen, hf⟩ := DataW.trod_struct Tryz.underlying44 h
  have hl' : cs.length = 3 := hl.trans (by kernel_rfl)
  have hx : xs.length = 3 := hlen
  have k3 : Tryz.prog.cellsOf 3 = 1 := by kernel_rfl
  have k9 : Tryz.prog.cellsOf 9 = 1 := by kernel_rfl
  match cs, hl' with
  | [c0, c1, c2], _ =>
    have f0 := hf 0 _ rfl
    rw [List.getElem?_eq_getElem (show 0 < xs.length by omega)] at f0
    obtain ⟨a0, e0, w0⟩ := (opn_int Tryz.underlying3) _ _ _ f0
    simp [k3, eInt, eStr, eBool] at e0
    have f1 := hf 1 _ rfl
    rw [List.getElem?_eq_getElem (show 1 < xs.length by omega)] at f1
    obtain ⟨a1, e1, w1⟩ := (opn_int Tryz.underlying3) _ _ _ f1
    simp [k3, eInt, eStr, eBool] at e1
    have f2 := hf 2 _ rfl
    rw [List.getElem?_eq_getElem (show 2 < xs.length by omega)] at f2
    obtain ⟨a2, e2, w2⟩ := (opn_str Tryz.underlying9) _ _ _ f2
    simp [k9, eInt, eStr, eBool] at e2
    exact ⟨⟨a0, a1, a2⟩, by simp [S_api_Lexeme.enc, e0, e1, e2], w0, w1, w2⟩

end Go.Proofs.YtgibkdldfnlglaaGreatDoor
namespace Go.Proofs.YtgibkdldfnlglaaGreatDoor
open Go.Abs
theorem law6 (l : List S_api_Lexeme) (_ : l.length ≤ maxLen ∧ ∀ x ∈ l, S_api_Lexeme.wf x) : ∃ m, law18_LexerWritesAsSpecified m l = some true := law6_of l
end Go.Proofs.YtgibkdldfnlglaaGreatDoor
namespace Go.Proofs.YtgibkdldfnlglaaGreatDoor
open Go.Abs
/-- so many blocks has the settled world -/
noncomputable def low : Nat := (World.holding Tryz.prog default ⟨#[], #[], []⟩).heap.size
/-- the settled world with the laid variables -/
noncomputable def laidWorld (os : Os) : World :=
  let w0 := World.holding Tryz.prog os ⟨#[.cells #[.string ⟨#[105, 110, 118, 97, 108, 105, 100, 32, 115, 121, 110, 116, 97, 120]⟩] 162, .cells #[.string ⟨#[118, 97, 108, 117, 101, 32, 111, 117, 116, 32, 111, 102, 32, 114, 97, 110, 103, 101]⟩] 162, .cells #[.slice (some ⟨low + 3, 0, none⟩) 7 7, .slice none 0 0, .int .i64 2] 136, .cells (([9, 13, 1, 32, 133, 101, 160, 5760, 5600, 8192, 8202, 1, 8232, 8233, 1, 8239, 8287, 48, 12288, 12288, 1] : List Int).map (Value.int .u16)).toArray 139], #[], []⟩
  { w0 with heap := (((((((w0.heap.modify 0 fun
      | .cells _ t frozen => .cells (([0, 0, 0, 0, 0, 0, 0, 0, 0, 1, 1, 1, 1, 1, 0, 0, 0, 0, 0, 0, 0, 0, 0, 0, 0, 0, 0, 0, 0, 0, 0, 0, 1, 0, 0, 0, 0, 0, 0, 0, 0, 0, 0, 0, 0, 0, 0, 0, 0, 0, 0, 0, 0, 0, 0, 0, 0, 0, 0, 0, 0, 0, 0, 0, 0, 0, 0, 0, 0, 0, 0, 0, 0, 0, 0, 0, 0, 0, 0, 0, 0, 0, 0, 0, 0, 0, 0, 0, 0, 0, 0, 0, 0, 0, 0, 0, 0, 0, 0, 0, 0, 0, 0, 0, 0, 0, 0, 0, 0, 0, 0, 0, 0, 0, 0, 0, 0, 0, 0, 0, 0, 0, 0, 0, 0, 0, 0, 0, 0, 0, 0, 0, 0, 0, 0, 0, 0, 0, 0, 0, 0, 0, 0, 0, 0, 0, 0, 0, 0, 0, 0, 0, 0, 0, 0, 0, 0, 0, 0, 0, 0, 0, 0, 0, 0, 0, 0, 0, 0, 0, 0, 0, 0, 0, 0, 0, 0, 0, 0, 0, 0, 0, 0, 0, 0, 0, 0, 0, 0, 0, 0, 0, 0, 0, 0, 0, 0, 0, 0, 0, 0, 0, 0, 0, 0, 0, 0, 0, 0, 0, 0, 0, 0, 0, 0, 0, 0, 0, 0, 0, 0, 0, 0, 0, 0, 0, 0, 0, 0, 0, 0, 0, 0, 0, 0, 0, 0, 0, 0, 0, 0, 0, 0, 0, 0, 0, 0, 0, 0, 0, 0, 0, 0, 0, 0, 0] : List Int).map (Value.int .u8)).toArray t frozen
      | o => o).modify 5 fun
      | .cells _ t frozen => .cells (([1, 10, 100, 1000, 10000, 100000, 1000000, 10000000, 100000000, 1000000000, 10000000000, 100000000000, 1000000000000, 10000000000000, 100000000000000, 1000000000000000, 10000000000000000, 100000000000000000, 1000000000000000000, 10000000000000000000] : List Int).map (Value.int .u64)).toArray t frozen
      | o => o).modify 6 fun
      | .cells _ t frozen => .cells (([0, 1, 28, 2, 29, 14, 24, 3, 30, 22, 20, 15, 25, 17, 4, 8, 31, 27, 13, 23, 21, 19, 16, 7, 26, 12, 18, 6, 11, 5, 10, 9] : List Int).map (Value.int .u8)).toArray t frozen
      | o => o).modify 7 fun
      | .cells _ t frozen => .cells (([0, 1, 56, 2, 57, 49, 28, 3, 61, 58, 42, 50, 38, 29, 17, 4, 62, 47, 59, 36, 45, 43, 51, 22, 53, 39, 33, 30, 24, 18, 12, 5, 63, 55, 48, 27, 60, 41, 37, 16, 46, 35, 44, 21, 52, 32, 23, 11, 54, 26, 40, 15, 34, 20, 31, 10, 25, 14, 19, 9, 13, 8, 7, 6] : List Int).map (Value.int .u8)).toArray t frozen
      | o => o).modify 3 fun
      | .cells _ t frozen => .cells #[.iface 160 (.pointer (some ⟨low, 0, none⟩))] t frozen
      | o => o).modify 4 fun
      | .cells _ t frozen => .cells #[.iface 160 (.pointer (some ⟨low + 1, 0, none⟩))] t frozen
      | o => o).modify 2 fun
      | .cells _ t frozen => .cells #[.pointer (some ⟨low + 2, 0, none⟩)] t frozen
      | o => o) }
def laidL : List (String × DataW Unit) := [("math/bits.deBruijn32tab", Rows.laid_math_bits_deBruijn32tab), ("math/bits.deBruijn64tab", Rows.laid_math_bits_deBruijn64tab), ("internal/strconv.uint64pow10", Rows.laid_internal_strconv_uint64pow10), ("strconv.ErrRange", Rows.laid_strconv_ErrRange), ("strconv.ErrSyntax", Rows.laid_strconv_ErrSyntax), ("unicode.White_Space", Rows.laid_unicode_White_Space), ("strings.asciiSpace", Rows.laid_strings_asciiSpace)]
theorem laidWorld_met (os : Os) (args : Array Value) : laidMet Tryz.prog laidL ((laidWorld os).forCall (fun _ _ => 0) ⟨#[], args, []⟩).memory :=
  laidMet_of_run' 8 (by kernel_rfl) (by kernel_rfl)
theorem globIs {W : World} (h : laidMet Tryz.prog laidL W) : GlobL W where
  errSyntax := let ⟨u, v, hc⟩ := laid_iface (s := "*errors.errorString") (d := .ptr (.agg [.lit (.string [105, 110, 118, 97, 108, 105, 100, 32, 115, 121, 110, 116, 97, 120])])) h (by simp [laidL, Rows.laid_strconv_ErrSyntax]) gSyn (t := 80) (by kernel_rfl) Tryz.underlying80; ⟨3, u, v, gSyn, by decide, hc⟩
  errRange := let ⟨u, v, hc⟩ := laid_iface (s := "*errors.errorString") (d := .ptr (.agg [.lit (.string [118, 97, 108, 117, 101, 32, 111, 117, 116, 32, 111, 102, 32, 114, 97, 110, 103, 101])])) h (by simp [laidL, Rows.laid_strconv_ErrRange]) gRng (t := 80) (by kernel_rfl) Tryz.underlying80; ⟨4, u, v, gRng, by decide, hc⟩
  space := ⟨0, gSpc, by decide, laid_tab h (List.mem_cons_of_mem _ (List.mem_cons_of_mem _ (List.mem_cons_of_mem _ (List.mem_cons_of_mem _ (List.mem_cons_of_mem _ (List.mem_cons_of_mem _ (List.mem_cons.2 (.inl (by kernel_rfl))))))))) gSpc (t := 88) (by kernel_rfl) Tryz.underlying88 Tryz.underlying5 (by kernel_rfl) (by kernel_rfl)⟩
theorem laid_size {W : World} (h : laidMet Tryz.prog laidL W) : 8 ≤ W.heap.size := by
  obtain ⟨ps, hl, _⟩ := h
  obtain ⟨g, t, cs, fuel, p, e1, _, e3, _⟩ := laid_at (n := "math/bits.deBruijn64tab") hl (List.mem_cons_of_mem _ (List.mem_cons_self ..))
  have eg : Tryz.prog.globalNamed "math/bits.deBruijn64tab" = some 7 := by kernel_rfl
  obtain rfl := Option.some.inj (eg.symm.trans e1)
  unfold World.var? at e3
  rw [eg] at e3
  simp only [Option.bind_some] at e3
  by_cases h : 7 < W.heap.size
  · omega
  · rw [Array.getElem?_eq_none (by omega)] at e3; simp at e3
theorem globP {W : World} (h : laidMet Tryz.prog laidL W) (hs : W.ShapedOpen Tryz.prog) (k : Nat) : globA.p W noO k := ⟨laid_size h, fun _ _ => rfl, globIs h⟩
end Go.Proofs.YtgibkdldfnlglaaGreatDoor
