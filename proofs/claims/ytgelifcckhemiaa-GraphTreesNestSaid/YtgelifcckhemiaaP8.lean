/-
  The plain law GraphTreesNest.
-/
import Derived.Test.YtgelifcckhemiaaPt
import Derived.Test.YtgelifcckhemiaaW8
import Derived.Test.YtgelifcckhemiaaSane
import Derived.Test.YtgelifcckhemiaaAbsEnd4
namespace Go.Proofs.Ytgelifcckhemiaa
open Go.Abs
set_option linter.unusedSimpArgs false
set_option linter.unusedVariables false
theorem bels_len {p : List Int} {v : Int} : (bels p v).length ≤ p.length := by
  unfold bels
  have : ∀ l : List Nat, (l.flatMap (belF p v)).length ≤ l.length := by
    intro l
    induction l with
    | nil => simp
    | cons x r ih =>
      rw [List.flatMap_cons, List.length_append, List.length_cons]
      have : (belF p v x).length ≤ 1 := by unfold belF; split <;> simp
      omega
  simpa using this (List.range p.length)
theorem Has1_eq {l : List Int} {x : Int} (n : Nat) (hl : l.length ≤ 4294967296) (hn : l.length < n) : ref09_Has n l x = some (decide (x ∈ l)) := Has_eq n hl hn
theorem mem_bels {p : List Int} {v : Int} {w : Nat} (hw : w < p.length) : (w : Int) ∈ bels p v ↔ v ∈ ch p p.length (w : Nat) := by
  unfold bels belF
  rw [List.mem_flatMap]
  constructor
  · rintro ⟨i, hi, hm⟩
    split at hm
    · rename_i h
      simp at hm
      have : w = i := by omega
      subst this; exact h
    · simp at hm
  · intro h
    exact ⟨w, by simpa using hw, by simp [h]⟩
theorem nest_in {p : List Int} (hw : wfp p) (hl : p.length ≤ 40) {v : Nat} (hv : v < p.length) (n : Nat) (hn : p.length + 1 < n) :
    iter (law09_GraphTreesNest_L2 n p v (bels p v, 0)) n 0 = some (.go ()) := by
  refine iter_allgo p.length (Lp.go ()) (fun i hi => ?_) ?_ n (by omega)
  · unfold law09_GraphTreesNest_L2
    have e : decide ((i : Int) < (p.length : Int)) = true := by simpa using hi
    have hb := bels_len (p := p) (v := v)
    have hc := ch_len_le (p := p) p.length (i : Nat)
    rw [e, cond_true, Climb_eq (i : Nat) n (by omega), if_pos ⟨by omega, hw⟩, if_pos ⟨by omega, by omega⟩]
    simp only [obind, Option.bind_some]
    rw [Has1_eq n (by omega) (by omega), Has1_eq n (by omega) (by omega)]
    have hm : decide ((i : Int) ∈ bels p v) = decide ((v : Int) ∈ ch p p.length (i : Nat)) := decide_eq_decide.2 (mem_bels hi)
    simp [hm]
    exact w64 (by omega) (by omega)
  · unfold law09_GraphTreesNest_L2; simp
theorem nest_out {p : List Int} (hw : wfp p) (hl : p.length ≤ 40) (n : Nat) (hn : p.length + 1 < n) : iter (law09_GraphTreesNest_L1 n p (deps p, 0)) n 0 = some (.go ()) := by
  refine iter_allgo p.length (Lp.go ()) (fun v hv => ?_) ?_ n (by omega)
  · have e : decide ((v : Int) < (p.length : Int)) = true := by simpa using hv
    have he := hw.2 v hv
    obtain ⟨N, hN⟩ : ∃ N, p.length = N + 1 := ⟨p.length - 1, by omega⟩
    have he' : en p N (par p v) = true := by rw [hN, en_succ (by omega)] at he; exact he
    have hch : ch p p.length (v : Nat) = (v : Int) :: ch p p.length (par p v) := by
      rw [hN, ch_succ (by omega), (en_more N (N + 1) _ he' (by omega)).2]
    have hpv := hw.1 _ (par_mem (w := (v : Nat)) (by omega) (by omega))
    have hdl : ∀ u : Nat, u < p.length → (deps p)[u]? = some (((ch p p.length (u : Nat)).length : Int) - 1) := fun u hu => by simp [deps, hu]
    have hc := ch_len_le (p := p) p.length (par p v)
    have hbl := ch_len_le (p := p) p.length (v : Nat)
    unfold law09_GraphTreesNest_L1
    rw [e, cond_true, Climb_eq (v : Nat) n (by omega), if_pos ⟨by omega, hw⟩, if_pos ⟨by omega, by omega⟩, hch]
    simp only [obind, Option.bind_some]
    rw [idx_get (hdl v hv), hch]
    have e1 : (decide ((0 : Int) ≠ 0) || decide (((((v : Nat) : Int) :: ch p p.length (par p v)).length : Int) = 0)) = false := by first | (simp; done) | (simp; omega)
    have e2 : decide (((((v : Nat) : Int) :: ch p p.length (par p v)).length : Int) ≠ IntKind.i64.wrap (((((v : Nat) : Int) :: ch p p.length (par p v)).length : Int) - 1 + 1)) = false := by
      rw [w64 (by first | (simp; done) | (simp; omega)) (by first | (simp; done) | (simp; omega))]; first | (simp; done) | (simp; omega)
    have e3 : idx (((v : Nat) : Int) :: ch p p.length (par p v)) 0 (fun x47 => some (Lp.go (S := Bool) (R := Unit) (decide (x47 ≠ ((v : Nat) : Int))))) = some (.go false) := by simp [idx]
    simp only [e1, e2, cond_false, bindJ_go]
    rw [show ∀ {R : Type}, (idx (((v : Nat) : Int) :: ch p p.length (par p v)) 0 fun x47 => some (Lp.go (S := Bool) (R := R) (decide (x47 ≠ ((v : Nat) : Int))))) = some (.go false) from by intro R; simp [idx]]
    simp only [bindJ_go, cond_false]
    rw [idx_par (p := p) (w := (v : Nat)) (by omega) (by omega)]
    have e4 : decide ((p.length : Int) ≤ par p (v : Nat)) = false := by first | (simp; done) | (simp; omega)
    simp only [bindJ_go, e4, cond_false]
    rw [idx_par (p := p) (w := (v : Nat)) (by omega) (by omega)]
    have hB := Below_eq (p := p) (v : Nat) n (by omega)
    rw [if_pos ⟨by omega, hw⟩, if_pos ⟨by omega, by omega⟩] at hB
    have hin := nest_in hw hl hv n hn
    by_cases h0 : 0 ≤ par p (v : Nat)
    · have e5 : decide (0 ≤ par p (v : Nat)) = true := by simpa using h0
      simp only [e5, cond_true]
      rw [Climb_eq (par p (v : Nat)) n (by omega), if_pos ⟨by omega, hw⟩, if_pos ⟨h0, hpv.2⟩]
      simp only [Option.bind_some]
      have hq : (par p (v : Nat)).toNat < p.length := by omega
      have hq2 : (((par p (v : Nat)).toNat : Nat) : Int) = par p (v : Nat) := by omega
      have e6 : ∀ {β : Type} (k : Int → Option β), idx (deps p) (par p (v : Nat)) k = k (((ch p p.length (par p (v : Nat))).length : Int) - 1) := fun k => by
        rw [← hq2, idx_get (hdl _ hq)]
      have e7 : decide ((((((v : Nat) : Int) :: ch p p.length (par p (v : Nat))).length : Int) - 1) ≠ IntKind.i64.wrap (((ch p p.length (par p (v : Nat))).length : Int) - 1 + 1)) = false := by
        rw [w64 (by omega) (by omega)]; simp
      rw [idx_get (hdl v hv), hch, e6]
      simp only [e7, bindJ_go, cond_false]
      rw [need_pos (by first | (simp; done) | (simp; omega)), Same_eq n (by first | (simp; done) | (simp; omega)) (by first | (simp; done) | (simp; omega))]
      simp only [Option.bind_some]
      have e8 : decide (List.drop (Int.toNat 1) (((v : Nat) : Int) :: ch p p.length (par p (v : Nat))) = ch p p.length (par p (v : Nat))) = true := by simp
      simp only [e8, Bool.not_true, bindJ_go, cond_false, hB, Option.bind_some]
      simp only [ne_eq, decide_not, decide_true, Bool.not_true, cond_false, hin, bindJ_go, w64 (show -9223372036854775808 ≤ (v : Int) + 1 by omega) (by omega), not_true_eq_false, decide_false]
      simp
    · have e5 : decide (0 ≤ par p (v : Nat)) = false := by first | (simp; done) | (simp; omega)
      simp only [e5, cond_false]
      rw [idx_get (hdl v hv), hch, ch_neg (p := p) (w := par p (v : Nat)) (by omega)]
      have e9 : decide ((([((v : Nat) : Int)].length : Int) - 1) ≠ 0) = false := by simp
      simp only [e9, cond_false, bindJ_go, hB, Option.bind_some]
      simp only [ne_eq, decide_not, decide_true, Bool.not_true, cond_false, hin, bindJ_go, w64 (show -9223372036854775808 ≤ (v : Int) + 1 by omega) (by omega), not_true_eq_false, decide_false]
      simp
  · unfold law09_GraphTreesNest_L1; simp
theorem nest_true (p : List Int) (hp : ∀ a ∈ p, wfI .i64 a) : ∃ m, law09_GraphTreesNest m p = some true := by
  refine ⟨p.length + 300 + 40, ?_⟩
  unfold law09_GraphTreesNest
  have hs := sane (p.length + 300)
  generalize hn : p.length + 300 + 40 = n at *
  by_cases hl : p.length ≤ 40
  · have e : decide (40 < (p.length : Int)) = false := by first | (simp; done) | (simp; omega)
    rw [e, cond_false, Depths_eq n (by omega)]
    by_cases hw : wfp p
    · rw [if_pos ⟨by omega, hw⟩]
      have e2 : decide (((deps p).length : Int) ≠ (p.length : Int)) = false := by simp [deps]
      simp only [obind, Option.bind_some, e2, nest_out hw hl n (by omega), hs]
      simp
    · rw [if_neg (fun h => hw h.2)]
      simp [obind, hs]
  · have e : decide (40 < (p.length : Int)) = true := by first | (simp; done) | (simp; omega)
    rw [e]; simp [obind, hs]
end Go.Proofs.Ytgelifcckhemiaa
