/-
  The walks of the decoders.
-/
import Derived.Test.YtbhlfdklpihaiaaAbsArr
import Derived.Test.YtbhlfdklpihaiaaWireSpec
import Derived.Test.YtbhlfdklpihaiaaProg
import Derived.Test.YtbhlfdklpihaiaaWalk1
namespace Go.Proofs.Ytbhlfdklpihaiaa
open Go.Abs
set_option linter.unusedVariables false
set_option linter.unusedSimpArgs false
set_option maxRecDepth 20000

structure getInt_p_S0 where
  k : Nat
  z : Nat
structure getInt_p_C9 where
  bad : Bool
theorem getInt_p (bv : Value) (b : List UInt8) (hb : b.length ≤ 4294967296) :
    Meets Try.prog 24 [bv] [ro bv 1 (u8c b)] (fun v G => v = .tuple #[.int .i64 (getI b).1, .int .i64 ((getI b).2.1 : Nat), .int .i64 ((getI b).2.2 : Nat)] ∧ G = []) := by
  refine fn_of_run Try.func24 rfl Try.ntmps24 rfl (fun w0 o0 => ?_)
  refine run_seq ?_
  refine run_region' ?_
  refine ops_y (wn rfl) rfl (y_assign rfl) ?_
  refine ops_y (wn rfl) rfl (y_assign rfl) ?_
  refine ops_y (wn rfl) rfl (y_assign rfl) ?_
  refine ops_nil ?_
  refine goes_code ?_
  refine run_scope ?_
  refine run_seq ?_
  refine run_region' ?_
  refine ops_y (wn rfl) rfl (y_assign rfl) ?_
  refine ops_nil ?_
  refine goes_code ?_
  refine run_seq ?_
  refine run_region' ?_
  refine ops_y (wn rfl) rfl (y_assign rfl) ?_
  refine ops_nil ?_
  refine goes_code ?_
  refine run_seq ?_
  refine run_label ?_
  refine goes_code ?_
  refine run_seq ?_
  refine run_seq ?_
  refine run_region' ?_
  refine ops_y (wn rfl) rfl (y_move rfl) ?_
  refine ops_y (wn rfl) rfl ((y_len 0 rfl Try.runUnderlying28 rfl rfl reads_ro).to (congrArg (fun n : Nat => Value.int .i64 (n : Int)) (u8c_len _))) ?_
  refine ops_y (wn rfl) rfl (y_move rfl) ?_
  refine ops_nil ?_
  refine goes_code ?_
  refine run_block ?_
  refine run_loop getInt_p_S0 (fun s => [(9, bv), (10, .int .i64 ((b.length : Nat) : Int)), (11, .int .i64 ((s.k : Nat) : Int)), (5, .int .u64 ((s.z : Nat) : Int)), (6, .int .i64 0), (2, .int .i64 0), (3, .int .i64 0), (4, .int .i64 0)]) (fun s => [ro bv 1 (u8c b)]) (fun s => finU s.k s.z (getU s.k (b.drop s.k)) = getU 0 b ∧ s.z < 2 ^ (7 * s.k) ∧ s.k ≤ 9 ∧ s.k ≤ b.length) (fun s => b.length - s.k) [0] ⟨0, 0⟩ ?_ (by decide) ?_ ?_ ?_
  · exact (vcons rfl (vcons rfl (vcons rfl (vcons rfl (vcons rfl (vcons rfl (vcons rfl (vcons rfl (vnil)))))))))
  · rfl
  · try dsimp only
    exact ⟨finU_start b, by simp, by omega, by omega⟩
  rintro ⟨k, z⟩ ⟨hi, hz, hk, hkl⟩ L1 hL2
  dsimp only at *
  refine run_seq ?_
  refine run_region' ?_
  refine ops_y (wn rfl) rfl (y_lss rfl rfl) ?_
  refine ops_nil ?_
  refine goes_code ?_
  refine run_seq ?_
  refine run_cond _ rfl (fun hc3 => ?_) (fun hc3 => ?_)
  · -- B1t
    replace hc3 := of_decide_eq_true hc3
    refine run_skip ?_
    refine goes_code ?_
    refine run_seq ?_
    refine run_block ?_
    refine run_seq ?_
    refine run_region' ?_
    refine ops_y (wn rfl) rfl (y_move rfl) ?_
    refine ops_y (wn rfl) rfl (y_indexAddr (n := k) 0 Try.runUnderlying28 Try.sizeOf5 rfl rfl rfl reads_ro (by rw [u8c_len]; omega)) ?_
    refine ops_y (wn rfl) rfl (y_load_elem (i := k) 0 Try.isAgg5 rfl rfl reads_ro (u8c_get (by omega))) ?_
    refine ops_y (wn rfl) rfl (y_assign rfl) ?_
    refine ops_y (wn rfl) rfl (y_assign rfl) ?_
    refine ops_nil ?_
    refine goes_code ?_
    refine run_seq ?_
    refine run_block ?_
    refine run_cut getInt_p_C9 (fun s => [(9, bv), (10, .int .i64 ((b.length : Nat) : Int)), (11, .int .i64 ((k : Nat) : Int)), (5, .int .u64 ((z : Nat) : Int)), (6, .int .i64 0), (2, .int .i64 0), (3, .int .i64 0), (4, .int .i64 0), (24, .bool s.bad), (7, .int .i64 ((k : Nat) : Int)), (8, .int .u8 (((b[k]).toNat : Nat) : Int))]) (fun s => [ro bv 1 (u8c b)]) (fun s => s.bad = true ↔ ((k = 9 ∧ 1 < (b[k]).toNat) ∨ (0 < k ∧ (b[k]).toNat = 0))) (fun L4 hL5 => ?_) ?_
    · -- C9
      refine run_seq ?_
      refine run_region' ?_
      refine ops_y (wn rfl) rfl (y_move rfl) ?_
      refine ops_y (wn rfl) rfl (y_eql rfl rfl) ?_
      refine ops_y (wn rfl) rfl (y_move rfl) ?_
      refine ops_split 27 _ rfl (fun hg6 => ?_) (fun hg6 => ?_)
      · -- B2t
        replace hg6 := of_decide_eq_true hg6
        refine ops_y (wg 2 true 27 rfl rfl rfl rfl) rfl (y_move rfl) ?_
        refine ops_y (wg 2 true 27 rfl rfl rfl rfl) rfl (y_gtr rfl rfl) ?_
        refine ops_y (wn rfl) rfl (y_pick (b := true) rfl rfl) ?_
        refine ops_y (wn rfl) rfl (y_assign rfl) ?_
        refine ops_nil ?_
        refine goes_code ?_
        refine run_cond _ rfl (fun hc7 => ?_) (fun hc7 => ?_)
        · -- B3t
          replace hc7 := of_decide_eq_true hc7
          refine run_skip ?_
          refine goes_cut hL5 ⟨(decide (1 < (((b[k]).toNat : Nat) : Int)))⟩ [0] ?_ (by decide) ?_ ?_
          · exact (vcons rfl (vcons rfl (vcons rfl (vcons rfl (vcons rfl (vcons rfl (vcons rfl (vcons rfl (vcons rfl (vcons rfl (vcons rfl (vnil))))))))))))
          · rfl
          · try dsimp only
            simp <;> omega
        · -- B3f
          replace hc7 := of_decide_eq_false hc7
          refine run_weak [(9, bv), (10, .int .i64 ((b.length : Nat) : Int)), (11, .int .i64 ((k : Nat) : Int)), (5, .int .u64 ((z : Nat) : Int)), (6, .int .i64 0), (2, .int .i64 0), (3, .int .i64 0), (4, .int .i64 0), (7, .int .i64 ((k : Nat) : Int)), (8, .int .u8 (((b[k]).toNat : Nat) : Int)), (24, .bool (decide (1 < (((b[k]).toNat : Nat) : Int))))] [0] [ro bv 1 (u8c b)] (vcons rfl (vcons rfl (vcons rfl (vcons rfl (vcons rfl (vcons rfl (vcons rfl (vcons rfl (vcons rfl (vcons rfl (vcons rfl (vnil)))))))))))) (by decide) rfl ?_
          refine run_region' ?_
          refine ops_y (wn rfl) rfl (y_move rfl) ?_
          refine ops_y (wn rfl) rfl (y_gtr rfl rfl) ?_
          refine ops_y (wn rfl) rfl (y_move rfl) ?_
          refine ops_split 33 _ rfl (fun hg8 => ?_) (fun hg8 => ?_)
          · -- B4t
            replace hg8 := of_decide_eq_true hg8
            refine ops_y (wg 2 true 33 rfl rfl rfl rfl) rfl (y_move rfl) ?_
            refine ops_y (wg 2 true 33 rfl rfl rfl rfl) rfl (y_eql rfl rfl) ?_
            refine ops_y (wn rfl) rfl (y_pick (b := true) rfl rfl) ?_
            refine ops_y (wn rfl) rfl (y_assign rfl) ?_
            refine ops_nil ?_
            refine goes_cut hL5 ⟨(decide ((((b[k]).toNat : Nat) : Int) = 0))⟩ [0] ?_ (by decide) ?_ ?_
            · exact (vcons rfl (vcons rfl (vcons rfl (vcons rfl (vcons rfl (vcons rfl (vcons rfl (vcons rfl (vcons rfl (vcons rfl (vcons rfl (vnil))))))))))))
            · rfl
            · try dsimp only
              simp <;> omega
          · -- B4f
            replace hg8 := of_decide_eq_false hg8
            refine ops_no 2 true 33 rfl rfl rfl rfl rfl ?_
            refine ops_no 2 true 33 rfl rfl rfl rfl rfl ?_
            refine ops_y (wn rfl) rfl (y_pick (b := false) rfl rfl) ?_
            refine ops_y (wn rfl) rfl (y_assign rfl) ?_
            refine ops_nil ?_
            refine goes_cut hL5 ⟨false⟩ [0] ?_ (by decide) ?_ ?_
            · exact (vcons rfl (vcons rfl (vcons rfl (vcons rfl (vcons rfl (vcons rfl (vcons rfl (vcons rfl (vcons rfl (vcons rfl (vcons rfl (vnil))))))))))))
            · rfl
            · try dsimp only
              simp <;> omega
      · -- B2f
        replace hg6 := of_decide_eq_false hg6
        refine ops_no 2 true 27 rfl rfl rfl rfl rfl ?_
        refine ops_no 2 true 27 rfl rfl rfl rfl rfl ?_
        refine ops_y (wn rfl) rfl (y_pick (b := false) rfl rfl) ?_
        refine ops_y (wn rfl) rfl (y_assign rfl) ?_
        refine ops_nil ?_
        refine goes_code ?_
        refine run_cond_f rfl ?_
        refine run_weak [(9, bv), (10, .int .i64 ((b.length : Nat) : Int)), (11, .int .i64 ((k : Nat) : Int)), (5, .int .u64 ((z : Nat) : Int)), (6, .int .i64 0), (2, .int .i64 0), (3, .int .i64 0), (4, .int .i64 0), (7, .int .i64 ((k : Nat) : Int)), (8, .int .u8 (((b[k]).toNat : Nat) : Int)), (24, .bool false)] [0] [ro bv 1 (u8c b)] (vcons rfl (vcons rfl (vcons rfl (vcons rfl (vcons rfl (vcons rfl (vcons rfl (vcons rfl (vcons rfl (vcons rfl (vcons rfl (vnil)))))))))))) (by decide) rfl ?_
        refine run_region' ?_
        refine ops_y (wn rfl) rfl (y_move rfl) ?_
        refine ops_y (wn rfl) rfl (y_gtr rfl rfl) ?_
        refine ops_y (wn rfl) rfl (y_move rfl) ?_
        refine ops_split 33 _ rfl (fun hg9 => ?_) (fun hg9 => ?_)
        · -- B5t
          replace hg9 := of_decide_eq_true hg9
          refine ops_y (wg 2 true 33 rfl rfl rfl rfl) rfl (y_move rfl) ?_
          refine ops_y (wg 2 true 33 rfl rfl rfl rfl) rfl (y_eql rfl rfl) ?_
          refine ops_y (wn rfl) rfl (y_pick (b := true) rfl rfl) ?_
          refine ops_y (wn rfl) rfl (y_assign rfl) ?_
          refine ops_nil ?_
          refine goes_cut hL5 ⟨(decide ((((b[k]).toNat : Nat) : Int) = 0))⟩ [0] ?_ (by decide) ?_ ?_
          · exact (vcons rfl (vcons rfl (vcons rfl (vcons rfl (vcons rfl (vcons rfl (vcons rfl (vcons rfl (vcons rfl (vcons rfl (vcons rfl (vnil))))))))))))
          · rfl
          · try dsimp only
            simp <;> omega
        · -- B5f
          replace hg9 := of_decide_eq_false hg9
          refine ops_no 2 true 33 rfl rfl rfl rfl rfl ?_
          refine ops_no 2 true 33 rfl rfl rfl rfl rfl ?_
          refine ops_y (wn rfl) rfl (y_pick (b := false) rfl rfl) ?_
          refine ops_y (wn rfl) rfl (y_assign rfl) ?_
          refine ops_nil ?_
          refine goes_cut hL5 ⟨false⟩ [0] ?_ (by decide) ?_ ?_
          · exact (vcons rfl (vcons rfl (vcons rfl (vcons rfl (vcons rfl (vcons rfl (vcons rfl (vcons rfl (vcons rfl (vcons rfl (vcons rfl (vnil))))))))))))
          · rfl
          · try dsimp only
            simp <;> omega
    rintro ⟨bad⟩ hbd
    dsimp only at *
    refine run_cond _ rfl (fun hc10 => ?_) (fun hc10 => ?_)
    · -- B6t
      skip
      have hbad := hbd.1 hc10
      refine run_seq ?_
      refine run_region' ?_
      refine ops_y (wn rfl) rfl (y_assign rfl) ?_
      refine ops_y (wn rfl) rfl (y_assign rfl) ?_
      refine ops_y (wn rfl) rfl (y_assign rfl) ?_
      refine ops_nil ?_
      refine goes_code ?_
      refine run_ret ?_
      refine fin_slots [2, 3, 4] [.int .i64 0, .int .i64 0, .int .i64 11] [] [] Try.results24 rfl (by decide) rfl ?_
      dsimp only [tup]
      rw [getI_bad hi (by rw [drop_cons (b := b) (k := k) (by omega)]; exact getU_bad hbad) (by decide)]; exact ⟨rfl, rfl⟩
    · -- B6f
      skip
      have hbad : ¬ ((k = 9 ∧ 1 < (b[k]).toNat) ∨ (0 < k ∧ (b[k]).toNat = 0)) := fun h => by have := hbd.2 h; simp_all
      refine run_region' ?_
      refine ops_y (wn rfl) rfl (y_move rfl) ?_
      refine ops_y (wn rfl) rfl (y_move rfl) ?_
      refine ops_y (wn rfl) rfl (OpY.to (v' := .int .u8 ((((b[k]).toNat % 128) : Nat) : Int)) (y_and rfl rfl) (congrArg _ (bitAnd_low (UInt8.toNat_lt _)))) ?_
      refine ops_y (wn rfl) rfl (OpY.to (v' := .int .u64 ((((b[k]).toNat % 128) : Nat) : Int)) (y_conv Try.runUnderlying5 Try.runUnderlying58 rfl) (vu64 (by omega) (by omega))) ?_
      refine ops_y (wn rfl) rfl (y_move rfl) ?_
      refine ops_y (wn rfl) rfl ((y_mul rfl rfl).to (v64m (a := 7) (b := k) (by omega))) ?_
      have hdl := dig_lt (k := k) (z := z) (c := (b[k]).toNat) hk hz (by omega)
      refine ops_y (wn rfl) rfl (OpY.to (v' := .int .u64 (((((b[k]).toNat % 128) * 2 ^ (7 * k)) : Nat) : Int)) (y_shl rfl rfl (by omega)) (congrArg _ (shl7 hk (by omega)))) ?_
      refine ops_y (wn rfl) rfl (OpY.to (v' := .int .u64 (((z + ((b[k]).toNat % 128) * 2 ^ (7 * k)) : Nat) : Int)) (y_or rfl rfl) (congrArg _ (bitOr_shift hz hdl))) ?_
      refine ops_y (wn rfl) rfl (y_assign rfl) ?_
      refine ops_nil ?_
      refine goes_blk ?_
      refine goes_code ?_
      refine run_seq ?_
      refine run_region' ?_
      refine ops_y (wn rfl) rfl (y_move rfl) ?_
      refine ops_y (wn rfl) rfl (y_lss rfl rfl) ?_
      refine ops_nil ?_
      refine goes_code ?_
      refine run_cond _ rfl (fun hc11 => ?_) (fun hc11 => ?_)
      · -- B7t
        replace hc11 := of_decide_eq_true hc11
        refine run_seq ?_
        refine run_weak [(9, bv), (10, .int .i64 ((b.length : Nat) : Int)), (11, .int .i64 ((k : Nat) : Int)), (5, .int .u64 (((z + ((b[k]).toNat % 128) * 2 ^ (7 * k)) : Nat) : Int)), (6, .int .i64 0), (2, .int .i64 0), (3, .int .i64 0), (4, .int .i64 0), (7, .int .i64 ((k : Nat) : Int))] [0] [ro bv 1 (u8c b)] (vcons rfl (vcons rfl (vcons rfl (vcons rfl (vcons rfl (vcons rfl (vcons rfl (vcons rfl (vcons rfl (vnil)))))))))) (by decide) rfl ?_
        refine run_region' ?_
        refine ops_y (wn rfl) rfl (y_move rfl) ?_
        refine ops_y (wn rfl) rfl ((y_add rfl rfl).to (v64n (a := k) (b := 1) (by omega))) ?_
        refine ops_y (wn rfl) rfl (y_assign rfl) ?_
        refine ops_nil ?_
        refine goes_code ?_
        refine run_exit _ rfl ?_
        refine goes_code ?_
        refine run_seq ?_
        refine run_seq ?_
        refine run_region' ?_
        refine ops_y (wn rfl) rfl (y_move rfl) ?_
        refine ops_y (wn rfl) rfl (y_eql rfl rfl) ?_
        refine ops_nil ?_
        refine goes_code ?_
        refine run_cond _ rfl (fun hc12 => ?_) (fun hc12 => ?_)
        · -- B8t
          replace hc12 := of_decide_eq_true hc12
          exact absurd hc12 (by omega)
        · -- B8f
          replace hc12 := of_decide_eq_false hc12
          refine run_skip ?_
          refine goes_code ?_
          refine run_seq ?_
          refine run_region' ?_
          refine ops_y (wn rfl) rfl (y_move rfl) ?_
          refine ops_y (wn rfl) rfl (OpY.to (v' := .int .u64 ((((z + ((b[k]).toNat % 128) * 2 ^ (7 * k)) / 2) : Nat) : Int)) (y_shr rfl rfl (by omega)) (congrArg _ (shr1 _))) ?_
          refine ops_y (wn rfl) rfl (OpY.to (v' := .int .i64 ((((z + ((b[k]).toNat % 128) * 2 ^ (7 * k)) / 2) : Nat) : Int)) (y_conv Try.runUnderlying58 Try.runUnderlying3 rfl) (v64 (by omega) (by omega))) ?_
          refine ops_y (wn rfl) rfl (y_move rfl) ?_
          refine ops_y (wn rfl) rfl (OpY.to (v' := .int .u64 ((((z + ((b[k]).toNat % 128) * 2 ^ (7 * k)) % 2) : Nat) : Int)) (y_and rfl rfl) (congrArg _ (bitAnd_one hdl))) ?_
          refine ops_y (wn rfl) rfl (OpY.to (v' := .int .i64 ((((z + ((b[k]).toNat % 128) * 2 ^ (7 * k)) % 2) : Nat) : Int)) (y_conv Try.runUnderlying58 Try.runUnderlying3 rfl) (v64 (by omega) (by omega))) ?_
          refine ops_y (wn rfl) rfl (OpY.to (v' := .int .i64 (IntKind.i64.wrap (0 - (((z + ((b[k]).toNat % 128) * 2 ^ (7 * k)) % 2 : Nat) : Int)))) (y_neg rfl) rfl) ?_
          refine ops_y (wn rfl) rfl (OpY.to (v' := .int .i64 (unzig (z + ((b[k]).toNat % 128) * 2 ^ (7 * k)))) (y_xor rfl rfl) (congrArg _ (unzig_xor hdl))) ?_
          refine ops_y (wn rfl) rfl (y_move rfl) ?_
          refine ops_y (wn rfl) rfl (y_assign rfl) ?_
          refine ops_y (wn rfl) rfl (y_assign rfl) ?_
          refine ops_weak [(2, .int .i64 (unzig (z + ((b[k]).toNat % 128) * 2 ^ (7 * k)))), (3, .int .i64 (((k + 1) : Nat) : Int)), (4, .int .i64 0)] [0] [ro bv 1 (u8c b)] (vcons rfl (vcons rfl (vcons rfl (vnil)))) (by decide) rfl ?_
          refine ops_y (wn rfl) rfl (y_assign rfl) ?_
          refine ops_nil ?_
          refine goes_code ?_
          refine run_ret ?_
          refine fin_slots [2, 3, 4] [.int .i64 (unzig (z + ((b[k]).toNat % 128) * 2 ^ (7 * k))), .int .i64 (((k + 1) : Nat) : Int), .int .i64 0] [] [] Try.results24 rfl (by decide) rfl ?_
          dsimp only [tup]
          rw [getI_good hi (by rw [drop_cons (b := b) (k := k) (by omega)]; exact getU_last hbad (by omega)), Nat.mod_eq_of_lt (by omega)]; exact ⟨rfl, rfl⟩
      · -- B7f
        replace hc11 := of_decide_eq_false hc11
        refine run_skip ?_
        refine goes_blk ?_
        refine goes_code ?_
        refine run_weak [(9, bv), (10, .int .i64 ((b.length : Nat) : Int)), (11, .int .i64 ((k : Nat) : Int)), (5, .int .u64 (((z + ((b[k]).toNat % 128) * 2 ^ (7 * k)) : Nat) : Int)), (6, .int .i64 0), (2, .int .i64 0), (3, .int .i64 0), (4, .int .i64 0)] [0] [ro bv 1 (u8c b)] (vcons rfl (vcons rfl (vcons rfl (vcons rfl (vcons rfl (vcons rfl (vcons rfl (vcons rfl (vnil))))))))) (by decide) rfl ?_
        refine run_region' ?_
        refine ops_y (wn rfl) rfl ((y_add rfl rfl).to (v64n (a := k) (b := 1) (by omega))) ?_
        refine ops_y (wn rfl) rfl (y_move rfl) ?_
        refine ops_nil ?_
        refine goes_loop hL2 ⟨k + 1, (z + ((b[k]).toNat % 128) * 2 ^ (7 * k))⟩ [0] ?_ (by decide) ?_ ?_ ?_
        · exact (vcons rfl (vcons rfl (vcons rfl (vcons rfl (vcons rfl (vcons rfl (vcons rfl (vcons rfl (vnil)))))))))
        · rfl
        · try dsimp only
          exact ⟨by rw [← hi, drop_cons (b := b) (k := k) (by omega)]; exact (finU_step hbad (by omega)).symm, dig_lt2 hz, by omega, by omega⟩
        · try dsimp only
          omega
  · -- B1f
    replace hc3 := of_decide_eq_false hc3
    refine run_exit _ rfl ?_
    refine goes_code ?_
    refine run_seq ?_
    refine run_seq ?_
    refine run_region' ?_
    refine ops_y (wn rfl) rfl (y_move rfl) ?_
    refine ops_y (wn rfl) rfl (OpY.to (v' := .bool true) (y_eql rfl rfl) rfl) ?_
    refine ops_nil ?_
    refine goes_code ?_
    refine run_cond_t rfl ?_
    refine run_seq ?_
    refine run_region' ?_
    refine ops_y (wn rfl) rfl (y_assign rfl) ?_
    refine ops_y (wn rfl) rfl (y_assign rfl) ?_
    refine ops_y (wn rfl) rfl (y_assign rfl) ?_
    refine ops_nil ?_
    refine goes_code ?_
    refine run_ret ?_
    refine fin_slots [2, 3, 4] [.int .i64 0, .int .i64 0, .int .i64 10] [] [] Try.results24 rfl (by decide) rfl ?_
    dsimp only [tup]
    rw [getI_bad hi (by rw [List.drop_eq_nil_of_le (show b.length ≤ k by omega)]; rfl) (by decide)]; exact ⟨rfl, rfl⟩

structure getInt_r_C4 where
  k : Nat
structure getInt_r_S0 where
  k : Nat
structure getInt_r_C9 where
  bad : Bool
structure getInt_r_S1 where
  m : Nat
  z : Nat
theorem getInt_r (bv : Value) (b : List UInt8) (hb : b.length ≤ 4294967296) :
    Meets Try.prog 25 [bv] [ro bv 1 (u8c b)] (fun v G => v = .tuple #[.int .i64 (getI b).1, .int .i64 ((getI b).2.1 : Nat), .int .i64 ((getI b).2.2 : Nat)] ∧ G = []) := by
  refine fn_of_run Try.func25 rfl Try.ntmps25 rfl (fun w0 o0 => ?_)
  refine run_seq ?_
  refine run_region' ?_
  refine ops_y (wn rfl) rfl (y_assign rfl) ?_
  refine ops_y (wn rfl) rfl (y_assign rfl) ?_
  refine ops_y (wn rfl) rfl (y_assign rfl) ?_
  refine ops_nil ?_
  refine goes_code ?_
  refine run_seq ?_
  refine run_region' ?_
  refine ops_y (wn rfl) rfl (y_assign rfl) ?_
  refine ops_nil ?_
  refine goes_code ?_
  refine run_cut getInt_r_C4 (fun s => [(0, bv), (2, .int .i64 0), (3, .int .i64 0), (4, .int .i64 0), (5, .int .i64 ((s.k : Nat) : Int))]) (fun s => [ro bv 1 (u8c b)]) (fun s => s.k ≤ 10 ∧ s.k ≤ b.length ∧ More b s.k ∧ (s.k = 10 ∨ s.k = b.length ∨ ∃ h : s.k < b.length, (b[s.k]).toNat < 128)) (fun L1 hL2 => ?_) ?_
  · -- C4
    refine run_block ?_
    refine run_loop getInt_r_S0 (fun s => [(0, bv), (2, .int .i64 0), (3, .int .i64 0), (4, .int .i64 0), (5, .int .i64 ((s.k : Nat) : Int))]) (fun s => [ro bv 1 (u8c b)]) (fun s => s.k ≤ 10 ∧ s.k ≤ b.length ∧ More b s.k) (fun s => 10 - s.k) [0] ⟨0⟩ ?_ (by decide) ?_ ?_ ?_
    · exact (vcons rfl (vcons rfl (vcons rfl (vcons rfl (vcons rfl (vnil))))))
    · rfl
    · try dsimp only
      exact ⟨by omega, by omega, More.zero b⟩
    rintro ⟨k⟩ ⟨hk, hkl, hm⟩ L3 hL4
    dsimp only at *
    refine run_seq ?_
    refine run_seq ?_
    refine run_region' ?_
    refine ops_y (wn rfl) rfl (y_move rfl) ?_
    refine ops_y (wn rfl) rfl (y_move rfl) ?_
    refine ops_y (wn rfl) rfl ((y_len 0 rfl Try.runUnderlying28 rfl rfl reads_ro).to (congrArg (fun n : Nat => Value.int .i64 (n : Int)) (u8c_len _))) ?_
    refine ops_y (wn rfl) rfl (y_lss rfl rfl) ?_
    refine ops_y (wn rfl) rfl (y_move rfl) ?_
    refine ops_split 12 _ rfl (fun hg5 => ?_) (fun hg5 => ?_)
    · -- B1t
      replace hg5 := of_decide_eq_true hg5
      refine ops_y (wg 4 true 12 rfl rfl rfl rfl) rfl (y_move rfl) ?_
      refine ops_y (wg 4 true 12 rfl rfl rfl rfl) rfl (y_lss rfl rfl) ?_
      refine ops_y (wn rfl) rfl (y_pick (b := true) rfl rfl) ?_
      refine ops_y (wn rfl) rfl (y_move rfl) ?_
      refine ops_split 16 _ rfl (fun hg6 => ?_) (fun hg6 => ?_)
      · -- B2t
        replace hg6 := of_decide_eq_true hg6
        refine ops_y (wg 8 true 16 rfl rfl rfl rfl) rfl (y_move rfl) ?_
        refine ops_y (wg 8 true 16 rfl rfl rfl rfl) rfl (y_move rfl) ?_
        refine ops_y (wg 8 true 16 rfl rfl rfl rfl) rfl (y_indexAddr (n := k) 0 Try.runUnderlying28 Try.sizeOf5 rfl rfl rfl reads_ro (by rw [u8c_len]; omega)) ?_
        refine ops_y (wg 8 true 16 rfl rfl rfl rfl) rfl (y_load_elem (i := k) 0 Try.isAgg5 rfl rfl reads_ro (u8c_get (by omega))) ?_
        refine ops_y (wg 8 true 16 rfl rfl rfl rfl) rfl (y_geq rfl rfl) ?_
        refine ops_weak [(0, bv), (2, .int .i64 0), (3, .int .i64 0), (4, .int .i64 0), (5, .int .i64 ((k : Nat) : Int)), (16, .bool true), (21, .bool (decide (128 ≤ (((b[k]).toNat : Nat) : Int))))] [0] [ro bv 1 (u8c b)] (vcons rfl (vcons rfl (vcons rfl (vcons rfl (vcons rfl (vcons rfl (vcons rfl (vnil)))))))) (by decide) rfl ?_
        refine ops_y (wn rfl) rfl (y_pick (b := true) rfl rfl) ?_
        refine ops_nil ?_
        refine goes_code ?_
        refine run_cond _ rfl (fun hc7 => ?_) (fun hc7 => ?_)
        · -- B3t
          replace hc7 := of_decide_eq_true hc7
          refine run_skip ?_
          refine goes_code ?_
          refine run_block ?_
          refine run_region' ?_
          refine ops_y (wn rfl) rfl (y_move rfl) ?_
          refine ops_y (wn rfl) rfl ((y_add rfl rfl).to (v64n (a := k) (b := 1) (by omega))) ?_
          refine ops_y (wn rfl) rfl (y_assign rfl) ?_
          refine ops_nil ?_
          refine goes_blk ?_
          refine goes_loop hL4 ⟨k + 1⟩ [0] ?_ (by decide) ?_ ?_ ?_
          · exact (vcons rfl (vcons rfl (vcons rfl (vcons rfl (vcons rfl (vnil))))))
          · rfl
          · try dsimp only
            exact ⟨by omega, by omega, hm.succ (by omega) (by omega)⟩
          · try dsimp only
            omega
        · -- B3f
          replace hc7 := of_decide_eq_false hc7
          refine run_exit _ rfl ?_
          refine goes_cut hL2 ⟨k⟩ [0] ?_ (by decide) ?_ ?_
          · exact (vcons rfl (vcons rfl (vcons rfl (vcons rfl (vcons rfl (vnil))))))
          · rfl
          · try dsimp only
            exact ⟨by omega, by omega, hm, by first | (refine .inl ?_; omega) | (refine .inr (.inl ?_); omega) | (refine .inr (.inr ⟨by omega, ?_⟩); omega)⟩
      · -- B2f
        replace hg6 := of_decide_eq_false hg6
        refine ops_no 8 true 16 rfl rfl rfl rfl rfl ?_
        refine ops_no 8 true 16 rfl rfl rfl rfl rfl ?_
        refine ops_no 8 true 16 rfl rfl rfl rfl rfl ?_
        refine ops_no 8 true 16 rfl rfl rfl rfl rfl ?_
        refine ops_no 8 true 16 rfl rfl rfl rfl rfl ?_
        refine ops_weak [(0, bv), (2, .int .i64 0), (3, .int .i64 0), (4, .int .i64 0), (5, .int .i64 ((k : Nat) : Int)), (16, .bool false), (21, undef)] [0] [ro bv 1 (u8c b)] (vcons rfl (vcons rfl (vcons rfl (vcons rfl (vcons rfl (vcons rfl (vcons rfl (vnil)))))))) (by decide) rfl ?_
        refine ops_y (wn rfl) rfl (y_pick (b := false) rfl rfl) ?_
        refine ops_nil ?_
        refine goes_code ?_
        refine run_cond_f rfl ?_
        refine run_exit _ rfl ?_
        refine goes_cut hL2 ⟨k⟩ [0] ?_ (by decide) ?_ ?_
        · exact (vcons rfl (vcons rfl (vcons rfl (vcons rfl (vcons rfl (vnil))))))
        · rfl
        · try dsimp only
          exact ⟨by omega, by omega, hm, by first | (refine .inl ?_; omega) | (refine .inr (.inl ?_); omega) | (refine .inr (.inr ⟨by omega, ?_⟩); omega)⟩
    · -- B1f
      replace hg5 := of_decide_eq_false hg5
      refine ops_no 4 true 12 rfl rfl rfl rfl rfl ?_
      refine ops_no 4 true 12 rfl rfl rfl rfl rfl ?_
      refine ops_y (wn rfl) rfl (y_pick (b := false) rfl rfl) ?_
      refine ops_y (wn rfl) rfl (y_move rfl) ?_
      refine ops_no 8 true 16 rfl rfl rfl rfl rfl ?_
      refine ops_no 8 true 16 rfl rfl rfl rfl rfl ?_
      refine ops_no 8 true 16 rfl rfl rfl rfl rfl ?_
      refine ops_no 8 true 16 rfl rfl rfl rfl rfl ?_
      refine ops_no 8 true 16 rfl rfl rfl rfl rfl ?_
      refine ops_y (wn rfl) rfl (y_pick (b := false) rfl rfl) ?_
      refine ops_nil ?_
      refine goes_code ?_
      refine run_cond_f rfl ?_
      refine run_exit _ rfl ?_
      refine goes_cut hL2 ⟨k⟩ [0] ?_ (by decide) ?_ ?_
      · exact (vcons rfl (vcons rfl (vcons rfl (vcons rfl (vcons rfl (vnil))))))
      · rfl
      · try dsimp only
        exact ⟨by omega, by omega, hm, by first | (refine .inl ?_; omega) | (refine .inr (.inl ?_); omega) | (refine .inr (.inr ⟨by omega, ?_⟩); omega)⟩
  rintro ⟨k⟩ ⟨hk, hkl, hm, hw⟩
  dsimp only at *
  refine run_seq ?_
  refine run_seq ?_
  refine run_region' ?_
  refine ops_y (wn rfl) rfl (y_move rfl) ?_
  refine ops_y (wn rfl) rfl (y_eql rfl rfl) ?_
  refine ops_nil ?_
  refine goes_code ?_
  refine run_cond _ rfl (fun hc8 => ?_) (fun hc8 => ?_)
  · -- B4t
    replace hc8 := of_decide_eq_true hc8
    obtain rfl : k = 10 := by omega
    refine run_seq ?_
    refine run_region' ?_
    refine ops_y (wn rfl) rfl (y_assign rfl) ?_
    refine ops_y (wn rfl) rfl (y_assign rfl) ?_
    refine ops_y (wn rfl) rfl (y_assign rfl) ?_
    refine ops_nil ?_
    refine goes_code ?_
    refine run_ret ?_
    refine fin_slots [2, 3, 4] [.int .i64 0, .int .i64 0, .int .i64 11] [] [] Try.results25 rfl (by decide) rfl ?_
    dsimp only [tup]
    rw [hm.ten hkl]; exact ⟨rfl, rfl⟩
  · -- B4f
    replace hc8 := of_decide_eq_false hc8
    refine run_skip ?_
    refine goes_code ?_
    refine run_seq ?_
    refine run_seq ?_
    refine run_region' ?_
    refine ops_y (wn rfl) rfl (y_move rfl) ?_
    refine ops_y (wn rfl) rfl (y_move rfl) ?_
    refine ops_y (wn rfl) rfl ((y_len 0 rfl Try.runUnderlying28 rfl rfl reads_ro).to (congrArg (fun n : Nat => Value.int .i64 (n : Int)) (u8c_len _))) ?_
    refine ops_y (wn rfl) rfl (y_eql rfl rfl) ?_
    refine ops_nil ?_
    refine goes_code ?_
    refine run_cond _ rfl (fun hc9 => ?_) (fun hc9 => ?_)
    · -- B5t
      replace hc9 := of_decide_eq_true hc9
      obtain rfl : k = b.length := by omega
      refine run_seq ?_
      refine run_region' ?_
      refine ops_y (wn rfl) rfl (y_assign rfl) ?_
      refine ops_y (wn rfl) rfl (y_assign rfl) ?_
      refine ops_y (wn rfl) rfl (y_assign rfl) ?_
      refine ops_nil ?_
      refine goes_code ?_
      refine run_ret ?_
      refine fin_slots [2, 3, 4] [.int .i64 0, .int .i64 0, .int .i64 10] [] [] Try.results25 rfl (by decide) rfl ?_
      dsimp only [tup]
      rw [hm.stop (by omega)]; exact ⟨rfl, rfl⟩
    · -- B5f
      replace hc9 := of_decide_eq_false hc9
      refine run_skip ?_
      refine goes_code ?_
      refine run_seq ?_
      refine run_cut getInt_r_C9 (fun s => [(0, bv), (2, .int .i64 0), (3, .int .i64 0), (4, .int .i64 0), (5, .int .i64 ((k : Nat) : Int)), (50, .bool s.bad)]) (fun s => [ro bv 1 (u8c b)]) (fun s => s.bad = true ↔ ((k = 9 ∧ 1 < (b[k]).toNat) ∨ (0 < k ∧ (b[k]).toNat = 0))) (fun L10 hL11 => ?_) ?_
      · -- C9
        refine run_region' ?_
        refine ops_y (wn rfl) rfl (y_move rfl) ?_
        refine ops_y (wn rfl) rfl (y_eql rfl rfl) ?_
        refine ops_y (wn rfl) rfl (y_move rfl) ?_
        refine ops_split 33 _ rfl (fun hg12 => ?_) (fun hg12 => ?_)
        · -- B6t
          replace hg12 := of_decide_eq_true hg12
          refine ops_y (wg 2 true 33 rfl rfl rfl rfl) rfl (y_move rfl) ?_
          refine ops_y (wg 2 true 33 rfl rfl rfl rfl) rfl (y_move rfl) ?_
          refine ops_y (wg 2 true 33 rfl rfl rfl rfl) rfl (y_indexAddr (n := k) 0 Try.runUnderlying28 Try.sizeOf5 rfl rfl rfl reads_ro (by rw [u8c_len]; omega)) ?_
          refine ops_y (wg 2 true 33 rfl rfl rfl rfl) rfl (y_load_elem (i := k) 0 Try.isAgg5 rfl rfl reads_ro (u8c_get (by omega))) ?_
          refine ops_y (wg 2 true 33 rfl rfl rfl rfl) rfl (y_gtr rfl rfl) ?_
          refine ops_y (wn rfl) rfl (y_pick (b := true) rfl rfl) ?_
          refine ops_weak [(0, bv), (2, .int .i64 0), (3, .int .i64 0), (4, .int .i64 0), (5, .int .i64 ((k : Nat) : Int)), (39, .bool (decide (1 < (((b[k]).toNat : Nat) : Int))))] [0] [ro bv 1 (u8c b)] (vcons rfl (vcons rfl (vcons rfl (vcons rfl (vcons rfl (vcons rfl (vnil))))))) (by decide) rfl ?_
          refine ops_y (wn rfl) rfl (y_move rfl) ?_
          refine ops_split 40 _ rfl (fun hg13 => ?_) (fun hg13 => ?_)
          · -- B7t
            replace hg13 := of_decide_eq_true hg13
            refine ops_no 9 false 40 rfl rfl rfl rfl rfl ?_
            refine ops_no 9 false 40 rfl rfl rfl rfl rfl ?_
            refine ops_no 9 false 40 rfl rfl rfl rfl rfl ?_
            refine ops_un 12 true 43 rfl rfl rfl rfl rfl ?_
            refine ops_un 12 true 43 rfl rfl rfl rfl rfl ?_
            refine ops_un 12 true 43 rfl rfl rfl rfl rfl ?_
            refine ops_un 12 true 43 rfl rfl rfl rfl rfl ?_
            refine ops_un 12 true 43 rfl rfl rfl rfl rfl ?_
            refine ops_no 9 false 40 rfl rfl rfl rfl rfl ?_
            refine ops_y (wn rfl) rfl (y_pick (b := true) rfl rfl) ?_
            refine ops_nil ?_
            refine goes_cut hL11 ⟨true⟩ [0] ?_ (by decide) ?_ ?_
            · exact (vcons rfl (vcons rfl (vcons rfl (vcons rfl (vcons rfl (vcons rfl (vnil)))))))
            · rfl
            · try dsimp only
              simp <;> omega
          · -- B7f
            replace hg13 := of_decide_eq_false hg13
            refine ops_y (wg 9 false 40 rfl rfl rfl rfl) rfl (y_move rfl) ?_
            refine ops_y (wg 9 false 40 rfl rfl rfl rfl) rfl (y_gtr rfl rfl) ?_
            refine ops_y (wg 9 false 40 rfl rfl rfl rfl) rfl (y_move rfl) ?_
            refine ops_split 43 _ rfl (fun hg14 => ?_) (fun hg14 => ?_)
            · -- B8t
              replace hg14 := of_decide_eq_true hg14
              refine ops_y (wg 12 true 43 rfl rfl rfl rfl) rfl (y_move rfl) ?_
              refine ops_y (wg 12 true 43 rfl rfl rfl rfl) rfl (y_move rfl) ?_
              refine ops_y (wg 12 true 43 rfl rfl rfl rfl) rfl (y_indexAddr (n := k) 0 Try.runUnderlying28 Try.sizeOf5 rfl rfl rfl reads_ro (by rw [u8c_len]; omega)) ?_
              refine ops_y (wg 12 true 43 rfl rfl rfl rfl) rfl (y_load_elem (i := k) 0 Try.isAgg5 rfl rfl reads_ro (u8c_get (by omega))) ?_
              refine ops_y (wg 12 true 43 rfl rfl rfl rfl) rfl (y_eql rfl rfl) ?_
              refine ops_y (wg 9 false 40 rfl rfl rfl rfl) rfl (y_pick (b := true) rfl rfl) ?_
              refine ops_y (wn rfl) rfl (y_pick (b := false) rfl rfl) ?_
              refine ops_nil ?_
              refine goes_cut hL11 ⟨(decide ((((b[k]).toNat : Nat) : Int) = 0))⟩ [0] ?_ (by decide) ?_ ?_
              · exact (vcons rfl (vcons rfl (vcons rfl (vcons rfl (vcons rfl (vcons rfl (vnil)))))))
              · rfl
              · try dsimp only
                simp <;> omega
            · -- B8f
              replace hg14 := of_decide_eq_false hg14
              refine ops_no 12 true 43 rfl rfl rfl rfl rfl ?_
              refine ops_no 12 true 43 rfl rfl rfl rfl rfl ?_
              refine ops_no 12 true 43 rfl rfl rfl rfl rfl ?_
              refine ops_no 12 true 43 rfl rfl rfl rfl rfl ?_
              refine ops_no 12 true 43 rfl rfl rfl rfl rfl ?_
              refine ops_y (wg 9 false 40 rfl rfl rfl rfl) rfl (y_pick (b := false) rfl rfl) ?_
              refine ops_y (wn rfl) rfl (y_pick (b := false) rfl rfl) ?_
              refine ops_nil ?_
              refine goes_cut hL11 ⟨false⟩ [0] ?_ (by decide) ?_ ?_
              · exact (vcons rfl (vcons rfl (vcons rfl (vcons rfl (vcons rfl (vcons rfl (vnil)))))))
              · rfl
              · try dsimp only
                simp <;> omega
        · -- B6f
          replace hg12 := of_decide_eq_false hg12
          refine ops_no 2 true 33 rfl rfl rfl rfl rfl ?_
          refine ops_no 2 true 33 rfl rfl rfl rfl rfl ?_
          refine ops_no 2 true 33 rfl rfl rfl rfl rfl ?_
          refine ops_no 2 true 33 rfl rfl rfl rfl rfl ?_
          refine ops_no 2 true 33 rfl rfl rfl rfl rfl ?_
          refine ops_y (wn rfl) rfl (y_pick (b := false) rfl rfl) ?_
          refine ops_weak [(0, bv), (2, .int .i64 0), (3, .int .i64 0), (4, .int .i64 0), (5, .int .i64 ((k : Nat) : Int)), (39, .bool false)] [0] [ro bv 1 (u8c b)] (vcons rfl (vcons rfl (vcons rfl (vcons rfl (vcons rfl (vcons rfl (vnil))))))) (by decide) rfl ?_
          refine ops_y (wn rfl) rfl (y_move rfl) ?_
          refine ops_y (wg 9 false 40 rfl rfl rfl rfl) rfl (y_move rfl) ?_
          refine ops_y (wg 9 false 40 rfl rfl rfl rfl) rfl (y_gtr rfl rfl) ?_
          refine ops_y (wg 9 false 40 rfl rfl rfl rfl) rfl (y_move rfl) ?_
          refine ops_split 43 _ rfl (fun hg15 => ?_) (fun hg15 => ?_)
          · -- B9t
            replace hg15 := of_decide_eq_true hg15
            refine ops_y (wg 12 true 43 rfl rfl rfl rfl) rfl (y_move rfl) ?_
            refine ops_y (wg 12 true 43 rfl rfl rfl rfl) rfl (y_move rfl) ?_
            refine ops_y (wg 12 true 43 rfl rfl rfl rfl) rfl (y_indexAddr (n := k) 0 Try.runUnderlying28 Try.sizeOf5 rfl rfl rfl reads_ro (by rw [u8c_len]; omega)) ?_
            refine ops_y (wg 12 true 43 rfl rfl rfl rfl) rfl (y_load_elem (i := k) 0 Try.isAgg5 rfl rfl reads_ro (u8c_get (by omega))) ?_
            refine ops_y (wg 12 true 43 rfl rfl rfl rfl) rfl (y_eql rfl rfl) ?_
            refine ops_y (wg 9 false 40 rfl rfl rfl rfl) rfl (y_pick (b := true) rfl rfl) ?_
            refine ops_y (wn rfl) rfl (y_pick (b := false) rfl rfl) ?_
            refine ops_nil ?_
            refine goes_cut hL11 ⟨(decide ((((b[k]).toNat : Nat) : Int) = 0))⟩ [0] ?_ (by decide) ?_ ?_
            · exact (vcons rfl (vcons rfl (vcons rfl (vcons rfl (vcons rfl (vcons rfl (vnil)))))))
            · rfl
            · try dsimp only
              simp <;> omega
          · -- B9f
            replace hg15 := of_decide_eq_false hg15
            refine ops_no 12 true 43 rfl rfl rfl rfl rfl ?_
            refine ops_no 12 true 43 rfl rfl rfl rfl rfl ?_
            refine ops_no 12 true 43 rfl rfl rfl rfl rfl ?_
            refine ops_no 12 true 43 rfl rfl rfl rfl rfl ?_
            refine ops_no 12 true 43 rfl rfl rfl rfl rfl ?_
            refine ops_y (wg 9 false 40 rfl rfl rfl rfl) rfl (y_pick (b := false) rfl rfl) ?_
            refine ops_y (wn rfl) rfl (y_pick (b := false) rfl rfl) ?_
            refine ops_nil ?_
            refine goes_cut hL11 ⟨false⟩ [0] ?_ (by decide) ?_ ?_
            · exact (vcons rfl (vcons rfl (vcons rfl (vcons rfl (vcons rfl (vcons rfl (vnil)))))))
            · rfl
            · try dsimp only
              simp <;> omega
      rintro ⟨bad⟩ hbd
      dsimp only at *
      refine run_cond _ rfl (fun hc16 => ?_) (fun hc16 => ?_)
      · -- B10t
        skip
        have hbad := hbd.1 hc16
        refine run_seq ?_
        refine run_region' ?_
        refine ops_y (wn rfl) rfl (y_assign rfl) ?_
        refine ops_y (wn rfl) rfl (y_assign rfl) ?_
        refine ops_y (wn rfl) rfl (y_assign rfl) ?_
        refine ops_nil ?_
        refine goes_code ?_
        refine run_ret ?_
        refine fin_slots [2, 3, 4] [.int .i64 0, .int .i64 0, .int .i64 11] [] [] Try.results25 rfl (by decide) rfl ?_
        dsimp only [tup]
        rw [hm.bad (by omega) (by omega) hbad]; exact ⟨rfl, rfl⟩
      · -- B10f
        skip
        have hbad : ¬ ((k = 9 ∧ 1 < (b[k]).toNat) ∨ (0 < k ∧ (b[k]).toNat = 0)) := fun h => by have := hbd.2 h; simp_all
        have h128 : (b[k]).toNat < 128 := by rcases hw with h | h | ⟨_, h⟩ <;> omega
        obtain ⟨hgood, hlt⟩ := hm.good (by omega) (by omega) h128 hbad
        refine run_skip ?_
        refine goes_code ?_
        refine run_seq ?_
        refine run_region' ?_
        refine ops_y (wn rfl) rfl (y_assign rfl) ?_
        refine ops_nil ?_
        refine goes_code ?_
        refine run_seq ?_
        refine run_seq ?_
        refine run_region' ?_
        refine ops_y (wn rfl) rfl (y_move rfl) ?_
        refine ops_y (wn rfl) rfl (y_assign rfl) ?_
        refine ops_nil ?_
        refine goes_code ?_
        refine run_block ?_
        refine run_loop getInt_r_S1 (fun s => [(0, bv), (2, .int .i64 0), (3, .int .i64 0), (4, .int .i64 0), (5, .int .i64 ((k : Nat) : Int)), (6, .int .u64 ((s.z : Nat) : Int)), (7, .int .i64 (((s.m : Nat) : Int) - 1))]) (fun s => [ro bv 1 (u8c b)]) (fun s => s.m ≤ k + 1 ∧ s.z = valU ((b.take (k + 1)).drop s.m)) (fun s => s.m) [0] ⟨k + 1, 0⟩ ?_ (by decide) ?_ ?_ ?_
        · exact (vcons rfl (vcons rfl (vcons rfl (vcons rfl (vcons rfl (vcons rfl (vcons (congrArg (fun n : Int => some (Value.int .i64 n)) (by dsimp only; omega)) vnil)))))))
        · rfl
        · try dsimp only
          exact ⟨by omega, by rw [List.drop_eq_nil_of_le (by rw [List.length_take]; omega)]; rfl⟩
        rintro ⟨m, z⟩ ⟨hm2, hz⟩ L17 hL18
        dsimp only at *
        have hle := valU_drop (b.take (k + 1)) m
        rw [← hz] at hle
        refine run_seq ?_
        refine run_seq ?_
        refine run_region' ?_
        refine ops_y (wn rfl) rfl (y_move rfl) ?_
        refine ops_y (wn rfl) rfl (y_geq rfl rfl) ?_
        refine ops_nil ?_
        refine goes_code ?_
        refine run_cond _ rfl (fun hc19 => ?_) (fun hc19 => ?_)
        · -- B11t
          replace hc19 := of_decide_eq_true hc19
          refine run_skip ?_
          refine goes_code ?_
          refine run_seq ?_
          refine run_block ?_
          refine run_region' ?_
          have hst := valU_at (b := b) (m := m - 1) (k := k) (by omega) (by omega)
          rw [show m - 1 + 1 = m by omega, ← hz] at hst
          have hle2 := valU_drop (b.take (k + 1)) (m - 1)
          refine ops_y (wn rfl) rfl (y_move rfl) ?_
          refine ops_y (wn rfl) rfl (OpY.to (v' := .int .u64 (((z * 128) : Nat) : Int)) (y_mul rfl rfl) (congrArg _ (by rw [wrap_u64 (by omega) (by omega)]; rfl))) ?_
          refine ops_y (wn rfl) rfl (y_move rfl) ?_
          refine ops_y (wn rfl) rfl (OpY.to (v' := .int .i64 (((m - 1) : Nat) : Int)) (y_move rfl) (congrArg _ (by omega))) ?_
          refine ops_y (wn rfl) rfl (y_indexAddr (n := (m - 1)) 0 Try.runUnderlying28 Try.sizeOf5 rfl rfl rfl reads_ro (by rw [u8c_len]; omega)) ?_
          refine ops_y (wn rfl) rfl (y_load_elem (i := (m - 1)) 0 Try.isAgg5 rfl rfl reads_ro (u8c_get (by omega))) ?_
          refine ops_y (wn rfl) rfl (OpY.to (v' := .int .u8 ((((b[(m - 1)]).toNat % 128) : Nat) : Int)) (y_rem rfl rfl (by omega)) (by rw [Int.tmod_eq_emod_of_nonneg (by omega)]; rfl)) ?_
          refine ops_y (wn rfl) rfl ((y_conv Try.runUnderlying5 Try.runUnderlying58 rfl).to (vu64 (by omega) (by omega))) ?_
          refine ops_y (wn rfl) rfl (OpY.to (v' := .int .u64 (((z * 128 + (b[(m - 1)]).toNat % 128) : Nat) : Int)) (y_add rfl rfl) (congrArg _ (by rw [wrap_u64 (by omega) (by omega)]; rfl))) ?_
          refine ops_y (wn rfl) rfl (y_assign rfl) ?_
          refine ops_nil ?_
          refine goes_blk ?_
          refine goes_code ?_
          refine run_weak [(0, bv), (2, .int .i64 0), (3, .int .i64 0), (4, .int .i64 0), (5, .int .i64 ((k : Nat) : Int)), (6, .int .u64 (((z * 128 + (b[(m - 1)]).toNat % 128) : Nat) : Int)), (7, .int .i64 (((m : Nat) : Int) - 1))] [0] [ro bv 1 (u8c b)] (vcons rfl (vcons rfl (vcons rfl (vcons rfl (vcons rfl (vcons rfl (vcons rfl (vnil)))))))) (by decide) rfl ?_
          refine run_region' ?_
          refine ops_y (wn rfl) rfl (OpY.to (v' := .int .i64 (((m - 1) : Nat) : Int)) (y_move rfl) (congrArg _ (by omega))) ?_
          refine ops_y (wn rfl) rfl ((y_sub rfl rfl).to (v64 (by omega) (by omega))) ?_
          refine ops_y (wn rfl) rfl (y_assign rfl) ?_
          refine ops_nil ?_
          refine goes_loop hL18 ⟨m - 1, (z * 128 + (b[(m - 1)]).toNat % 128)⟩ [0] ?_ (by decide) ?_ ?_ ?_
          · exact (vcons rfl (vcons rfl (vcons rfl (vcons rfl (vcons rfl (vcons rfl (vcons rfl (vnil))))))))
          · rfl
          · try dsimp only
            exact ⟨by omega, by rw [valU_at (m := m - 1) (k := k) (by omega) (by omega), show m - 1 + 1 = m by omega, ← hz]; omega⟩
          · try dsimp only
            omega
        · -- B11f
          replace hc19 := of_decide_eq_false hc19
          obtain rfl : m = 0 := by omega
          rw [List.drop_zero] at hz
          refine run_exit _ rfl ?_
          refine goes_code ?_
          refine run_seq ?_
          refine run_seq ?_
          refine run_region' ?_
          refine ops_y (wn rfl) rfl (y_move rfl) ?_
          refine ops_y (wn rfl) rfl (OpY.to (v' := .int .u64 (((z % 2) : Nat) : Int)) (y_rem rfl rfl (by omega)) (by rw [Int.tmod_eq_emod_of_nonneg (by omega)]; rfl)) ?_
          refine ops_y (wn rfl) rfl (y_eql rfl rfl) ?_
          refine ops_nil ?_
          refine goes_code ?_
          refine run_cond _ rfl (fun hc20 => ?_) (fun hc20 => ?_)
          · -- B12t
            replace hc20 := of_decide_eq_true hc20
            refine run_seq ?_
            refine run_region' ?_
            refine ops_y (wn rfl) rfl (y_move rfl) ?_
            refine ops_y (wn rfl) rfl (OpY.to (v' := .int .u64 (((z / 2) : Nat) : Int)) (y_quo rfl rfl (by omega)) (by rw [Int.tdiv_eq_ediv_of_nonneg (by omega), wrap_u64 (by omega) (by omega)]; rfl)) ?_
            refine ops_y (wn rfl) rfl ((y_conv Try.runUnderlying58 Try.runUnderlying3 rfl).to (v64 (by omega) (by omega))) ?_
            refine ops_y (wn rfl) rfl ((y_sub rfl rfl).to (v64 (by omega) (by omega))) ?_
            refine ops_y (wn rfl) rfl (y_move rfl) ?_
            refine ops_y (wn rfl) rfl ((y_add rfl rfl).to (v64n (a := k) (b := 1) (by omega))) ?_
            refine ops_y (wn rfl) rfl (y_assign rfl) ?_
            refine ops_y (wn rfl) rfl (y_assign rfl) ?_
            refine ops_y (wn rfl) rfl (y_assign rfl) ?_
            refine ops_nil ?_
            refine goes_code ?_
            refine run_ret ?_
            refine fin_slots [2, 3, 4] [.int .i64 ((-1) - (((z / 2) : Nat) : Int)), .int .i64 (((k + 1) : Nat) : Int), .int .i64 0] [] [] Try.results25 rfl (by decide) rfl ?_
            dsimp only [tup]
            rw [hgood, unzig, if_pos (by omega), ← hz]; exact ⟨rfl, rfl⟩
          · -- B12f
            replace hc20 := of_decide_eq_false hc20
            refine run_skip ?_
            refine goes_code ?_
            refine run_seq ?_
            refine run_region' ?_
            refine ops_y (wn rfl) rfl (y_move rfl) ?_
            refine ops_y (wn rfl) rfl (OpY.to (v' := .int .u64 (((z / 2) : Nat) : Int)) (y_quo rfl rfl (by omega)) (by rw [Int.tdiv_eq_ediv_of_nonneg (by omega), wrap_u64 (by omega) (by omega)]; rfl)) ?_
            refine ops_y (wn rfl) rfl ((y_conv Try.runUnderlying58 Try.runUnderlying3 rfl).to (v64 (by omega) (by omega))) ?_
            refine ops_y (wn rfl) rfl (y_move rfl) ?_
            refine ops_y (wn rfl) rfl ((y_add rfl rfl).to (v64n (a := k) (b := 1) (by omega))) ?_
            refine ops_y (wn rfl) rfl (y_assign rfl) ?_
            refine ops_y (wn rfl) rfl (y_assign rfl) ?_
            refine ops_y (wn rfl) rfl (y_assign rfl) ?_
            refine ops_nil ?_
            refine goes_code ?_
            refine run_ret ?_
            refine fin_slots [2, 3, 4] [.int .i64 (((z / 2) : Nat) : Int), .int .i64 (((k + 1) : Nat) : Int), .int .i64 0] [] [] Try.results25 rfl (by decide) rfl ?_
            dsimp only [tup]
            rw [hgood, unzig, if_neg (by omega), ← hz]; exact ⟨rfl, rfl⟩

end Go.Proofs.Ytbhlfdklpihaiaa
