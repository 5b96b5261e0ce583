/-
  The walks of the encoders.
-/
import Derived.Test.YtbhlfdklpihaiaaAbsArr
import Derived.Test.YtbhlfdklpihaiaaWireSpec
import Derived.Test.YtbhlfdklpihaiaaProg
namespace Go.Proofs.Ytbhlfdklpihaiaa
open Go.Abs
set_option linter.unusedVariables false
set_option linter.unusedSimpArgs false
set_option maxRecDepth 20000

structure int_p_S0 where
  z : Nat
  v : Value
  o : List UInt8
theorem int_p (n : Int) (h1 : -9223372036854775808 ≤ n) (h2 : n ≤ 9223372036854775807) :
    Meets Try.prog 14 [.int .i64 n] [] (fun v G => G = [row v 1 (u8c (encI n))]) := by
  refine fn_of_run Try.func14 rfl Try.ntmps14 rfl (fun w0 o0 => ?_)
  refine run_seq ?_
  refine run_region' ?_
  refine ops_y (wn rfl) rfl (y_assign rfl) ?_
  refine ops_nil ?_
  refine goes_code ?_
  refine run_seq ?_
  refine run_region' ?_
  refine ops_y (wn rfl) rfl (y_move rfl) ?_
  refine ops_y (wn rfl) rfl (y_conv Try.runUnderlying3 Try.runUnderlying58 rfl) ?_
  refine ops_y (wn rfl) rfl (y_shl rfl rfl (by omega)) ?_
  refine ops_y (wn rfl) rfl (y_move rfl) ?_
  refine ops_y (wn rfl) rfl (y_shr rfl rfl (by omega)) ?_
  refine ops_y (wn rfl) rfl (y_conv Try.runUnderlying3 Try.runUnderlying58 rfl) ?_
  refine ops_y (wn rfl) rfl (OpY.to (v' := .int .u64 ((zig n : Nat) : Int)) (y_xor rfl rfl) (congrArg _ (xor_zig h1 h2))) ?_
  refine ops_y (wn rfl) rfl (y_assign rfl) ?_
  refine ops_nil ?_
  refine goes_code ?_
  refine run_seq ?_
  refine run_region' ?_
  refine ops_y (wn rfl) rfl (y_assign rfl) ?_
  refine ops_nil ?_
  refine goes_code ?_
  refine run_seq ?_
  refine run_block ?_
  refine run_turn (nilrow 1) ?_
  refine run_turn (retell 0 (g := row (.slice none 0 0) 1 (u8c [])) rfl rfl) ?_
  refine run_loop int_p_S0 (fun s => [(3, .int .u64 ((s.z : Nat) : Int)), (4, s.v)]) (fun s => [row s.v 1 (u8c s.o)]) (fun s => s.o ++ encU s.z = encI n ∧ s.z < 2 ^ 64) (fun s => s.z) [0] ⟨zig n, .slice none 0 0, []⟩ ?_ (by decide) ?_ ?_ ?_
  · exact (vcons rfl (vcons rfl (vnil)))
  · rfl
  · try dsimp only
    exact ⟨rfl, zig_lt h1 h2⟩
  rintro ⟨z, v, o⟩ ⟨hi, hz⟩ L1 hL2
  dsimp only at *
  have hlen : o.length ≤ 10 := by have := (encI_len h1 h2).2; rw [← hi, List.length_append] at this; omega
  refine run_seq ?_
  refine run_seq ?_
  refine run_region' ?_
  refine ops_y (wn rfl) rfl (y_move rfl) ?_
  refine ops_y (wn rfl) rfl (y_gtr rfl rfl) ?_
  refine ops_nil ?_
  refine goes_code ?_
  refine run_cond _ rfl (fun hc3 => ?_) (fun hc3 => ?_)
  · -- B1t
    replace hc3 := of_decide_eq_true hc3
    refine run_skip ?_
    refine goes_code ?_
    refine run_seq ?_
    refine run_block ?_
    refine run_region' ?_
    refine ops_y (wn rfl) rfl (y_move rfl) ?_
    refine ops_y (wn rfl) rfl (y_move rfl) ?_
    refine ops_y (wn rfl) rfl (OpY.to (v' := .int .u8 (((z % 256) : Nat) : Int)) (y_conv Try.runUnderlying58 Try.runUnderlying5 rfl) (by rw [wrap_u8]; rfl)) ?_
    refine ops_y (wn rfl) rfl (OpY.to (v' := .int .u8 (((UInt8.ofNat (z % 128 + 128)).toNat : Nat) : Int)) (y_or rfl rfl) (by rw [bitOr_high, toNat_ofNat8 (by omega)])) ?_
    refine ops_t (wn rfl) rfl (t_lit [.int .u8 (((UInt8.ofNat (z % 128 + 128)).toNat : Nat) : Int)] Try.runUnderlying28 Try.sizeOf5 Try.zeroValue5 rfl (by decide) (by decide) rfl (by simp [Value.cells])) ?_
    rintro v4 _ ⟨rfl, _⟩
    refine ops_turn (retell 1 (g := row v4 1 (u8c [UInt8.ofNat (z % 128 + 128)])) rfl rfl) ?_
    refine ops_t (wn rfl) rfl (t_append (es := 1) 0 rfl Try.runUnderlying28 rfl Try.runUnderlying28 (.inr ⟨_, rfl⟩) Try.typeInfo5 rfl (by decide) Try.zeroValue5 rfl rfl rfl rfl (src_reads 1 rfl reads_row (u8c_ok _)) (by simp only [u8c_len, arrc_len, u8c_len, i64c_len, strc_len, List.length_append, List.length_cons, List.length_nil]; (show _ * 1 ≤ _); omega) (by simp only [u8c_len, arrc_len, u8c_len, i64c_len, strc_len, List.length_append, List.length_cons, List.length_nil]; unfold maxLen; omega)) ?_
    rintro v5 _ rfl
    refine ops_turn (retell 0 (g := row v5 1 (u8c (o ++ [UInt8.ofNat (z % 128 + 128)]))) rfl (congrArg (row _ _) (u8c_append _ _))) ?_
    refine ops_y (wn rfl) rfl (y_assign rfl) ?_
    refine ops_nil ?_
    refine goes_blk ?_
    refine goes_code ?_
    refine run_region' ?_
    refine ops_y (wn rfl) rfl (y_move rfl) ?_
    refine ops_y (wn rfl) rfl (OpY.to (v' := .int .u64 (((z / 128) : Nat) : Int)) (y_shr rfl rfl (by omega)) (congrArg _ (shr7 z))) ?_
    refine ops_y (wn rfl) rfl (y_assign rfl) ?_
    refine ops_nil ?_
    refine goes_loop hL2 ⟨z / 128, v5, (o ++ [UInt8.ofNat (z % 128 + 128)])⟩ [0] ?_ (by decide) ?_ ?_ ?_
    · exact (vcons rfl (vcons rfl (vnil)))
    · rfl
    · try dsimp only
      exact ⟨by rw [List.append_assoc, List.singleton_append, ← encU_ge (by omega)]; exact hi, by omega⟩
    · try dsimp only
      omega
  · -- B1f
    replace hc3 := of_decide_eq_false hc3
    refine run_exit _ rfl ?_
    refine goes_code ?_
    refine run_seq ?_
    refine run_region' ?_
    refine ops_y (wn rfl) rfl (y_move rfl) ?_
    refine ops_y (wn rfl) rfl (y_move rfl) ?_
    refine ops_y (wn rfl) rfl (OpY.to (v' := .int .u8 (((UInt8.ofNat z).toNat : Nat) : Int)) (y_conv Try.runUnderlying58 Try.runUnderlying5 rfl) (by rw [wrap_u8, toNat_ofNat8 (by omega)]; congr 1; omega)) ?_
    refine ops_t (wn rfl) rfl (t_lit [.int .u8 (((UInt8.ofNat z).toNat : Nat) : Int)] Try.runUnderlying28 Try.sizeOf5 Try.zeroValue5 rfl (by decide) (by decide) rfl (by simp [Value.cells])) ?_
    rintro v6 _ ⟨rfl, _⟩
    refine ops_turn (retell 1 (g := row v6 1 (u8c [UInt8.ofNat z])) rfl rfl) ?_
    refine ops_t (wn rfl) rfl (t_append (es := 1) 0 rfl Try.runUnderlying28 rfl Try.runUnderlying28 (.inr ⟨_, rfl⟩) Try.typeInfo5 rfl (by decide) Try.zeroValue5 rfl rfl rfl rfl (src_reads 1 rfl reads_row (u8c_ok _)) (by simp only [u8c_len, arrc_len, u8c_len, i64c_len, strc_len, List.length_append, List.length_cons, List.length_nil]; (show _ * 1 ≤ _); omega) (by simp only [u8c_len, arrc_len, u8c_len, i64c_len, strc_len, List.length_append, List.length_cons, List.length_nil]; unfold maxLen; omega)) ?_
    rintro v7 _ rfl
    refine ops_turn (retell 0 (g := row v7 1 (u8c (o ++ [UInt8.ofNat z]))) rfl (congrArg (row _ _) (u8c_append _ _))) ?_
    refine ops_y (wn rfl) rfl (y_assign rfl) ?_
    refine ops_nil ?_
    refine goes_code ?_
    refine run_ret ?_
    refine fin_slots [2] [v7] [0] [row v7 1 (u8c (o ++ [UInt8.ofNat z]))] Try.results14 rfl (by decide) rfl ?_
    dsimp only [tup]
    rw [← encU_lt (by omega), hi]

structure int_r_S0 where
  z : Nat
  v : Value
  o : List UInt8
theorem int_r (n : Int) (h1 : -9223372036854775808 ≤ n) (h2 : n ≤ 9223372036854775807) :
    Meets Try.prog 15 [.int .i64 n] [] (fun v G => G = [row v 1 (u8c (encI n))]) := by
  refine fn_of_run Try.func15 rfl Try.ntmps15 rfl (fun w0 o0 => ?_)
  refine run_seq ?_
  refine run_region' ?_
  refine ops_y (wn rfl) rfl (y_assign rfl) ?_
  refine ops_nil ?_
  refine goes_code ?_
  refine run_seq ?_
  refine run_region' ?_
  refine ops_y (wn rfl) rfl (y_move rfl) ?_
  refine ops_y (wn rfl) rfl (y_conv Try.runUnderlying3 Try.runUnderlying58 rfl) ?_
  refine ops_y (wn rfl) rfl (y_mul rfl rfl) ?_
  refine ops_y (wn rfl) rfl (y_assign rfl) ?_
  refine ops_nil ?_
  refine goes_code ?_
  refine run_seq ?_
  refine run_seq ?_
  refine run_region' ?_
  refine ops_y (wn rfl) rfl (y_move rfl) ?_
  refine ops_y (wn rfl) rfl (y_lss rfl rfl) ?_
  refine ops_nil ?_
  refine goes_code ?_
  refine run_cond _ rfl (fun hc1 => ?_) (fun hc1 => ?_)
  · -- B1t
    replace hc1 := of_decide_eq_true hc1
    refine run_region' ?_
    refine ops_y (wn rfl) rfl (y_move rfl) ?_
    refine ops_y (wn rfl) rfl ((y_sub rfl rfl).to (v64 (by omega) (by omega))) ?_
    refine ops_y (wn rfl) rfl (y_conv Try.runUnderlying3 Try.runUnderlying58 rfl) ?_
    refine ops_y (wn rfl) rfl (OpY.to (v' := .int .u64 (((zig n - 1) : Nat) : Int)) (y_mul rfl rfl) (congrArg _ (mul2neg h1 (by omega)))) ?_
    refine ops_y (wn rfl) rfl (OpY.to (v' := .int .u64 (((zig n) : Nat) : Int)) (y_add rfl rfl) (congrArg _ (add1neg h1 (by omega)))) ?_
    refine ops_y (wn rfl) rfl (y_assign rfl) ?_
    refine ops_nil ?_
    refine goes_code ?_
    refine run_seq ?_
    refine run_weak [(2, .slice none 0 0), (3, .int .u64 (((zig n) : Nat) : Int))] [] [] (vcons rfl (vcons rfl (vnil))) (by decide) rfl ?_
    refine run_region' ?_
    refine ops_y (wn rfl) rfl (y_assign rfl) ?_
    refine ops_nil ?_
    refine goes_code ?_
    refine run_seq ?_
    refine run_block ?_
    refine run_turn (nilrow 1) ?_
    refine run_turn (retell 0 (g := row (.slice none 0 0) 1 (u8c [])) rfl rfl) ?_
    refine run_loop int_r_S0 (fun s => [(3, .int .u64 ((s.z : Nat) : Int)), (4, s.v)]) (fun s => [row s.v 1 (u8c s.o)]) (fun s => s.o ++ encU s.z = encI n ∧ s.z < 2 ^ 64) (fun s => s.z) [0] ⟨zig n, .slice none 0 0, []⟩ ?_ (by decide) ?_ ?_ ?_
    · exact (vcons rfl (vcons rfl (vnil)))
    · rfl
    · try dsimp only
      exact ⟨rfl, zig_lt h1 h2⟩
    rintro ⟨z, v, o⟩ ⟨hi, hz⟩ L2 hL3
    dsimp only at *
    have hlen : o.length ≤ 10 := by have := (encI_len h1 h2).2; rw [← hi, List.length_append] at this; omega
    refine run_seq ?_
    refine run_seq ?_
    refine run_region' ?_
    refine ops_y (wn rfl) rfl (y_move rfl) ?_
    refine ops_y (wn rfl) rfl (y_geq rfl rfl) ?_
    refine ops_nil ?_
    refine goes_code ?_
    refine run_cond _ rfl (fun hc4 => ?_) (fun hc4 => ?_)
    · -- B2t
      replace hc4 := of_decide_eq_true hc4
      refine run_skip ?_
      refine goes_code ?_
      refine run_block ?_
      refine run_seq ?_
      refine run_region' ?_
      refine ops_y (wn rfl) rfl (y_move rfl) ?_
      refine ops_y (wn rfl) rfl (y_move rfl) ?_
      refine ops_y (wn rfl) rfl (OpY.to (v' := .int .u64 (((z % 128) : Nat) : Int)) (y_rem rfl rfl (by omega)) (by rw [Int.tmod_eq_emod_of_nonneg (by omega)]; rfl)) ?_
      refine ops_y (wn rfl) rfl (OpY.to (v' := .int .u8 (((z % 128) : Nat) : Int)) (y_conv Try.runUnderlying58 Try.runUnderlying5 rfl) (by rw [wrap_u8]; congr 1; omega)) ?_
      refine ops_y (wn rfl) rfl (OpY.to (v' := .int .u8 (((UInt8.ofNat (z % 128 + 128)).toNat : Nat) : Int)) (y_add rfl rfl) (by rw [wrap_u8, toNat_ofNat8 (by omega)]; congr 1; omega)) ?_
      refine ops_t (wn rfl) rfl (t_lit [.int .u8 (((UInt8.ofNat (z % 128 + 128)).toNat : Nat) : Int)] Try.runUnderlying28 Try.sizeOf5 Try.zeroValue5 rfl (by decide) (by decide) rfl (by simp [Value.cells])) ?_
      rintro v5 _ ⟨rfl, _⟩
      refine ops_turn (retell 1 (g := row v5 1 (u8c [UInt8.ofNat (z % 128 + 128)])) rfl rfl) ?_
      refine ops_t (wn rfl) rfl (t_append (es := 1) 0 rfl Try.runUnderlying28 rfl Try.runUnderlying28 (.inr ⟨_, rfl⟩) Try.typeInfo5 rfl (by decide) Try.zeroValue5 rfl rfl rfl rfl (src_reads 1 rfl reads_row (u8c_ok _)) (by simp only [u8c_len, arrc_len, u8c_len, i64c_len, strc_len, List.length_append, List.length_cons, List.length_nil]; (show _ * 1 ≤ _); omega) (by simp only [u8c_len, arrc_len, u8c_len, i64c_len, strc_len, List.length_append, List.length_cons, List.length_nil]; unfold maxLen; omega)) ?_
      rintro v6 _ rfl
      refine ops_turn (retell 0 (g := row v6 1 (u8c (o ++ [UInt8.ofNat (z % 128 + 128)]))) rfl (congrArg (row _ _) (u8c_append _ _))) ?_
      refine ops_y (wn rfl) rfl (y_assign rfl) ?_
      refine ops_nil ?_
      refine goes_code ?_
      refine run_weak [(3, .int .u64 ((z : Nat) : Int)), (4, v6)] [0] [row v6 1 (u8c (o ++ [UInt8.ofNat (z % 128 + 128)]))] (vcons rfl (vcons rfl (vnil))) (by decide) rfl ?_
      refine run_region' ?_
      refine ops_y (wn rfl) rfl (y_move rfl) ?_
      refine ops_y (wn rfl) rfl (OpY.to (v' := .int .u64 (((z / 128) : Nat) : Int)) (y_quo rfl rfl (by omega)) (by rw [Int.tdiv_eq_ediv_of_nonneg (by omega), wrap_u64 (by omega) (by omega)]; rfl)) ?_
      refine ops_y (wn rfl) rfl (y_assign rfl) ?_
      refine ops_nil ?_
      refine goes_blk ?_
      refine goes_loop hL3 ⟨z / 128, v6, (o ++ [UInt8.ofNat (z % 128 + 128)])⟩ [0] ?_ (by decide) ?_ ?_ ?_
      · exact (vcons rfl (vcons rfl (vnil)))
      · rfl
      · try dsimp only
        exact ⟨by rw [List.append_assoc, List.singleton_append, ← encU_ge (by omega)]; exact hi, by omega⟩
      · try dsimp only
        omega
    · -- B2f
      replace hc4 := of_decide_eq_false hc4
      refine run_exit _ rfl ?_
      refine goes_code ?_
      refine run_seq ?_
      refine run_region' ?_
      refine ops_y (wn rfl) rfl (y_move rfl) ?_
      refine ops_y (wn rfl) rfl (y_move rfl) ?_
      refine ops_y (wn rfl) rfl (OpY.to (v' := .int .u8 (((UInt8.ofNat z).toNat : Nat) : Int)) (y_conv Try.runUnderlying58 Try.runUnderlying5 rfl) (by rw [wrap_u8, toNat_ofNat8 (by omega)]; congr 1; omega)) ?_
      refine ops_t (wn rfl) rfl (t_lit [.int .u8 (((UInt8.ofNat z).toNat : Nat) : Int)] Try.runUnderlying28 Try.sizeOf5 Try.zeroValue5 rfl (by decide) (by decide) rfl (by simp [Value.cells])) ?_
      rintro v7 _ ⟨rfl, _⟩
      refine ops_turn (retell 1 (g := row v7 1 (u8c [UInt8.ofNat z])) rfl rfl) ?_
      refine ops_t (wn rfl) rfl (t_append (es := 1) 0 rfl Try.runUnderlying28 rfl Try.runUnderlying28 (.inr ⟨_, rfl⟩) Try.typeInfo5 rfl (by decide) Try.zeroValue5 rfl rfl rfl rfl (src_reads 1 rfl reads_row (u8c_ok _)) (by simp only [u8c_len, arrc_len, u8c_len, i64c_len, strc_len, List.length_append, List.length_cons, List.length_nil]; (show _ * 1 ≤ _); omega) (by simp only [u8c_len, arrc_len, u8c_len, i64c_len, strc_len, List.length_append, List.length_cons, List.length_nil]; unfold maxLen; omega)) ?_
      rintro v8 _ rfl
      refine ops_turn (retell 0 (g := row v8 1 (u8c (o ++ [UInt8.ofNat z]))) rfl (congrArg (row _ _) (u8c_append _ _))) ?_
      refine ops_y (wn rfl) rfl (y_assign rfl) ?_
      refine ops_nil ?_
      refine goes_code ?_
      refine run_ret ?_
      refine fin_slots [2] [v8] [0] [row v8 1 (u8c (o ++ [UInt8.ofNat z]))] Try.results15 rfl (by decide) rfl ?_
      dsimp only [tup]
      rw [← encU_lt (by omega), hi]
  · -- B1f
    replace hc1 := of_decide_eq_false hc1
    refine run_as 3 _ (.int .u64 (((zig n) : Nat) : Int)) rfl (congrArg _ (mul2 (by omega) h2)) ?_
    refine run_skip ?_
    refine goes_code ?_
    refine run_seq ?_
    refine run_region' ?_
    refine ops_y (wn rfl) rfl (y_assign rfl) ?_
    refine ops_nil ?_
    refine goes_code ?_
    refine run_seq ?_
    refine run_block ?_
    refine run_turn (nilrow 1) ?_
    refine run_turn (retell 0 (g := row (.slice none 0 0) 1 (u8c [])) rfl rfl) ?_
    refine run_loop int_r_S0 (fun s => [(3, .int .u64 ((s.z : Nat) : Int)), (4, s.v)]) (fun s => [row s.v 1 (u8c s.o)]) (fun s => s.o ++ encU s.z = encI n ∧ s.z < 2 ^ 64) (fun s => s.z) [0] ⟨zig n, .slice none 0 0, []⟩ ?_ (by decide) ?_ ?_ ?_
    · exact (vcons rfl (vcons rfl (vnil)))
    · rfl
    · try dsimp only
      exact ⟨rfl, zig_lt h1 h2⟩
    rintro ⟨z, v, o⟩ ⟨hi, hz⟩ L9 hL10
    dsimp only at *
    have hlen : o.length ≤ 10 := by have := (encI_len h1 h2).2; rw [← hi, List.length_append] at this; omega
    refine run_seq ?_
    refine run_seq ?_
    refine run_region' ?_
    refine ops_y (wn rfl) rfl (y_move rfl) ?_
    refine ops_y (wn rfl) rfl (y_geq rfl rfl) ?_
    refine ops_nil ?_
    refine goes_code ?_
    refine run_cond _ rfl (fun hc11 => ?_) (fun hc11 => ?_)
    · -- B3t
      replace hc11 := of_decide_eq_true hc11
      refine run_skip ?_
      refine goes_code ?_
      refine run_block ?_
      refine run_seq ?_
      refine run_region' ?_
      refine ops_y (wn rfl) rfl (y_move rfl) ?_
      refine ops_y (wn rfl) rfl (y_move rfl) ?_
      refine ops_y (wn rfl) rfl (OpY.to (v' := .int .u64 (((z % 128) : Nat) : Int)) (y_rem rfl rfl (by omega)) (by rw [Int.tmod_eq_emod_of_nonneg (by omega)]; rfl)) ?_
      refine ops_y (wn rfl) rfl (OpY.to (v' := .int .u8 (((z % 128) : Nat) : Int)) (y_conv Try.runUnderlying58 Try.runUnderlying5 rfl) (by rw [wrap_u8]; congr 1; omega)) ?_
      refine ops_y (wn rfl) rfl (OpY.to (v' := .int .u8 (((UInt8.ofNat (z % 128 + 128)).toNat : Nat) : Int)) (y_add rfl rfl) (by rw [wrap_u8, toNat_ofNat8 (by omega)]; congr 1; omega)) ?_
      refine ops_t (wn rfl) rfl (t_lit [.int .u8 (((UInt8.ofNat (z % 128 + 128)).toNat : Nat) : Int)] Try.runUnderlying28 Try.sizeOf5 Try.zeroValue5 rfl (by decide) (by decide) rfl (by simp [Value.cells])) ?_
      rintro v12 _ ⟨rfl, _⟩
      refine ops_turn (retell 1 (g := row v12 1 (u8c [UInt8.ofNat (z % 128 + 128)])) rfl rfl) ?_
      refine ops_t (wn rfl) rfl (t_append (es := 1) 0 rfl Try.runUnderlying28 rfl Try.runUnderlying28 (.inr ⟨_, rfl⟩) Try.typeInfo5 rfl (by decide) Try.zeroValue5 rfl rfl rfl rfl (src_reads 1 rfl reads_row (u8c_ok _)) (by simp only [u8c_len, arrc_len, u8c_len, i64c_len, strc_len, List.length_append, List.length_cons, List.length_nil]; (show _ * 1 ≤ _); omega) (by simp only [u8c_len, arrc_len, u8c_len, i64c_len, strc_len, List.length_append, List.length_cons, List.length_nil]; unfold maxLen; omega)) ?_
      rintro v13 _ rfl
      refine ops_turn (retell 0 (g := row v13 1 (u8c (o ++ [UInt8.ofNat (z % 128 + 128)]))) rfl (congrArg (row _ _) (u8c_append _ _))) ?_
      refine ops_y (wn rfl) rfl (y_assign rfl) ?_
      refine ops_nil ?_
      refine goes_code ?_
      refine run_weak [(3, .int .u64 ((z : Nat) : Int)), (4, v13)] [0] [row v13 1 (u8c (o ++ [UInt8.ofNat (z % 128 + 128)]))] (vcons rfl (vcons rfl (vnil))) (by decide) rfl ?_
      refine run_region' ?_
      refine ops_y (wn rfl) rfl (y_move rfl) ?_
      refine ops_y (wn rfl) rfl (OpY.to (v' := .int .u64 (((z / 128) : Nat) : Int)) (y_quo rfl rfl (by omega)) (by rw [Int.tdiv_eq_ediv_of_nonneg (by omega), wrap_u64 (by omega) (by omega)]; rfl)) ?_
      refine ops_y (wn rfl) rfl (y_assign rfl) ?_
      refine ops_nil ?_
      refine goes_blk ?_
      refine goes_loop hL10 ⟨z / 128, v13, (o ++ [UInt8.ofNat (z % 128 + 128)])⟩ [0] ?_ (by decide) ?_ ?_ ?_
      · exact (vcons rfl (vcons rfl (vnil)))
      · rfl
      · try dsimp only
        exact ⟨by rw [List.append_assoc, List.singleton_append, ← encU_ge (by omega)]; exact hi, by omega⟩
      · try dsimp only
        omega
    · -- B3f
      replace hc11 := of_decide_eq_false hc11
      refine run_exit _ rfl ?_
      refine goes_code ?_
      refine run_seq ?_
      refine run_region' ?_
      refine ops_y (wn rfl) rfl (y_move rfl) ?_
      refine ops_y (wn rfl) rfl (y_move rfl) ?_
      refine ops_y (wn rfl) rfl (OpY.to (v' := .int .u8 (((UInt8.ofNat z).toNat : Nat) : Int)) (y_conv Try.runUnderlying58 Try.runUnderlying5 rfl) (by rw [wrap_u8, toNat_ofNat8 (by omega)]; congr 1; omega)) ?_
      refine ops_t (wn rfl) rfl (t_lit [.int .u8 (((UInt8.ofNat z).toNat : Nat) : Int)] Try.runUnderlying28 Try.sizeOf5 Try.zeroValue5 rfl (by decide) (by decide) rfl (by simp [Value.cells])) ?_
      rintro v14 _ ⟨rfl, _⟩
      refine ops_turn (retell 1 (g := row v14 1 (u8c [UInt8.ofNat z])) rfl rfl) ?_
      refine ops_t (wn rfl) rfl (t_append (es := 1) 0 rfl Try.runUnderlying28 rfl Try.runUnderlying28 (.inr ⟨_, rfl⟩) Try.typeInfo5 rfl (by decide) Try.zeroValue5 rfl rfl rfl rfl (src_reads 1 rfl reads_row (u8c_ok _)) (by simp only [u8c_len, arrc_len, u8c_len, i64c_len, strc_len, List.length_append, List.length_cons, List.length_nil]; (show _ * 1 ≤ _); omega) (by simp only [u8c_len, arrc_len, u8c_len, i64c_len, strc_len, List.length_append, List.length_cons, List.length_nil]; unfold maxLen; omega)) ?_
      rintro v15 _ rfl
      refine ops_turn (retell 0 (g := row v15 1 (u8c (o ++ [UInt8.ofNat z]))) rfl (congrArg (row _ _) (u8c_append _ _))) ?_
      refine ops_y (wn rfl) rfl (y_assign rfl) ?_
      refine ops_nil ?_
      refine goes_code ?_
      refine run_ret ?_
      refine fin_slots [2] [v15] [0] [row v15 1 (u8c (o ++ [UInt8.ofNat z]))] Try.results15 rfl (by decide) rfl ?_
      dsimp only [tup]
      rw [← encU_lt (by omega), hi]

theorem bytes_p (s : List UInt8) (hs : s.length ≤ 4294967296) :
    Meets Try.prog 16 [.string (bs s)] [] (fun v G => G = [row v 1 (u8c (encS s))]) := by
  have hl := (encI_len (n := (s.length : Int)) (by omega) (by omega)).2
  refine fn_of_run Try.func16 rfl Try.ntmps16 rfl (fun w0 o0 => ?_)
  refine run_seq ?_
  refine run_region' ?_
  refine ops_y (wn rfl) rfl (y_assign rfl) ?_
  refine ops_nil ?_
  refine goes_code ?_
  refine run_seq ?_
  refine run_region' ?_
  refine ops_y (wn rfl) rfl (y_move rfl) ?_
  refine ops_y (wn rfl) rfl (y_len_str rfl Try.runUnderlying9 rfl) ?_
  refine ops_t (wn rfl) rfl (t_call (vs := [.int .i64 ((s.length : Nat) : Int)]) (cs := []) [] rfl Try.call14 rfl (int_p ((s.length : Nat) : Int) (by first | omega | decide) (by first | omega | decide)) shows_nil (.inl rfl)) ?_
  rintro v1 _ ⟨_, rfl, rfl⟩
  refine ops_y (wn rfl) rfl (y_move rfl) ?_
  refine ops_t (wn rfl) rfl (t_append (es := 1) 0 rfl Try.runUnderlying28 rfl Try.runUnderlying9 (.inl rfl) Try.typeInfo5 rfl (by decide) Try.zeroValue5 rfl rfl rfl rfl (src_str _) (by simp only [u8c_len, arrc_len, u8c_len, i64c_len, strc_len, List.length_append, List.length_cons, List.length_nil]; (show _ * 1 ≤ _); omega) (by simp only [u8c_len, arrc_len, u8c_len, i64c_len, strc_len, List.length_append, List.length_cons, List.length_nil]; unfold maxLen; omega)) ?_
  rintro v2 _ rfl
  refine ops_turn (retell 0 (g := row v2 1 (u8c ((encI ((s.length : Nat) : Int)) ++ s))) rfl (congrArg (row _ _) (u8c_append _ _))) ?_
  refine ops_y (wn rfl) rfl (y_assign rfl) ?_
  refine ops_nil ?_
  refine goes_code ?_
  refine run_ret ?_
  refine fin_slots [2] [v2] [0] [row v2 1 (u8c ((encI ((s.length : Nat) : Int)) ++ s))] Try.results16 rfl (by decide) rfl ?_
  dsimp only [tup]
  rfl

theorem bytes_r (s : List UInt8) (hs : s.length ≤ 4294967296) :
    Meets Try.prog 17 [.string (bs s)] [] (fun v G => G = [row v 1 (u8c (encS s))]) := by
  have hl := (encI_len (n := (s.length : Int)) (by omega) (by omega)).2
  refine fn_of_run Try.func17 rfl Try.ntmps17 rfl (fun w0 o0 => ?_)
  refine run_seq ?_
  refine run_region' ?_
  refine ops_y (wn rfl) rfl (y_assign rfl) ?_
  refine ops_nil ?_
  refine goes_code ?_
  refine run_seq ?_
  refine run_region' ?_
  refine ops_y (wn rfl) rfl (y_move rfl) ?_
  refine ops_y (wn rfl) rfl (y_len_str rfl Try.runUnderlying9 rfl) ?_
  refine ops_t (wn rfl) rfl (t_call (vs := [.int .i64 ((s.length : Nat) : Int)]) (cs := []) [] rfl Try.call15 rfl (int_r ((s.length : Nat) : Int) (by first | omega | decide) (by first | omega | decide)) shows_nil (.inl rfl)) ?_
  rintro v1 _ ⟨_, rfl, rfl⟩
  refine ops_y (wn rfl) rfl (y_move rfl) ?_
  refine ops_t (wn rfl) rfl (t_append (es := 1) 0 rfl Try.runUnderlying28 rfl Try.runUnderlying9 (.inl rfl) Try.typeInfo5 rfl (by decide) Try.zeroValue5 rfl rfl rfl rfl (src_str _) (by simp only [u8c_len, arrc_len, u8c_len, i64c_len, strc_len, List.length_append, List.length_cons, List.length_nil]; (show _ * 1 ≤ _); omega) (by simp only [u8c_len, arrc_len, u8c_len, i64c_len, strc_len, List.length_append, List.length_cons, List.length_nil]; unfold maxLen; omega)) ?_
  rintro v2 _ rfl
  refine ops_turn (retell 0 (g := row v2 1 (u8c ((encI ((s.length : Nat) : Int)) ++ s))) rfl (congrArg (row _ _) (u8c_append _ _))) ?_
  refine ops_y (wn rfl) rfl (y_assign rfl) ?_
  refine ops_nil ?_
  refine goes_code ?_
  refine run_ret ?_
  refine fin_slots [2] [v2] [0] [row v2 1 (u8c ((encI ((s.length : Nat) : Int)) ++ s))] Try.results17 rfl (by decide) rfl ?_
  dsimp only [tup]
  rfl

theorem same_r (va vb : Value) (a b : List UInt8) :
    Meets Try.prog 13 [va, vb] [ro va 1 (u8c a), ro vb 1 (u8c b)] (fun v G => v = .bool (decide (a = b)) ∧ G = []) := by
  refine fn_of_run Try.func13 rfl Try.ntmps13 rfl (fun w0 o0 => ?_)
  refine run_seq ?_
  refine run_region' ?_
  refine ops_y (wn rfl) rfl (y_assign rfl) ?_
  refine ops_nil ?_
  refine goes_code ?_
  refine run_seq ?_
  refine run_region' ?_
  refine ops_y (wn rfl) rfl (y_move rfl) ?_
  refine ops_y (wn rfl) rfl (y_b2s (l := a) 0 Try.runUnderlying28 Try.runUnderlying5 Try.runUnderlying9 rfl rfl reads_ro) ?_
  refine ops_y (wn rfl) rfl (y_move rfl) ?_
  refine ops_y (wn rfl) rfl (y_b2s (l := b) 1 Try.runUnderlying28 Try.runUnderlying5 Try.runUnderlying9 rfl rfl reads_ro) ?_
  refine ops_y (wn rfl) rfl (y_seql rfl rfl) ?_
  refine ops_y (wn rfl) rfl (y_assign rfl) ?_
  refine ops_nil ?_
  refine goes_code ?_
  refine run_ret ?_
  refine fin_slots [4] [.bool (decide (a = b))] [] [] Try.results13 rfl (by decide) rfl ?_
  dsimp only [tup]
  exact ⟨rfl, rfl⟩

theorem clone8 (va : Value) (a : List UInt8) (ha : a.length ≤ 4294967296) :
    Meets Try.prog 48 [va] [ro va 1 (u8c a)] (fun v G => G = [row v 1 (u8c a)]) := by
  refine fn_of_run Try.func48 rfl Try.ntmps48 rfl (fun w0 o0 => ?_)
  refine run_seq ?_
  refine run_region' ?_
  refine ops_y (wn rfl) rfl (y_assign rfl) ?_
  refine ops_nil ?_
  refine goes_code ?_
  refine run_seq ?_
  refine run_seq ?_
  refine run_region' ?_
  refine ops_y (wn rfl) rfl (y_move rfl) ?_
  refine ops_t (wn rfl) rfl (t_isnil 0 Try.runUnderlying28 rfl rfl rfl reads_ro) ?_
  rintro _ _ ⟨b1, rfl, rfl, hb1⟩
  refine ops_nil ?_
  refine goes_code ?_
  refine run_cond _ rfl (fun hc2 => ?_) (fun hc2 => ?_)
  · -- B1t
    skip
    refine run_seq ?_
    refine run_region' ?_
    refine ops_y (wn rfl) rfl (y_assign rfl) ?_
    refine ops_nil ?_
    refine goes_code ?_
    refine run_ret ?_
    refine fin_turn (nilrow 1) ?_
    refine fin_turn (retell 1 (g := row (.slice none 0 0) 1 (u8c [])) rfl rfl) ?_
    refine fin_slots [2] [(.slice none 0 0)] [1] [row (.slice none 0 0) 1 (u8c [])] Try.results48 rfl (by decide) rfl ?_
    dsimp only [tup]
    have h0 : a = [] := by have := hb1 hc2; simpa [u8c] using this
    rw [h0]
  · -- B1f
    skip
    refine run_skip ?_
    refine goes_code ?_
    refine run_seq ?_
    refine run_region' ?_
    refine ops_t (wn rfl) rfl (t_lit [] Try.runUnderlying28 Try.sizeOf5 Try.zeroValue5 rfl (by decide) (by decide) rfl (by simp [Value.cells])) ?_
    rintro v3 _ ⟨rfl, _⟩
    refine ops_turn (retell 1 (g := row v3 1 (u8c [])) rfl rfl) ?_
    refine ops_y (wn rfl) rfl (y_move rfl) ?_
    refine ops_t (wn rfl) rfl (t_append (es := 1) 1 rfl Try.runUnderlying28 rfl Try.runUnderlying28 (.inr ⟨_, rfl⟩) Try.typeInfo5 rfl (by decide) Try.zeroValue5 rfl rfl rfl rfl (src_reads 0 rfl reads_ro (u8c_ok _)) (by simp only [u8c_len, arrc_len, u8c_len, i64c_len, strc_len, List.length_append, List.length_cons, List.length_nil]; (show _ * 1 ≤ _); omega) (by simp only [u8c_len, arrc_len, u8c_len, i64c_len, strc_len, List.length_append, List.length_cons, List.length_nil]; unfold maxLen; omega)) ?_
    rintro v4 _ rfl
    refine ops_turn (retell 1 (g := row v4 1 (u8c a)) rfl (congrArg (row _ _) (u8c_append _ _))) ?_
    refine ops_y (wn rfl) rfl (y_assign rfl) ?_
    refine ops_nil ?_
    refine goes_code ?_
    refine run_ret ?_
    refine fin_slots [2] [v4] [1] [row v4 1 (u8c a)] Try.results48 rfl (by decide) rfl ?_
    dsimp only [tup]
    skip

theorem digest_p (d : List UInt8) (hd : d.length = 16) :
    Meets Try.prog 41 [.agg (arr8 d).toArray] [] (fun v G => G = [row v 1 (u8c d)]) := by
  refine fn_of_run Try.func41 rfl Try.ntmps41 rfl (fun w0 o0 => ?_)
  refine run_seq ?_
  refine run_region' ?_
  refine ops_t (wn rfl) rfl (t_box rfl) ?_
  rintro _ _ ⟨b1, rfl, rfl⟩
  refine ops_turn (retell 0 (g := box b1 (arr8 d)) rfl rfl) ?_
  refine ops_y (wn rfl) rfl (y_assign rfl) ?_
  refine ops_nil ?_
  refine goes_code ?_
  refine run_seq ?_
  refine run_region' ?_
  refine ops_y (wn rfl) rfl (y_slice_box Try.runUnderlying57 Try.sizeOf5 rfl) ?_
  refine ops_t (wn rfl) rfl (t_call (vs := [.slice (some ⟨b1, 0, none⟩) 16 16]) (cs := []) [⟨0, true⟩] rfl Try.call48 rfl (clone8 (.slice (some ⟨b1, 0, none⟩) 16 16) _ (by have := hd; omega)) (shows_cons 0 true rfl (views_reads (reads_arr8 16 hd (by decide))) shows_nil) (.inr (by rintro _ _ rfl g hg; first | (cases hg; done) | (simp only [List.mem_cons, List.not_mem_nil, or_false] at hg; first | (subst hg; first | exact strict_row | exact strict_box) | (rcases hg with rfl | rfl <;> first | exact strict_row | exact strict_box))))) ?_
  rintro v2 _ ⟨_, rfl, rfl⟩
  refine ops_y (wn rfl) rfl (y_assign rfl) ?_
  refine ops_nil ?_
  refine goes_code ?_
  refine run_ret ?_
  refine fin_slots [2] [v2] [1] [row v2 1 (u8c d)] Try.results41 rfl (by decide) rfl ?_
  dsimp only [tup]
  skip

structure ints_l_S0 where
  i : Nat
  v : Value
  o : List UInt8
theorem ints_l (lv : Value) (l : List Int) (hl : l.length ≤ 4294967296) (hn : ∀ n ∈ l, -9223372036854775808 ≤ n ∧ n ≤ 9223372036854775807) (hr : (encL encI l).length ≤ 1099511627776) :
    Meets Try.prog 38 [lv, .func (.func 14) #[] #[]] [ro lv 1 (i64c l)] (fun v G => G = [row v 1 (u8c (encL encI l))]) := by
  have hll := encI_len (n := (l.length : Int)) (by omega) (by omega)
  refine fn_of_run Try.func38 rfl Try.ntmps38 rfl (fun w0 o0 => ?_)
  refine run_seq ?_
  refine run_region' ?_
  refine ops_y (wn rfl) rfl (y_assign rfl) ?_
  refine ops_nil ?_
  refine goes_code ?_
  refine run_seq ?_
  refine run_region' ?_
  refine ops_y (wn rfl) rfl (y_move rfl) ?_
  refine ops_y (wn rfl) rfl ((y_len 0 rfl Try.runUnderlying22 rfl rfl reads_ro).to (congrArg (fun n : Nat => Value.int .i64 (n : Int)) (i64c_len _))) ?_
  refine ops_t (wn rfl) rfl (t_call (vs := [.int .i64 ((l.length : Nat) : Int)]) (cs := []) [] rfl Try.call14 rfl (int_p ((l.length : Nat) : Int) (by first | omega | decide) (by first | omega | decide)) shows_nil (.inl rfl)) ?_
  rintro v1 _ ⟨_, rfl, rfl⟩
  refine ops_y (wn rfl) rfl (y_assign rfl) ?_
  refine ops_nil ?_
  refine goes_code ?_
  refine run_seq ?_
  refine run_seq ?_
  refine run_region' ?_
  refine ops_y (wn rfl) rfl (y_move rfl) ?_
  refine ops_y (wn rfl) rfl ((y_len 0 rfl Try.runUnderlying22 rfl rfl reads_ro).to (congrArg (fun n : Nat => Value.int .i64 (n : Int)) (i64c_len _))) ?_
  refine ops_y (wn rfl) rfl (y_move rfl) ?_
  refine ops_nil ?_
  refine goes_code ?_
  refine run_block ?_
  refine run_loop ints_l_S0 (fun s => [(1, .func (.func 14) #[] #[]), (11, lv), (12, .int .i64 ((l.length : Nat) : Int)), (13, .int .i64 ((s.i : Nat) : Int)), (5, s.v)]) (fun s => [ro lv 1 (i64c l), row s.v 1 (u8c s.o)]) (fun s => s.i ≤ l.length ∧ s.o = encI l.length ++ (l.take s.i).flatMap encI) (fun s => l.length - s.i) [0, 1] ⟨0, v1, encI l.length⟩ ?_ (by decide) ?_ ?_ ?_
  · exact (vcons rfl (vcons rfl (vcons rfl (vcons rfl (vcons rfl (vnil))))))
  · rfl
  · try dsimp only
    exact ⟨Nat.zero_le _, by simp⟩
  rintro ⟨i, v, o⟩ ⟨hi, ho⟩ L2 hL3
  dsimp only at *
  refine run_seq ?_
  refine run_region' ?_
  refine ops_y (wn rfl) rfl (y_lss rfl rfl) ?_
  refine ops_nil ?_
  refine goes_code ?_
  refine run_seq ?_
  refine run_cond _ rfl (fun hc4 => ?_) (fun hc4 => ?_)
  · -- B1t
    replace hc4 := of_decide_eq_true hc4
    refine run_skip ?_
    refine goes_code ?_
    refine run_seq ?_
    refine run_block ?_
    refine run_seq ?_
    refine run_region' ?_
    refine ops_y (wn rfl) rfl (y_indexAddr (n := i) 0 Try.runUnderlying22 Try.sizeOf3 rfl rfl rfl reads_ro (by rw [i64c_len]; omega)) ?_
    refine ops_y (wn rfl) rfl (y_load_elem (i := i) 0 Try.isAgg3 rfl rfl reads_ro (i64c_get (by omega))) ?_
    refine ops_y (wn rfl) rfl (y_assign rfl) ?_
    refine ops_nil ?_
    refine goes_code ?_
    refine run_region' ?_
    have hroom := flat_room encI (l := l) (i := i) (by omega)
    rw [← ho] at hroom
    have hx := hn _ (List.getElem_mem (show i < l.length by omega))
    refine ops_y (wn rfl) rfl (y_move rfl) ?_
    refine ops_y (wn rfl) rfl (y_move rfl) ?_
    refine ops_y (wn rfl) rfl (y_move rfl) ?_
    refine ops_t (wn rfl) rfl (t_call (vs := [.int .i64 (l[i])]) (cs := []) [] rfl Try.call14 rfl (int_p (l[i]) (by first | omega | decide) (by first | omega | decide)) shows_nil (.inl rfl)) ?_
    rintro v5 _ ⟨_, rfl, rfl⟩
    refine ops_t (wn rfl) rfl (t_append (es := 1) 1 rfl Try.runUnderlying28 rfl Try.runUnderlying28 (.inr ⟨_, rfl⟩) Try.typeInfo5 rfl (by decide) Try.zeroValue5 rfl rfl rfl rfl (src_reads 2 rfl reads_row (u8c_ok _)) (by simp only [u8c_len, arrc_len, u8c_len, i64c_len, strc_len, List.length_append, List.length_cons, List.length_nil]; (show _ * 1 ≤ _); omega) (by simp only [u8c_len, arrc_len, u8c_len, i64c_len, strc_len, List.length_append, List.length_cons, List.length_nil]; unfold maxLen; omega)) ?_
    rintro v6 _ rfl
    refine ops_turn (retell 1 (g := row v6 1 (u8c (o ++ (encI (l[i]))))) rfl (congrArg (row _ _) (u8c_append _ _))) ?_
    refine ops_y (wn rfl) rfl (y_assign rfl) ?_
    refine ops_nil ?_
    refine goes_blk ?_
    refine goes_code ?_
    refine run_weak [(1, .func (.func 14) #[] #[]), (11, lv), (12, .int .i64 ((l.length : Nat) : Int)), (13, .int .i64 ((i : Nat) : Int)), (5, v6)] [0, 1] [ro lv 1 (i64c l), row v6 1 (u8c (o ++ (encI (l[i]))))] (vcons rfl (vcons rfl (vcons rfl (vcons rfl (vcons rfl (vnil)))))) (by decide) rfl ?_
    refine run_region' ?_
    refine ops_y (wn rfl) rfl ((y_add rfl rfl).to (v64n (a := i) (b := 1) (by omega))) ?_
    refine ops_y (wn rfl) rfl (y_move rfl) ?_
    refine ops_nil ?_
    refine goes_loop hL3 ⟨i + 1, v6, (o ++ (encI (l[i])))⟩ [0, 1] ?_ (by decide) ?_ ?_ ?_
    · exact (vcons rfl (vcons rfl (vcons rfl (vcons rfl (vcons rfl (vnil))))))
    · rfl
    · try dsimp only
      exact ⟨by omega, by rw [flat_take encI (by omega), ho, List.append_assoc]⟩
    · try dsimp only
      omega
  · -- B1f
    replace hc4 := of_decide_eq_false hc4
    refine run_exit _ rfl ?_
    refine goes_code ?_
    refine run_seq ?_
    refine run_region' ?_
    refine ops_y (wn rfl) rfl (y_move rfl) ?_
    refine ops_y (wn rfl) rfl (y_assign rfl) ?_
    refine ops_nil ?_
    refine goes_code ?_
    refine run_ret ?_
    refine fin_slots [4] [v] [1] [row v 1 (u8c o)] Try.results38 rfl (by decide) rfl ?_
    dsimp only [tup]
    rw [ho, flat_all encI (by omega)]

structure strs_l_S0 where
  i : Nat
  v : Value
  o : List UInt8
theorem strs_l (lv : Value) (l : List (List UInt8)) (hl : l.length ≤ 4294967296) (hn : ∀ s ∈ l, s.length ≤ 4294967296) (hr : (encL encS l).length ≤ 1099511627776) :
    Meets Try.prog 39 [lv, .func (.func 16) #[] #[]] [ro lv 1 (strc l)] (fun v G => G = [row v 1 (u8c (encL encS l))]) := by
  have hll := encI_len (n := (l.length : Int)) (by omega) (by omega)
  refine fn_of_run Try.func39 rfl Try.ntmps39 rfl (fun w0 o0 => ?_)
  refine run_seq ?_
  refine run_region' ?_
  refine ops_y (wn rfl) rfl (y_assign rfl) ?_
  refine ops_nil ?_
  refine goes_code ?_
  refine run_seq ?_
  refine run_region' ?_
  refine ops_y (wn rfl) rfl (y_move rfl) ?_
  refine ops_y (wn rfl) rfl ((y_len 0 rfl Try.runUnderlying23 rfl rfl reads_ro).to (congrArg (fun n : Nat => Value.int .i64 (n : Int)) (strc_len _))) ?_
  refine ops_t (wn rfl) rfl (t_call (vs := [.int .i64 ((l.length : Nat) : Int)]) (cs := []) [] rfl Try.call14 rfl (int_p ((l.length : Nat) : Int) (by first | omega | decide) (by first | omega | decide)) shows_nil (.inl rfl)) ?_
  rintro v1 _ ⟨_, rfl, rfl⟩
  refine ops_y (wn rfl) rfl (y_assign rfl) ?_
  refine ops_nil ?_
  refine goes_code ?_
  refine run_seq ?_
  refine run_seq ?_
  refine run_region' ?_
  refine ops_y (wn rfl) rfl (y_move rfl) ?_
  refine ops_y (wn rfl) rfl ((y_len 0 rfl Try.runUnderlying23 rfl rfl reads_ro).to (congrArg (fun n : Nat => Value.int .i64 (n : Int)) (strc_len _))) ?_
  refine ops_y (wn rfl) rfl (y_move rfl) ?_
  refine ops_nil ?_
  refine goes_code ?_
  refine run_block ?_
  refine run_loop strs_l_S0 (fun s => [(1, .func (.func 16) #[] #[]), (11, lv), (12, .int .i64 ((l.length : Nat) : Int)), (13, .int .i64 ((s.i : Nat) : Int)), (5, s.v)]) (fun s => [ro lv 1 (strc l), row s.v 1 (u8c s.o)]) (fun s => s.i ≤ l.length ∧ s.o = encI l.length ++ (l.take s.i).flatMap encS) (fun s => l.length - s.i) [0, 1] ⟨0, v1, encI l.length⟩ ?_ (by decide) ?_ ?_ ?_
  · exact (vcons rfl (vcons rfl (vcons rfl (vcons rfl (vcons rfl (vnil))))))
  · rfl
  · try dsimp only
    exact ⟨Nat.zero_le _, by simp⟩
  rintro ⟨i, v, o⟩ ⟨hi, ho⟩ L2 hL3
  dsimp only at *
  refine run_seq ?_
  refine run_region' ?_
  refine ops_y (wn rfl) rfl (y_lss rfl rfl) ?_
  refine ops_nil ?_
  refine goes_code ?_
  refine run_seq ?_
  refine run_cond _ rfl (fun hc4 => ?_) (fun hc4 => ?_)
  · -- B1t
    replace hc4 := of_decide_eq_true hc4
    refine run_skip ?_
    refine goes_code ?_
    refine run_seq ?_
    refine run_block ?_
    refine run_seq ?_
    refine run_region' ?_
    refine ops_y (wn rfl) rfl (y_indexAddr (n := i) 0 Try.runUnderlying23 Try.sizeOf9 rfl rfl rfl reads_ro (by rw [strc_len]; omega)) ?_
    refine ops_y (wn rfl) rfl (y_load_elem (i := i) 0 Try.isAgg9 rfl rfl reads_ro (strc_get (by omega))) ?_
    refine ops_y (wn rfl) rfl (y_assign rfl) ?_
    refine ops_nil ?_
    refine goes_code ?_
    refine run_region' ?_
    have hroom := flat_room encS (l := l) (i := i) (by omega)
    rw [← ho] at hroom
    have hx := hn _ (List.getElem_mem (show i < l.length by omega))
    refine ops_y (wn rfl) rfl (y_move rfl) ?_
    refine ops_y (wn rfl) rfl (y_move rfl) ?_
    refine ops_y (wn rfl) rfl (y_move rfl) ?_
    refine ops_t (wn rfl) rfl (t_call (vs := [.string (bs (l[i]))]) (cs := []) [] rfl Try.call16 rfl (bytes_p (l[i]) (by first | omega | (simp only [List.length_drop, List.length_take, List.length_append]; omega) | (simp; done))) shows_nil (.inl rfl)) ?_
    rintro v5 _ ⟨_, rfl, rfl⟩
    refine ops_t (wn rfl) rfl (t_append (es := 1) 1 rfl Try.runUnderlying28 rfl Try.runUnderlying28 (.inr ⟨_, rfl⟩) Try.typeInfo5 rfl (by decide) Try.zeroValue5 rfl rfl rfl rfl (src_reads 2 rfl reads_row (u8c_ok _)) (by simp only [u8c_len, arrc_len, u8c_len, i64c_len, strc_len, List.length_append, List.length_cons, List.length_nil]; (show _ * 1 ≤ _); omega) (by simp only [u8c_len, arrc_len, u8c_len, i64c_len, strc_len, List.length_append, List.length_cons, List.length_nil]; unfold maxLen; omega)) ?_
    rintro v6 _ rfl
    refine ops_turn (retell 1 (g := row v6 1 (u8c (o ++ (encS (l[i]))))) rfl (congrArg (row _ _) (u8c_append _ _))) ?_
    refine ops_y (wn rfl) rfl (y_assign rfl) ?_
    refine ops_nil ?_
    refine goes_blk ?_
    refine goes_code ?_
    refine run_weak [(1, .func (.func 16) #[] #[]), (11, lv), (12, .int .i64 ((l.length : Nat) : Int)), (13, .int .i64 ((i : Nat) : Int)), (5, v6)] [0, 1] [ro lv 1 (strc l), row v6 1 (u8c (o ++ (encS (l[i]))))] (vcons rfl (vcons rfl (vcons rfl (vcons rfl (vcons rfl (vnil)))))) (by decide) rfl ?_
    refine run_region' ?_
    refine ops_y (wn rfl) rfl ((y_add rfl rfl).to (v64n (a := i) (b := 1) (by omega))) ?_
    refine ops_y (wn rfl) rfl (y_move rfl) ?_
    refine ops_nil ?_
    refine goes_loop hL3 ⟨i + 1, v6, (o ++ (encS (l[i])))⟩ [0, 1] ?_ (by decide) ?_ ?_ ?_
    · exact (vcons rfl (vcons rfl (vcons rfl (vcons rfl (vcons rfl (vnil))))))
    · rfl
    · try dsimp only
      exact ⟨by omega, by rw [flat_take encS (by omega), ho, List.append_assoc]⟩
    · try dsimp only
      omega
  · -- B1f
    replace hc4 := of_decide_eq_false hc4
    refine run_exit _ rfl ?_
    refine goes_code ?_
    refine run_seq ?_
    refine run_region' ?_
    refine ops_y (wn rfl) rfl (y_move rfl) ?_
    refine ops_y (wn rfl) rfl (y_assign rfl) ?_
    refine ops_nil ?_
    refine goes_code ?_
    refine run_ret ?_
    refine fin_slots [4] [v] [1] [row v 1 (u8c o)] Try.results39 rfl (by decide) rfl ?_
    dsimp only [tup]
    rw [ho, flat_all encS (by omega)]

structure digs_l_S0 where
  i : Nat
  v : Value
  o : List UInt8
theorem digs_l (lv : Value) (l : List (List UInt8)) (hl : l.length ≤ 4294967296) (hn : ∀ d ∈ l, d.length = 16) (hr : (encL (fun d => d) l).length ≤ 1099511627776) :
    Meets Try.prog 40 [lv, .func (.func 41) #[] #[]] [ro lv 16 (arrc l)] (fun v G => G = [row v 1 (u8c (encL (fun d => d) l))]) := by
  have hll := encI_len (n := (l.length : Int)) (by omega) (by omega)
  refine fn_of_run Try.func40 rfl Try.ntmps40 rfl (fun w0 o0 => ?_)
  refine run_seq ?_
  refine run_region' ?_
  refine ops_y (wn rfl) rfl (y_assign rfl) ?_
  refine ops_nil ?_
  refine goes_code ?_
  refine run_seq ?_
  refine run_region' ?_
  refine ops_y (wn rfl) rfl (y_move rfl) ?_
  refine ops_y (wn rfl) rfl ((y_len 0 rfl Try.runUnderlying24 rfl rfl reads_ro).to (congrArg (fun n : Nat => Value.int .i64 (n : Int)) (arrc_len _))) ?_
  refine ops_t (wn rfl) rfl (t_call (vs := [.int .i64 ((l.length : Nat) : Int)]) (cs := []) [] rfl Try.call14 rfl (int_p ((l.length : Nat) : Int) (by first | omega | decide) (by first | omega | decide)) shows_nil (.inl rfl)) ?_
  rintro v1 _ ⟨_, rfl, rfl⟩
  refine ops_y (wn rfl) rfl (y_assign rfl) ?_
  refine ops_nil ?_
  refine goes_code ?_
  refine run_seq ?_
  refine run_seq ?_
  refine run_region' ?_
  refine ops_y (wn rfl) rfl (y_move rfl) ?_
  refine ops_y (wn rfl) rfl ((y_len 0 rfl Try.runUnderlying24 rfl rfl reads_ro).to (congrArg (fun n : Nat => Value.int .i64 (n : Int)) (arrc_len _))) ?_
  refine ops_y (wn rfl) rfl (y_move rfl) ?_
  refine ops_nil ?_
  refine goes_code ?_
  refine run_block ?_
  refine run_loop digs_l_S0 (fun s => [(1, .func (.func 41) #[] #[]), (11, lv), (12, .int .i64 ((l.length : Nat) : Int)), (13, .int .i64 ((s.i : Nat) : Int)), (5, s.v)]) (fun s => [ro lv 16 (arrc l), row s.v 1 (u8c s.o)]) (fun s => s.i ≤ l.length ∧ s.o = encI l.length ++ (l.take s.i).flatMap (fun d => d)) (fun s => l.length - s.i) [0, 1] ⟨0, v1, encI l.length⟩ ?_ (by decide) ?_ ?_ ?_
  · exact (vcons rfl (vcons rfl (vcons rfl (vcons rfl (vcons rfl (vnil))))))
  · rfl
  · try dsimp only
    exact ⟨Nat.zero_le _, by simp⟩
  rintro ⟨i, v, o⟩ ⟨hi, ho⟩ L2 hL3
  dsimp only at *
  refine run_seq ?_
  refine run_region' ?_
  refine ops_y (wn rfl) rfl (y_lss rfl rfl) ?_
  refine ops_nil ?_
  refine goes_code ?_
  refine run_seq ?_
  refine run_cond _ rfl (fun hc4 => ?_) (fun hc4 => ?_)
  · -- B1t
    replace hc4 := of_decide_eq_true hc4
    refine run_skip ?_
    refine goes_code ?_
    refine run_seq ?_
    refine run_block ?_
    refine run_seq ?_
    refine run_region' ?_
    refine ops_y (wn rfl) rfl (y_indexAddr (n := i) 0 Try.runUnderlying24 Try.sizeOf57 rfl rfl rfl reads_ro (by rw [arrc_len]; omega)) ?_
    refine ops_y (wn rfl) rfl (y_load_agg (i := i) 0 Try.isAgg57 Try.sizeOf57 rfl rfl reads_ro (arrc_get (by omega))) ?_
    refine ops_t (wn rfl) rfl (t_alloc Try.zeroValue57) ?_
    rintro _ _ ⟨b5, rfl, rfl⟩
    refine ops_t (wn rfl) rfl (t_store_all (c := arr8 (l[i])) 2 Try.sizeOf57 rfl rfl rfl (by rw [arr8_len]; exact (hn _ (List.getElem_mem _))) (by first | rfl | (rw [arr8_len]; exact rfl)) (arr8_one _)) ?_
    rintro _ _ ⟨rfl, rfl⟩
    refine ops_nil ?_
    refine goes_code ?_
    refine run_region' ?_
    have hroom := flat_room (fun d => d) (l := l) (i := i) (by omega)
    rw [← ho] at hroom
    refine ops_y (wn rfl) rfl (y_move rfl) ?_
    refine ops_y (wn rfl) rfl (y_move rfl) ?_
    refine ops_y (wn rfl) rfl (y_load_all 2 Try.isAgg57 Try.sizeOf57 rfl rfl (by rw [arr8_len]; exact (hn _ (List.getElem_mem _)))) ?_
    refine ops_t (wn rfl) rfl (t_call (vs := [.agg (arr8 (l[i])).toArray]) (cs := []) [] rfl Try.call41 rfl (digest_p (l[i]) (hn _ (List.getElem_mem _))) shows_nil (.inl rfl)) ?_
    rintro v6 _ ⟨_, rfl, rfl⟩
    refine ops_t (wn rfl) rfl (t_append (es := 1) 1 rfl Try.runUnderlying28 rfl Try.runUnderlying28 (.inr ⟨_, rfl⟩) Try.typeInfo5 rfl (by decide) Try.zeroValue5 rfl rfl rfl rfl (src_reads 3 rfl reads_row (u8c_ok _)) (by simp only [u8c_len, arrc_len, u8c_len, i64c_len, strc_len, List.length_append, List.length_cons, List.length_nil]; (show _ * 1 ≤ _); omega) (by simp only [u8c_len, arrc_len, u8c_len, i64c_len, strc_len, List.length_append, List.length_cons, List.length_nil]; unfold maxLen; omega)) ?_
    rintro v7 _ rfl
    refine ops_turn (retell 1 (g := row v7 1 (u8c (o ++ (l[i])))) rfl (congrArg (row _ _) (u8c_append _ _))) ?_
    refine ops_y (wn rfl) rfl (y_assign rfl) ?_
    refine ops_nil ?_
    refine goes_blk ?_
    refine goes_code ?_
    refine run_weak [(1, .func (.func 41) #[] #[]), (11, lv), (12, .int .i64 ((l.length : Nat) : Int)), (13, .int .i64 ((i : Nat) : Int)), (5, v7)] [0, 1] [ro lv 16 (arrc l), row v7 1 (u8c (o ++ (l[i])))] (vcons rfl (vcons rfl (vcons rfl (vcons rfl (vcons rfl (vnil)))))) (by decide) rfl ?_
    refine run_region' ?_
    refine ops_y (wn rfl) rfl ((y_add rfl rfl).to (v64n (a := i) (b := 1) (by omega))) ?_
    refine ops_y (wn rfl) rfl (y_move rfl) ?_
    refine ops_nil ?_
    refine goes_loop hL3 ⟨i + 1, v7, (o ++ (l[i]))⟩ [0, 1] ?_ (by decide) ?_ ?_ ?_
    · exact (vcons rfl (vcons rfl (vcons rfl (vcons rfl (vcons rfl (vnil))))))
    · rfl
    · try dsimp only
      exact ⟨by omega, by rw [flat_take (fun d => d) (by omega), ho, List.append_assoc]⟩
    · try dsimp only
      omega
  · -- B1f
    replace hc4 := of_decide_eq_false hc4
    refine run_exit _ rfl ?_
    refine goes_code ?_
    refine run_seq ?_
    refine run_region' ?_
    refine ops_y (wn rfl) rfl (y_move rfl) ?_
    refine ops_y (wn rfl) rfl (y_assign rfl) ?_
    refine ops_nil ?_
    refine goes_code ?_
    refine run_ret ?_
    refine fin_slots [4] [v] [1] [row v 1 (u8c o)] Try.results40 rfl (by decide) rfl ?_
    dsimp only [tup]
    rw [ho, flat_all (fun d => d) (by omega)]

theorem ints_p (lv : Value) (l : List Int) (hl : l.length ≤ 4294967296) (hn : ∀ n ∈ l, -9223372036854775808 ≤ n ∧ n ≤ 9223372036854775807) (hr : (encL encI l).length ≤ 1099511627776) :
    Meets Try.prog 18 [lv] [ro lv 1 (i64c l)] (fun v G => G = [row v 1 (u8c (encL encI l))]) := by
  have hll := encI_len (n := (l.length : Int)) (by omega) (by omega)
  refine fn_of_run Try.func18 rfl Try.ntmps18 rfl (fun w0 o0 => ?_)
  refine run_seq ?_
  refine run_region' ?_
  refine ops_y (wn rfl) rfl (y_assign rfl) ?_
  refine ops_nil ?_
  refine goes_code ?_
  refine run_seq ?_
  refine run_region' ?_
  refine ops_y (wn rfl) rfl (y_move rfl) ?_
  refine ops_t (wn rfl) rfl (t_call (vs := [lv, .func (.func 14) #[] #[]]) (cs := []) [⟨0, false⟩] rfl Try.call38 rfl (ints_l lv l (by first | omega | (simp; done)) (by assumption) (by assumption)) (shows_cons 0 false rfl views_ro shows_nil) (.inl rfl)) ?_
  rintro v1 _ ⟨_, rfl, rfl⟩
  refine ops_y (wn rfl) rfl (y_assign rfl) ?_
  refine ops_nil ?_
  refine goes_code ?_
  refine run_ret ?_
  refine fin_slots [2] [v1] [1] [row v1 1 (u8c (encL encI l))] Try.results18 rfl (by decide) rfl ?_
  dsimp only [tup]
  skip

structure ints_r_S0 where
  i : Nat
  v : Value
  o : List UInt8
theorem ints_r (lv : Value) (l : List Int) (hl : l.length ≤ 4294967296) (hn : ∀ n ∈ l, -9223372036854775808 ≤ n ∧ n ≤ 9223372036854775807) (hr : (encL encI l).length ≤ 1099511627776) :
    Meets Try.prog 19 [lv] [ro lv 1 (i64c l)] (fun v G => G = [row v 1 (u8c (encL encI l))]) := by
  have hll := encI_len (n := (l.length : Int)) (by omega) (by omega)
  refine fn_of_run Try.func19 rfl Try.ntmps19 rfl (fun w0 o0 => ?_)
  refine run_seq ?_
  refine run_region' ?_
  refine ops_y (wn rfl) rfl (y_assign rfl) ?_
  refine ops_nil ?_
  refine goes_code ?_
  refine run_seq ?_
  refine run_region' ?_
  refine ops_y (wn rfl) rfl (y_move rfl) ?_
  refine ops_y (wn rfl) rfl ((y_len 0 rfl Try.runUnderlying22 rfl rfl reads_ro).to (congrArg (fun n : Nat => Value.int .i64 (n : Int)) (i64c_len _))) ?_
  refine ops_t (wn rfl) rfl (t_call (vs := [.int .i64 ((l.length : Nat) : Int)]) (cs := []) [] rfl Try.call15 rfl (int_r ((l.length : Nat) : Int) (by first | omega | decide) (by first | omega | decide)) shows_nil (.inl rfl)) ?_
  rintro v1 _ ⟨_, rfl, rfl⟩
  refine ops_y (wn rfl) rfl (y_assign rfl) ?_
  refine ops_nil ?_
  refine goes_code ?_
  refine run_seq ?_
  refine run_seq ?_
  refine run_region' ?_
  refine ops_y (wn rfl) rfl (y_assign rfl) ?_
  refine ops_nil ?_
  refine goes_code ?_
  refine run_block ?_
  refine run_loop ints_r_S0 (fun s => [(0, lv), (4, .int .i64 ((s.i : Nat) : Int)), (3, s.v)]) (fun s => [ro lv 1 (i64c l), row s.v 1 (u8c s.o)]) (fun s => s.i ≤ l.length ∧ s.o = encI l.length ++ (l.take s.i).flatMap encI) (fun s => l.length - s.i) [0, 1] ⟨0, v1, encI l.length⟩ ?_ (by decide) ?_ ?_ ?_
  · exact (vcons rfl (vcons rfl (vcons rfl (vnil))))
  · rfl
  · try dsimp only
    exact ⟨Nat.zero_le _, by simp⟩
  rintro ⟨i, v, o⟩ ⟨hi, ho⟩ L2 hL3
  dsimp only at *
  refine run_seq ?_
  refine run_seq ?_
  refine run_region' ?_
  refine ops_y (wn rfl) rfl (y_move rfl) ?_
  refine ops_y (wn rfl) rfl (y_move rfl) ?_
  refine ops_y (wn rfl) rfl ((y_len 0 rfl Try.runUnderlying22 rfl rfl reads_ro).to (congrArg (fun n : Nat => Value.int .i64 (n : Int)) (i64c_len _))) ?_
  refine ops_y (wn rfl) rfl (y_lss rfl rfl) ?_
  refine ops_nil ?_
  refine goes_code ?_
  refine run_cond _ rfl (fun hc4 => ?_) (fun hc4 => ?_)
  · -- B1t
    replace hc4 := of_decide_eq_true hc4
    refine run_skip ?_
    refine goes_code ?_
    refine run_seq ?_
    refine run_block ?_
    refine run_region' ?_
    have hroom := flat_room encI (l := l) (i := i) (by omega)
    rw [← ho] at hroom
    have hx := hn _ (List.getElem_mem (show i < l.length by omega))
    refine ops_y (wn rfl) rfl (y_move rfl) ?_
    refine ops_y (wn rfl) rfl (y_move rfl) ?_
    refine ops_y (wn rfl) rfl (y_move rfl) ?_
    refine ops_y (wn rfl) rfl (y_indexAddr (n := i) 0 Try.runUnderlying22 Try.sizeOf3 rfl rfl rfl reads_ro (by rw [i64c_len]; omega)) ?_
    refine ops_y (wn rfl) rfl (y_load_elem (i := i) 0 Try.isAgg3 rfl rfl reads_ro (i64c_get (by omega))) ?_
    refine ops_t (wn rfl) rfl (t_call (vs := [.int .i64 (l[i])]) (cs := []) [] rfl Try.call15 rfl (int_r (l[i]) (by first | omega | decide) (by first | omega | decide)) shows_nil (.inl rfl)) ?_
    rintro v5 _ ⟨_, rfl, rfl⟩
    refine ops_t (wn rfl) rfl (t_append (es := 1) 1 rfl Try.runUnderlying28 rfl Try.runUnderlying28 (.inr ⟨_, rfl⟩) Try.typeInfo5 rfl (by decide) Try.zeroValue5 rfl rfl rfl rfl (src_reads 2 rfl reads_row (u8c_ok _)) (by simp only [u8c_len, arrc_len, u8c_len, i64c_len, strc_len, List.length_append, List.length_cons, List.length_nil]; (show _ * 1 ≤ _); omega) (by simp only [u8c_len, arrc_len, u8c_len, i64c_len, strc_len, List.length_append, List.length_cons, List.length_nil]; unfold maxLen; omega)) ?_
    rintro v6 _ rfl
    refine ops_turn (retell 1 (g := row v6 1 (u8c (o ++ (encI (l[i]))))) rfl (congrArg (row _ _) (u8c_append _ _))) ?_
    refine ops_y (wn rfl) rfl (y_assign rfl) ?_
    refine ops_nil ?_
    refine goes_blk ?_
    refine goes_code ?_
    refine run_weak [(0, lv), (4, .int .i64 ((i : Nat) : Int)), (3, v6)] [0, 1] [ro lv 1 (i64c l), row v6 1 (u8c (o ++ (encI (l[i]))))] (vcons rfl (vcons rfl (vcons rfl (vnil)))) (by decide) rfl ?_
    refine run_region' ?_
    refine ops_y (wn rfl) rfl (y_move rfl) ?_
    refine ops_y (wn rfl) rfl ((y_add rfl rfl).to (v64n (a := i) (b := 1) (by omega))) ?_
    refine ops_y (wn rfl) rfl (y_assign rfl) ?_
    refine ops_nil ?_
    refine goes_loop hL3 ⟨i + 1, v6, (o ++ (encI (l[i])))⟩ [0, 1] ?_ (by decide) ?_ ?_ ?_
    · exact (vcons rfl (vcons rfl (vcons rfl (vnil))))
    · rfl
    · try dsimp only
      exact ⟨by omega, by rw [flat_take encI (by omega), ho, List.append_assoc]⟩
    · try dsimp only
      omega
  · -- B1f
    replace hc4 := of_decide_eq_false hc4
    refine run_exit _ rfl ?_
    refine goes_code ?_
    refine run_seq ?_
    refine run_region' ?_
    refine ops_y (wn rfl) rfl (y_move rfl) ?_
    refine ops_y (wn rfl) rfl (y_assign rfl) ?_
    refine ops_nil ?_
    refine goes_code ?_
    refine run_ret ?_
    refine fin_slots [2] [v] [1] [row v 1 (u8c o)] Try.results19 rfl (by decide) rfl ?_
    dsimp only [tup]
    rw [ho, flat_all encI (by omega)]

theorem strs_p (lv : Value) (l : List (List UInt8)) (hl : l.length ≤ 4294967296) (hn : ∀ s ∈ l, s.length ≤ 4294967296) (hr : (encL encS l).length ≤ 1099511627776) :
    Meets Try.prog 20 [lv] [ro lv 1 (strc l)] (fun v G => G = [row v 1 (u8c (encL encS l))]) := by
  have hll := encI_len (n := (l.length : Int)) (by omega) (by omega)
  refine fn_of_run Try.func20 rfl Try.ntmps20 rfl (fun w0 o0 => ?_)
  refine run_seq ?_
  refine run_region' ?_
  refine ops_y (wn rfl) rfl (y_assign rfl) ?_
  refine ops_nil ?_
  refine goes_code ?_
  refine run_seq ?_
  refine run_region' ?_
  refine ops_y (wn rfl) rfl (y_move rfl) ?_
  refine ops_t (wn rfl) rfl (t_call (vs := [lv, .func (.func 16) #[] #[]]) (cs := []) [⟨0, false⟩] rfl Try.call39 rfl (strs_l lv l (by first | omega | (simp; done)) (by assumption) (by assumption)) (shows_cons 0 false rfl views_ro shows_nil) (.inl rfl)) ?_
  rintro v1 _ ⟨_, rfl, rfl⟩
  refine ops_y (wn rfl) rfl (y_assign rfl) ?_
  refine ops_nil ?_
  refine goes_code ?_
  refine run_ret ?_
  refine fin_slots [2] [v1] [1] [row v1 1 (u8c (encL encS l))] Try.results20 rfl (by decide) rfl ?_
  dsimp only [tup]
  skip

structure strs_r_S0 where
  i : Nat
  v : Value
  o : List UInt8
theorem strs_r (lv : Value) (l : List (List UInt8)) (hl : l.length ≤ 4294967296) (hn : ∀ s ∈ l, s.length ≤ 4294967296) (hr : (encL encS l).length ≤ 1099511627776) :
    Meets Try.prog 21 [lv] [ro lv 1 (strc l)] (fun v G => G = [row v 1 (u8c (encL encS l))]) := by
  have hll := encI_len (n := (l.length : Int)) (by omega) (by omega)
  refine fn_of_run Try.func21 rfl Try.ntmps21 rfl (fun w0 o0 => ?_)
  refine run_seq ?_
  refine run_region' ?_
  refine ops_y (wn rfl) rfl (y_assign rfl) ?_
  refine ops_nil ?_
  refine goes_code ?_
  refine run_seq ?_
  refine run_region' ?_
  refine ops_y (wn rfl) rfl (y_move rfl) ?_
  refine ops_y (wn rfl) rfl ((y_len 0 rfl Try.runUnderlying23 rfl rfl reads_ro).to (congrArg (fun n : Nat => Value.int .i64 (n : Int)) (strc_len _))) ?_
  refine ops_t (wn rfl) rfl (t_call (vs := [.int .i64 ((l.length : Nat) : Int)]) (cs := []) [] rfl Try.call15 rfl (int_r ((l.length : Nat) : Int) (by first | omega | decide) (by first | omega | decide)) shows_nil (.inl rfl)) ?_
  rintro v1 _ ⟨_, rfl, rfl⟩
  refine ops_y (wn rfl) rfl (y_assign rfl) ?_
  refine ops_nil ?_
  refine goes_code ?_
  refine run_seq ?_
  refine run_seq ?_
  refine run_region' ?_
  refine ops_y (wn rfl) rfl (y_assign rfl) ?_
  refine ops_nil ?_
  refine goes_code ?_
  refine run_block ?_
  refine run_loop strs_r_S0 (fun s => [(0, lv), (4, .int .i64 ((s.i : Nat) : Int)), (3, s.v)]) (fun s => [ro lv 1 (strc l), row s.v 1 (u8c s.o)]) (fun s => s.i ≤ l.length ∧ s.o = encI l.length ++ (l.take s.i).flatMap encS) (fun s => l.length - s.i) [0, 1] ⟨0, v1, encI l.length⟩ ?_ (by decide) ?_ ?_ ?_
  · exact (vcons rfl (vcons rfl (vcons rfl (vnil))))
  · rfl
  · try dsimp only
    exact ⟨Nat.zero_le _, by simp⟩
  rintro ⟨i, v, o⟩ ⟨hi, ho⟩ L2 hL3
  dsimp only at *
  refine run_seq ?_
  refine run_seq ?_
  refine run_region' ?_
  refine ops_y (wn rfl) rfl (y_move rfl) ?_
  refine ops_y (wn rfl) rfl (y_move rfl) ?_
  refine ops_y (wn rfl) rfl ((y_len 0 rfl Try.runUnderlying23 rfl rfl reads_ro).to (congrArg (fun n : Nat => Value.int .i64 (n : Int)) (strc_len _))) ?_
  refine ops_y (wn rfl) rfl (y_lss rfl rfl) ?_
  refine ops_nil ?_
  refine goes_code ?_
  refine run_cond _ rfl (fun hc4 => ?_) (fun hc4 => ?_)
  · -- B1t
    replace hc4 := of_decide_eq_true hc4
    refine run_skip ?_
    refine goes_code ?_
    refine run_seq ?_
    refine run_block ?_
    refine run_region' ?_
    have hroom := flat_room encS (l := l) (i := i) (by omega)
    rw [← ho] at hroom
    have hx := hn _ (List.getElem_mem (show i < l.length by omega))
    refine ops_y (wn rfl) rfl (y_move rfl) ?_
    refine ops_y (wn rfl) rfl (y_move rfl) ?_
    refine ops_y (wn rfl) rfl (y_move rfl) ?_
    refine ops_y (wn rfl) rfl (y_indexAddr (n := i) 0 Try.runUnderlying23 Try.sizeOf9 rfl rfl rfl reads_ro (by rw [strc_len]; omega)) ?_
    refine ops_y (wn rfl) rfl (y_load_elem (i := i) 0 Try.isAgg9 rfl rfl reads_ro (strc_get (by omega))) ?_
    refine ops_t (wn rfl) rfl (t_call (vs := [.string (bs (l[i]))]) (cs := []) [] rfl Try.call17 rfl (bytes_r (l[i]) (by first | omega | (simp only [List.length_drop, List.length_take, List.length_append]; omega) | (simp; done))) shows_nil (.inl rfl)) ?_
    rintro v5 _ ⟨_, rfl, rfl⟩
    refine ops_t (wn rfl) rfl (t_append (es := 1) 1 rfl Try.runUnderlying28 rfl Try.runUnderlying28 (.inr ⟨_, rfl⟩) Try.typeInfo5 rfl (by decide) Try.zeroValue5 rfl rfl rfl rfl (src_reads 2 rfl reads_row (u8c_ok _)) (by simp only [u8c_len, arrc_len, u8c_len, i64c_len, strc_len, List.length_append, List.length_cons, List.length_nil]; (show _ * 1 ≤ _); omega) (by simp only [u8c_len, arrc_len, u8c_len, i64c_len, strc_len, List.length_append, List.length_cons, List.length_nil]; unfold maxLen; omega)) ?_
    rintro v6 _ rfl
    refine ops_turn (retell 1 (g := row v6 1 (u8c (o ++ (encS (l[i]))))) rfl (congrArg (row _ _) (u8c_append _ _))) ?_
    refine ops_y (wn rfl) rfl (y_assign rfl) ?_
    refine ops_nil ?_
    refine goes_blk ?_
    refine goes_code ?_
    refine run_weak [(0, lv), (4, .int .i64 ((i : Nat) : Int)), (3, v6)] [0, 1] [ro lv 1 (strc l), row v6 1 (u8c (o ++ (encS (l[i]))))] (vcons rfl (vcons rfl (vcons rfl (vnil)))) (by decide) rfl ?_
    refine run_region' ?_
    refine ops_y (wn rfl) rfl (y_move rfl) ?_
    refine ops_y (wn rfl) rfl ((y_add rfl rfl).to (v64n (a := i) (b := 1) (by omega))) ?_
    refine ops_y (wn rfl) rfl (y_assign rfl) ?_
    refine ops_nil ?_
    refine goes_loop hL3 ⟨i + 1, v6, (o ++ (encS (l[i])))⟩ [0, 1] ?_ (by decide) ?_ ?_ ?_
    · exact (vcons rfl (vcons rfl (vcons rfl (vnil))))
    · rfl
    · try dsimp only
      exact ⟨by omega, by rw [flat_take encS (by omega), ho, List.append_assoc]⟩
    · try dsimp only
      omega
  · -- B1f
    replace hc4 := of_decide_eq_false hc4
    refine run_exit _ rfl ?_
    refine goes_code ?_
    refine run_seq ?_
    refine run_region' ?_
    refine ops_y (wn rfl) rfl (y_move rfl) ?_
    refine ops_y (wn rfl) rfl (y_assign rfl) ?_
    refine ops_nil ?_
    refine goes_code ?_
    refine run_ret ?_
    refine fin_slots [2] [v] [1] [row v 1 (u8c o)] Try.results21 rfl (by decide) rfl ?_
    dsimp only [tup]
    rw [ho, flat_all encS (by omega)]

theorem digs_p (lv : Value) (l : List (List UInt8)) (hl : l.length ≤ 4294967296) (hn : ∀ d ∈ l, d.length = 16) (hr : (encL (fun d => d) l).length ≤ 1099511627776) :
    Meets Try.prog 22 [lv] [ro lv 16 (arrc l)] (fun v G => G = [row v 1 (u8c (encL (fun d => d) l))]) := by
  have hll := encI_len (n := (l.length : Int)) (by omega) (by omega)
  refine fn_of_run Try.func22 rfl Try.ntmps22 rfl (fun w0 o0 => ?_)
  refine run_seq ?_
  refine run_region' ?_
  refine ops_y (wn rfl) rfl (y_assign rfl) ?_
  refine ops_nil ?_
  refine goes_code ?_
  refine run_seq ?_
  refine run_region' ?_
  refine ops_y (wn rfl) rfl (y_move rfl) ?_
  refine ops_t (wn rfl) rfl (t_call (vs := [lv, .func (.func 41) #[] #[]]) (cs := []) [⟨0, false⟩] rfl Try.call40 rfl (digs_l lv l (by first | omega | (simp; done)) hn (by assumption)) (shows_cons 0 false rfl views_ro shows_nil) (.inl rfl)) ?_
  rintro v1 _ ⟨_, rfl, rfl⟩
  refine ops_y (wn rfl) rfl (y_assign rfl) ?_
  refine ops_nil ?_
  refine goes_code ?_
  refine run_ret ?_
  refine fin_slots [2] [v1] [1] [row v1 1 (u8c (encL (fun d => d) l))] Try.results22 rfl (by decide) rfl ?_
  dsimp only [tup]
  skip

structure digs_r_S0 where
  i : Nat
  v : Value
  o : List UInt8
theorem digs_r (lv : Value) (l : List (List UInt8)) (hl : l.length ≤ 4294967296) (hn : ∀ d ∈ l, d.length = 16) (hr : (encL (fun d => d) l).length ≤ 1099511627776) :
    Meets Try.prog 23 [lv] [ro lv 16 (arrc l)] (fun v G => G = [row v 1 (u8c (encL (fun d => d) l))]) := by
  have hll := encI_len (n := (l.length : Int)) (by omega) (by omega)
  refine fn_of_run Try.func23 rfl Try.ntmps23 rfl (fun w0 o0 => ?_)
  refine run_seq ?_
  refine run_region' ?_
  refine ops_y (wn rfl) rfl (y_assign rfl) ?_
  refine ops_nil ?_
  refine goes_code ?_
  refine run_seq ?_
  refine run_region' ?_
  refine ops_y (wn rfl) rfl (y_move rfl) ?_
  refine ops_y (wn rfl) rfl ((y_len 0 rfl Try.runUnderlying24 rfl rfl reads_ro).to (congrArg (fun n : Nat => Value.int .i64 (n : Int)) (arrc_len _))) ?_
  refine ops_t (wn rfl) rfl (t_call (vs := [.int .i64 ((l.length : Nat) : Int)]) (cs := []) [] rfl Try.call15 rfl (int_r ((l.length : Nat) : Int) (by first | omega | decide) (by first | omega | decide)) shows_nil (.inl rfl)) ?_
  rintro v1 _ ⟨_, rfl, rfl⟩
  refine ops_y (wn rfl) rfl (y_assign rfl) ?_
  refine ops_nil ?_
  refine goes_code ?_
  refine run_seq ?_
  refine run_seq ?_
  refine run_region' ?_
  refine ops_y (wn rfl) rfl (y_assign rfl) ?_
  refine ops_nil ?_
  refine goes_code ?_
  refine run_block ?_
  refine run_loop digs_r_S0 (fun s => [(0, lv), (4, .int .i64 ((s.i : Nat) : Int)), (3, s.v)]) (fun s => [ro lv 16 (arrc l), row s.v 1 (u8c s.o)]) (fun s => s.i ≤ l.length ∧ s.o = encI l.length ++ (l.take s.i).flatMap (fun d => d)) (fun s => l.length - s.i) [0, 1] ⟨0, v1, encI l.length⟩ ?_ (by decide) ?_ ?_ ?_
  · exact (vcons rfl (vcons rfl (vcons rfl (vnil))))
  · rfl
  · try dsimp only
    exact ⟨Nat.zero_le _, by simp⟩
  rintro ⟨i, v, o⟩ ⟨hi, ho⟩ L2 hL3
  dsimp only at *
  refine run_seq ?_
  refine run_seq ?_
  refine run_region' ?_
  refine ops_y (wn rfl) rfl (y_move rfl) ?_
  refine ops_y (wn rfl) rfl (y_move rfl) ?_
  refine ops_y (wn rfl) rfl ((y_len 0 rfl Try.runUnderlying24 rfl rfl reads_ro).to (congrArg (fun n : Nat => Value.int .i64 (n : Int)) (arrc_len _))) ?_
  refine ops_y (wn rfl) rfl (y_lss rfl rfl) ?_
  refine ops_nil ?_
  refine goes_code ?_
  refine run_cond _ rfl (fun hc4 => ?_) (fun hc4 => ?_)
  · -- B1t
    replace hc4 := of_decide_eq_true hc4
    refine run_skip ?_
    refine goes_code ?_
    refine run_seq ?_
    refine run_block ?_
    refine run_region' ?_
    have hroom := flat_room (fun d => d) (l := l) (i := i) (by omega)
    rw [← ho] at hroom
    refine ops_y (wn rfl) rfl (y_move rfl) ?_
    refine ops_y (wn rfl) rfl (y_move rfl) ?_
    refine ops_y (wn rfl) rfl (y_move rfl) ?_
    refine ops_y (wn rfl) rfl (y_indexAddr (n := i) 0 Try.runUnderlying24 Try.sizeOf57 rfl rfl rfl reads_ro (by rw [arrc_len]; omega)) ?_
    refine ops_t (wn rfl) rfl (t_slice_elem (i := i) 0 Try.runUnderlying57 Try.sizeOf5 rfl rfl (arrc_get (by omega)) rfl (by decide) (by decide)) ?_
    rintro v5 _ rfl
    refine ops_turn (retell 2 (g := ro v5 1 (u8c (l[i]))) rfl (congrArg _ (arr8_map _))) ?_
    refine ops_t (wn rfl) rfl (t_append (es := 1) 1 rfl Try.runUnderlying28 rfl Try.runUnderlying28 (.inr ⟨_, rfl⟩) Try.typeInfo5 rfl (by decide) Try.zeroValue5 rfl rfl rfl rfl (src_reads 2 rfl reads_ro (u8c_ok _)) (by simp only [u8c_len, arrc_len, u8c_len, i64c_len, strc_len, List.length_append, List.length_cons, List.length_nil]; (show _ * 1 ≤ _); omega) (by simp only [u8c_len, arrc_len, u8c_len, i64c_len, strc_len, List.length_append, List.length_cons, List.length_nil]; unfold maxLen; omega)) ?_
    rintro v6 _ rfl
    refine ops_turn (retell 1 (g := row v6 1 (u8c (o ++ (l[i])))) rfl (congrArg (row _ _) (u8c_append _ _))) ?_
    refine ops_y (wn rfl) rfl (y_assign rfl) ?_
    refine ops_nil ?_
    refine goes_blk ?_
    refine goes_code ?_
    refine run_weak [(0, lv), (4, .int .i64 ((i : Nat) : Int)), (3, v6)] [0, 1] [ro lv 16 (arrc l), row v6 1 (u8c (o ++ (l[i])))] (vcons rfl (vcons rfl (vcons rfl (vnil)))) (by decide) rfl ?_
    refine run_region' ?_
    refine ops_y (wn rfl) rfl (y_move rfl) ?_
    refine ops_y (wn rfl) rfl ((y_add rfl rfl).to (v64n (a := i) (b := 1) (by omega))) ?_
    refine ops_y (wn rfl) rfl (y_assign rfl) ?_
    refine ops_nil ?_
    refine goes_loop hL3 ⟨i + 1, v6, (o ++ (l[i]))⟩ [0, 1] ?_ (by decide) ?_ ?_ ?_
    · exact (vcons rfl (vcons rfl (vcons rfl (vnil))))
    · rfl
    · try dsimp only
      exact ⟨by omega, by rw [flat_take (fun d => d) (by omega), ho, List.append_assoc]⟩
    · try dsimp only
      omega
  · -- B1f
    replace hc4 := of_decide_eq_false hc4
    refine run_exit _ rfl ?_
    refine goes_code ?_
    refine run_seq ?_
    refine run_region' ?_
    refine ops_y (wn rfl) rfl (y_move rfl) ?_
    refine ops_y (wn rfl) rfl (y_assign rfl) ?_
    refine ops_nil ?_
    refine goes_code ?_
    refine run_ret ?_
    refine fin_slots [2] [v] [1] [row v 1 (u8c o)] Try.results23 rfl (by decide) rfl ?_
    dsimp only [tup]
    rw [ho, flat_all (fun d => d) (by omega)]

structure few_l_S0 where
  i : Nat
  n : Nat
theorem few_l (lv : Value) (l : List (List UInt8)) (ht : l.length + (l.map List.length).sum ≤ 1099511627776) :
    Meets Try.prog 11 [lv] [ro lv 1 (strc l)] (fun v G => v = .bool (decide (l.length + (l.map List.length).sum ≤ 2000)) ∧ G = []) := by
  refine fn_of_run Try.func11 rfl Try.ntmps11 rfl (fun w0 o0 => ?_)
  refine run_seq ?_
  refine run_region' ?_
  refine ops_y (wn rfl) rfl (y_assign rfl) ?_
  refine ops_nil ?_
  refine goes_code ?_
  refine run_seq ?_
  refine run_region' ?_
  refine ops_y (wn rfl) rfl (y_move rfl) ?_
  refine ops_y (wn rfl) rfl ((y_len 0 rfl Try.runUnderlying23 rfl rfl reads_ro).to (congrArg (fun n : Nat => Value.int .i64 (n : Int)) (strc_len _))) ?_
  refine ops_y (wn rfl) rfl (y_assign rfl) ?_
  refine ops_nil ?_
  refine goes_code ?_
  refine run_seq ?_
  refine run_seq ?_
  refine run_region' ?_
  refine ops_y (wn rfl) rfl (y_move rfl) ?_
  refine ops_y (wn rfl) rfl ((y_len 0 rfl Try.runUnderlying23 rfl rfl reads_ro).to (congrArg (fun n : Nat => Value.int .i64 (n : Int)) (strc_len _))) ?_
  refine ops_y (wn rfl) rfl (y_move rfl) ?_
  refine ops_nil ?_
  refine goes_code ?_
  refine run_block ?_
  refine run_loop few_l_S0 (fun s => [(8, lv), (9, .int .i64 ((l.length : Nat) : Int)), (10, .int .i64 ((s.i : Nat) : Int)), (3, .int .i64 ((s.n : Nat) : Int))]) (fun s => [ro lv 1 (strc l)]) (fun s => s.i ≤ l.length ∧ s.n = l.length + ((l.take s.i).map List.length).sum) (fun s => l.length - s.i) [0] ⟨0, l.length⟩ ?_ (by decide) ?_ ?_ ?_
  · exact (vcons rfl (vcons rfl (vcons rfl (vcons rfl (vnil)))))
  · rfl
  · try dsimp only
    exact ⟨Nat.zero_le _, by simp⟩
  rintro ⟨i, n⟩ ⟨hi, ho⟩ L1 hL2
  dsimp only at *
  refine run_seq ?_
  refine run_region' ?_
  refine ops_y (wn rfl) rfl (y_lss rfl rfl) ?_
  refine ops_nil ?_
  refine goes_code ?_
  refine run_seq ?_
  refine run_cond _ rfl (fun hc3 => ?_) (fun hc3 => ?_)
  · -- B1t
    replace hc3 := of_decide_eq_true hc3
    refine run_skip ?_
    refine goes_code ?_
    refine run_seq ?_
    refine run_block ?_
    refine run_seq ?_
    refine run_region' ?_
    have hs := sum_le (l := l) (i := i) (by omega)
    refine ops_y (wn rfl) rfl (y_indexAddr (n := i) 0 Try.runUnderlying23 Try.sizeOf9 rfl rfl rfl reads_ro (by rw [strc_len]; omega)) ?_
    refine ops_y (wn rfl) rfl (y_load_elem (i := i) 0 Try.isAgg9 rfl rfl reads_ro (strc_get (by omega))) ?_
    refine ops_y (wn rfl) rfl (y_assign rfl) ?_
    refine ops_nil ?_
    refine goes_code ?_
    refine run_region' ?_
    refine ops_y (wn rfl) rfl (y_move rfl) ?_
    refine ops_y (wn rfl) rfl (y_move rfl) ?_
    refine ops_y (wn rfl) rfl (y_len_str rfl Try.runUnderlying9 rfl) ?_
    refine ops_y (wn rfl) rfl ((y_add rfl rfl).to (v64n (a := n) (b := ((l[i]).length)) (by omega))) ?_
    refine ops_y (wn rfl) rfl (y_assign rfl) ?_
    refine ops_nil ?_
    refine goes_blk ?_
    refine goes_code ?_
    refine run_region' ?_
    refine ops_y (wn rfl) rfl ((y_add rfl rfl).to (v64n (a := i) (b := 1) (by omega))) ?_
    refine ops_y (wn rfl) rfl (y_move rfl) ?_
    refine ops_nil ?_
    refine goes_loop hL2 ⟨i + 1, n + l[i].length⟩ [0] ?_ (by decide) ?_ ?_ ?_
    · exact (vcons rfl (vcons rfl (vcons rfl (vcons rfl (vnil)))))
    · rfl
    · try dsimp only
      exact ⟨by omega, by have := sum_take (l := l) (i := i) (by omega); omega⟩
    · try dsimp only
      omega
  · -- B1f
    replace hc3 := of_decide_eq_false hc3
    refine run_exit _ rfl ?_
    refine goes_code ?_
    refine run_seq ?_
    refine run_region' ?_
    refine ops_y (wn rfl) rfl (y_move rfl) ?_
    refine ops_y (wn rfl) rfl (y_leq rfl rfl) ?_
    refine ops_y (wn rfl) rfl (y_assign rfl) ?_
    refine ops_nil ?_
    refine goes_code ?_
    refine run_ret ?_
    refine fin_slots [2] [.bool (decide (((n : Nat) : Int) ≤ 2000))] [] [] Try.results11 rfl (by decide) rfl ?_
    dsimp only [tup]
    have e : ((l.take i).map List.length).sum = (l.map List.length).sum := by rw [List.take_of_length_le (by omega)]
    rw [ho, e]; exact ⟨congrArg Value.bool (decide_eq_decide.2 (by omega)), rfl⟩

end Go.Proofs.Ytbhlfdklpihaiaa
