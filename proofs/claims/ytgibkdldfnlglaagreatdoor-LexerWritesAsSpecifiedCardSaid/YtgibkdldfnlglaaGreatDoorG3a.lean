/-
  Functions that the law LexerReadsAsSpecified needs, lifted.
-/
import Derived.Test.YtgibkdldfnlglaaGreatDoorFb
namespace Go.Proofs.YtgibkdldfnlglaaGreatDoor
open Go.Abs
set_option linter.unusedVariables false
set_option linter.unusedSimpArgs false
set_option maxRecDepth 20000
set_option maxHeartbeats 4000000

def ref18_skip_L2 (s_0 : (List UInt8)) : (Int) → Option (Lp (Int) (Lp (Int) (Lp (Int) (Lp (Int) (Int))))) :=
 fun at_19 =>
  bindJ (S := Bool)
   (cond (decide (at_19 < (s_0.length : Int)))
    (idx s_0 at_19 fun c30 =>
    some (.go (decide ((c30.toNat : Int) ≠ 10))))
    (some (.go false)))
  (fun b24 =>
   cond b24
    (some (.go (IntKind.i64.wrap (at_19 + 1))))
    (some (.stop (.go at_19))))
def ref18_skip_L1 (n : Nat) (s_0 : (List UInt8)) : (Int) → Option (Lp (Int) (Lp (Int) (Int))) :=
 fun at_6 =>
  cond (decide (at_6 < (s_0.length : Int)))
   (idx s_0 at_6 fun c12 =>
   cond (decide ((c12.toNat : Int) = 35))
    (bindJ (S := Int)
     (iter (ref18_skip_L2 s_0) n at_6)
    (fun at_14 =>
     some (.go at_14)))
    (idx s_0 at_6 fun c32 =>
    bindJ (S := Bool)
     (cond (decide ((c32.toNat : Int) ≠ 32))
      (idx s_0 at_6 fun c39 =>
      some (.go (decide ((c39.toNat : Int) ≠ 9))))
      (some (.go false)))
    (fun b33 =>
     bindJ (S := Bool)
      (cond b33
       (idx s_0 at_6 fun c46 =>
       some (.go (decide ((c46.toNat : Int) ≠ 10))))
       (some (.go false)))
     (fun b40 =>
      bindJ (S := Bool)
       (cond b40
        (idx s_0 at_6 fun c53 =>
        some (.go (decide ((c53.toNat : Int) ≠ 13))))
        (some (.go false)))
      (fun b47 =>
       cond b47
        (some (.stop (.stop at_6)))
        (some (.go (IntKind.i64.wrap (at_6 + 1)))))))))
   (some (.stop (.go at_6)))
def ref18_skip (n : Nat) (s_0 : (List UInt8)) (at_1 : Int) : Option (Int) :=
 bindJ (S := Int)
  (iter (ref18_skip_L1 n s_0) n at_1)
 (fun at_1 =>
  some at_1)
theorem ref18_skip_ok (n : Nat) (s_0 : (List UInt8)) (at_1 : Int)  {r : Int} (h : ref18_skip n s_0 at_1 = some r) :
  Meets Tryz.prog 29 [.string (bs s_0), .int .i64 at_1] [] (fun v G => v = .int .i64 r ∧ G = []) := by
 refine fn_of_run Tryz.func29 rfl Tryz.ntmps29 rfl (fun w0 o0 => ?_)
 refine run_seq ?_
 refine run_region' ?_
 refine oy rfl rfl (y_assign rfl) ?_
 refine ops_nil ?_
 refine goes_code ?_
 obtain ⟨o2, h, ho3⟩ := bindJ_some h
 refine run_cut ((Int) × (Unit)) (fun σ => [(1, .int .i64 σ.1)]) (fun σ => []) (fun σ => o2 = .go σ.1) (fun L5 hL4 => ?_) ?_
 ·
  refine run_block ?_
  refine run_iter (step := ref18_skip_L1 n s_0) (n := n) (s0 := at_1) h (G := Unit) () (fun σ γ => [(1, .int .i64 σ), (0, .string (bs s_0))]) (fun σ γ => []) [] (qv2 rfl rfl) (by decide) rfl ?_
  rintro at_6 _ o7 h L10 hgo8 hstop9
  change Run _ _ _ (VF.of [(1, .int .i64 at_6), (0, .string (bs s_0))]) []
  refine run_seq ?_
  refine run_seq ?_
  refine run_region' ?_
  refine oy rfl rfl (y_move rfl) ?_
  refine oy rfl rfl (y_move rfl) ?_
  refine oy rfl rfl (y_len_str rfl Tryz.runUnderlying9 rfl) ?_
  refine oy rfl rfl (y_lss rfl rfl) ?_
  refine ops_nil ?_
  refine goes_code ?_
  refine run_cond (decide (at_6 < (s_0.length : Int))) rfl (fun hc11 => ?_) (fun hc11 => ?_)
  ·replace h := cond_t h hc11
   refine run_skip ?_
   refine goes_code ?_
   refine run_block ?_
   refine run_seq ?_
   refine run_seq ?_
   refine run_region' ?_
   refine oy rfl rfl (y_move rfl) ?_
   refine oy rfl rfl (y_move rfl) ?_
   obtain ⟨c12, hzc12, hlc12, hxc12, h⟩ := idx_some h
   refine oy rfl rfl (y_index_strI (kd := .i64) (i := at_6) Tryz.runUnderlying9 rfl rfl hzc12 hxc12) ?_
   refine oy rfl rfl (y_eql rfl rfl) ?_
   refine ops_nil ?_
   refine goes_code ?_
   refine run_cond (decide ((c12.toNat : Int) = 35)) rfl (fun hc13 => ?_) (fun hc13 => ?_)
   ·replace h := cond_t h hc13
    obtain ⟨o15, h, ho16⟩ := bindJ_some h
    refine run_cut ((Int) × (Unit)) (fun σ => [(1, .int .i64 σ.1), (0, .string (bs s_0))]) (fun σ => []) (fun σ => o15 = .go σ.1) (fun L18 hL17 => ?_) ?_
    ·
     refine run_block ?_
     refine run_iter (step := ref18_skip_L2 s_0) (n := n) (s0 := at_6) h (G := Unit) () (fun σ γ => [(1, .int .i64 σ), (0, .string (bs s_0))]) (fun σ γ => []) [] (qv2 rfl rfl) (by decide) rfl ?_
     rintro at_19 _ o20 h L23 hgo21 hstop22
     change Run _ _ _ (VF.of [(1, .int .i64 at_19), (0, .string (bs s_0))]) []
     refine run_seq ?_
     refine run_seq ?_
     refine run_region' ?_
     refine oy rfl rfl (y_move rfl) ?_
     refine oy rfl rfl (y_move rfl) ?_
     refine oy rfl rfl (y_len_str rfl Tryz.runUnderlying9 rfl) ?_
     refine oy rfl rfl (y_lss rfl rfl) ?_
     refine oy rfl rfl (y_move rfl) ?_
     obtain ⟨o25, h, ho26⟩ := bindJ_some h
     refine ops_cut 5 (Bool) (fun σ => [(1, .int .i64 at_19), (0, .string (bs s_0)), (22, .bool σ)]) (fun σ => []) (fun σ => o25 = .go σ) (fun L27 hL28 => ?_) ?_
     ·refine ops_split 17 (decide (at_19 < (s_0.length : Int))) rfl (fun hg29 => ?_) (fun hg29 => ?_)
      ·replace h := cond_t h hg29
       refine ops_y (wg 4 true 17 rfl rfl rfl rfl) rfl (y_move rfl) ?_
       refine ops_y (wg 4 true 17 rfl rfl rfl rfl) rfl (y_move rfl) ?_
       obtain ⟨c30, hzc30, hlc30, hxc30, h⟩ := idx_some h
       refine ops_y (wg 4 true 17 rfl rfl rfl rfl) rfl (y_index_strI (kd := .i64) (i := at_19) Tryz.runUnderlying9 rfl rfl hzc30 hxc30) ?_
       refine ops_y (wg 4 true 17 rfl rfl rfl rfl) rfl (y_neq rfl rfl) ?_
       refine oy rfl rfl (y_pick (b := true) rfl rfl) ?_
       refine ops_nil ?_
       obtain rfl := some_eq h
       exact goes_cut hL28 (decide ((c30.toNat : Int) ≠ 10)) [] (qv3 rfl rfl rfl) (by decide) rfl rfl
      ·replace h := cond_f h hg29
       refine ops_no 4 true 17 rfl rfl rfl rfl rfl ?_
       refine ops_no 4 true 17 rfl rfl rfl rfl rfl ?_
       refine ops_no 4 true 17 rfl rfl rfl rfl rfl ?_
       refine ops_no 4 true 17 rfl rfl rfl rfl rfl ?_
       refine oy rfl rfl (y_pick (b := false) rfl rfl) ?_
       refine ops_nil ?_
       obtain rfl := some_eq h
       exact goes_cut hL28 false [] (qv3 rfl rfl rfl) (by decide) rfl rfl
     rintro b24 hj
     obtain rfl : o25 = _ := hj
     replace h := after_go ho26
     clear ho26
     refine ops_nil ?_
     refine goes_code ?_
     refine run_cond b24 rfl (fun hc31 => ?_) (fun hc31 => ?_)
     ·replace h := cond_t h hc31
      refine run_skip ?_
      refine goes_code ?_
      refine run_block ?_
      refine run_region' ?_
      refine oy rfl rfl (y_move rfl) ?_
      refine oy rfl rfl (y_add rfl rfl) ?_
      refine oy rfl rfl (y_assign rfl) ?_
      refine ops_nil ?_
      refine goes_blk ?_
      obtain rfl := some_eq h
      exact goes_iter hgo21 (IntKind.i64.wrap (at_19 + 1)) () [] rfl (qv2 rfl rfl) (by decide) rfl
     ·replace h := cond_f h hc31
      refine run_exit _ rfl ?_
      obtain rfl := some_eq h
      obtain rfl := hstop22 _ rfl
      exact goes_cut hL17 (at_19, ()) [] (qv2 rfl rfl) (by decide) rfl rfl
    rintro ⟨at_14, _⟩ hj
    obtain rfl : o15 = _ := hj
    replace h := after_go ho16
    clear ho16
    change Run _ _ _ (VF.of [(1, .int .i64 at_14), (0, .string (bs s_0))]) []
    refine run_exit _ rfl ?_
    obtain rfl := some_eq h
    exact goes_iter hgo8 at_14 () [] rfl (qv2 rfl rfl) (by decide) rfl
   ·replace h := cond_f h hc13
    refine run_skip ?_
    refine goes_code ?_
    refine run_seq ?_
    refine run_seq ?_
    refine run_weak [(1, .int .i64 at_6), (0, .string (bs s_0))] [] [] (qv2 rfl rfl) (by decide) rfl ?_
    refine run_region' ?_
    refine oy rfl rfl (y_move rfl) ?_
    refine oy rfl rfl (y_move rfl) ?_
    obtain ⟨c32, hzc32, hlc32, hxc32, h⟩ := idx_some h
    refine oy rfl rfl (y_index_strI (kd := .i64) (i := at_6) Tryz.runUnderlying9 rfl rfl hzc32 hxc32) ?_
    refine oy rfl rfl (y_neq rfl rfl) ?_
    refine oy rfl rfl (y_move rfl) ?_
    obtain ⟨o34, h, ho35⟩ := bindJ_some h
    refine ops_cut 5 (Bool) (fun σ => [(1, .int .i64 at_6), (0, .string (bs s_0)), (34, .bool σ)]) (fun σ => []) (fun σ => o34 = .go σ) (fun L36 hL37 => ?_) ?_
    ·refine ops_split 29 (decide ((c32.toNat : Int) ≠ 32)) rfl (fun hg38 => ?_) (fun hg38 => ?_)
     ·replace h := cond_t h hg38
      refine ops_y (wg 4 true 29 rfl rfl rfl rfl) rfl (y_move rfl) ?_
      refine ops_y (wg 4 true 29 rfl rfl rfl rfl) rfl (y_move rfl) ?_
      obtain ⟨c39, hzc39, hlc39, hxc39, h⟩ := idx_some h
      refine ops_y (wg 4 true 29 rfl rfl rfl rfl) rfl (y_index_strI (kd := .i64) (i := at_6) Tryz.runUnderlying9 rfl rfl hzc39 hxc39) ?_
      refine ops_y (wg 4 true 29 rfl rfl rfl rfl) rfl (y_neq rfl rfl) ?_
      refine oy rfl rfl (y_pick (b := true) rfl rfl) ?_
      refine ops_nil ?_
      obtain rfl := some_eq h
      exact goes_cut hL37 (decide ((c39.toNat : Int) ≠ 9)) [] (qv3 rfl rfl rfl) (by decide) rfl rfl
     ·replace h := cond_f h hg38
      refine ops_no 4 true 29 rfl rfl rfl rfl rfl ?_
      refine ops_no 4 true 29 rfl rfl rfl rfl rfl ?_
      refine ops_no 4 true 29 rfl rfl rfl rfl rfl ?_
      refine ops_no 4 true 29 rfl rfl rfl rfl rfl ?_
      refine oy rfl rfl (y_pick (b := false) rfl rfl) ?_
      refine ops_nil ?_
      obtain rfl := some_eq h
      exact goes_cut hL37 false [] (qv3 rfl rfl rfl) (by decide) rfl rfl
    rintro b33 hj
    obtain rfl : o34 = _ := hj
    replace h := after_go ho35
    clear ho35
    refine oy rfl rfl (y_move rfl) ?_
    obtain ⟨o41, h, ho42⟩ := bindJ_some h
    refine ops_cut 5 (Bool) (fun σ => [(1, .int .i64 at_6), (0, .string (bs s_0)), (40, .bool σ)]) (fun σ => []) (fun σ => o41 = .go σ) (fun L43 hL44 => ?_) ?_
    ·refine ops_split 35 b33 rfl (fun hg45 => ?_) (fun hg45 => ?_)
     ·replace h := cond_t h hg45
      refine ops_y (wg 10 true 35 rfl rfl rfl rfl) rfl (y_move rfl) ?_
      refine ops_y (wg 10 true 35 rfl rfl rfl rfl) rfl (y_move rfl) ?_
      obtain ⟨c46, hzc46, hlc46, hxc46, h⟩ := idx_some h
      refine ops_y (wg 10 true 35 rfl rfl rfl rfl) rfl (y_index_strI (kd := .i64) (i := at_6) Tryz.runUnderlying9 rfl rfl hzc46 hxc46) ?_
      refine ops_y (wg 10 true 35 rfl rfl rfl rfl) rfl (y_neq rfl rfl) ?_
      refine oy rfl rfl (y_pick (b := true) rfl rfl) ?_
      refine ops_nil ?_
      obtain rfl := some_eq h
      exact goes_cut hL44 (decide ((c46.toNat : Int) ≠ 10)) [] (qv3 rfl rfl rfl) (by decide) rfl rfl
     ·replace h := cond_f h hg45
      refine ops_no 10 true 35 rfl rfl rfl rfl rfl ?_
      refine ops_no 10 true 35 rfl rfl rfl rfl rfl ?_
      refine ops_no 10 true 35 rfl rfl rfl rfl rfl ?_
      refine ops_no 10 true 35 rfl rfl rfl rfl rfl ?_
      refine oy rfl rfl (y_pick (b := false) rfl rfl) ?_
      refine ops_nil ?_
      obtain rfl := some_eq h
      exact goes_cut hL44 false [] (qv3 rfl rfl rfl) (by decide) rfl rfl
    rintro b40 hj
    obtain rfl : o41 = _ := hj
    replace h := after_go ho42
    clear ho42
    refine oy rfl rfl (y_move rfl) ?_
    obtain ⟨o48, h, ho49⟩ := bindJ_some h
    refine ops_cut 5 (Bool) (fun σ => [(1, .int .i64 at_6), (0, .string (bs s_0)), (46, .bool σ)]) (fun σ => []) (fun σ => o48 = .go σ) (fun L50 hL51 => ?_) ?_
    ·refine ops_split 41 b40 rfl (fun hg52 => ?_) (fun hg52 => ?_)
     ·replace h := cond_t h hg52
      refine ops_y (wg 16 true 41 rfl rfl rfl rfl) rfl (y_move rfl) ?_
      refine ops_y (wg 16 true 41 rfl rfl rfl rfl) rfl (y_move rfl) ?_
      obtain ⟨c53, hzc53, hlc53, hxc53, h⟩ := idx_some h
      refine ops_y (wg 16 true 41 rfl rfl rfl rfl) rfl (y_index_strI (kd := .i64) (i := at_6) Tryz.runUnderlying9 rfl rfl hzc53 hxc53) ?_
      refine ops_y (wg 16 true 41 rfl rfl rfl rfl) rfl (y_neq rfl rfl) ?_
      refine oy rfl rfl (y_pick (b := true) rfl rfl) ?_
      refine ops_nil ?_
      obtain rfl := some_eq h
      exact goes_cut hL51 (decide ((c53.toNat : Int) ≠ 13)) [] (qv3 rfl rfl rfl) (by decide) rfl rfl
     ·replace h := cond_f h hg52
      refine ops_no 16 true 41 rfl rfl rfl rfl rfl ?_
      refine ops_no 16 true 41 rfl rfl rfl rfl rfl ?_
      refine ops_no 16 true 41 rfl rfl rfl rfl rfl ?_
      refine ops_no 16 true 41 rfl rfl rfl rfl rfl ?_
      refine oy rfl rfl (y_pick (b := false) rfl rfl) ?_
      refine ops_nil ?_
      obtain rfl := some_eq h
      exact goes_cut hL51 false [] (qv3 rfl rfl rfl) (by decide) rfl rfl
    rintro b47 hj
    obtain rfl : o48 = _ := hj
    replace h := after_go ho49
    clear ho49
    refine ops_nil ?_
    refine goes_code ?_
    refine run_cond b47 rfl (fun hc54 => ?_) (fun hc54 => ?_)
    ·replace h := cond_t h hc54
     refine run_seq ?_
     refine run_region' ?_
     refine oy rfl rfl (y_move rfl) ?_
     refine oy rfl rfl (y_assign rfl) ?_
     refine ops_nil ?_
     refine goes_code ?_
     refine run_ret ?_
     obtain rfl := some_eq h
     obtain rfl := hstop9 _ rfl
     skip
     obtain rfl := after_stop ho3
     refine fin_slots [4] [.int .i64 at_6] [] [] Tryz.results29 rfl (by decide) rfl ?_
     exact ⟨rfl, rfl⟩
    ·replace h := cond_f h hc54
     refine run_skip ?_
     refine goes_code ?_
     refine run_region' ?_
     refine oy rfl rfl (y_move rfl) ?_
     refine oy rfl rfl (y_add rfl rfl) ?_
     refine oy rfl rfl (y_assign rfl) ?_
     refine ops_nil ?_
     refine goes_blk ?_
     obtain rfl := some_eq h
     exact goes_iter hgo8 (IntKind.i64.wrap (at_6 + 1)) () [] rfl (qv2 rfl rfl) (by decide) rfl
  ·replace h := cond_f h hc11
   refine run_exit _ rfl ?_
   obtain rfl := some_eq h
   obtain rfl := hstop9 _ rfl
   exact goes_cut hL4 (at_6, ()) [] (qv1 rfl) (by decide) rfl rfl
 rintro ⟨at_1, _⟩ hj
 obtain rfl : o2 = _ := hj
 replace h := after_go ho3
 clear ho3
 change Run _ _ _ (VF.of [(1, .int .i64 at_1)]) []
 refine run_seq ?_
 refine run_region' ?_
 refine oy rfl rfl (y_move rfl) ?_
 refine oy rfl rfl (y_assign rfl) ?_
 refine ops_nil ?_
 refine goes_code ?_
 refine run_ret ?_
 obtain rfl := some_eq h
 refine fin_slots [4] [.int .i64 at_1] [] [] Tryz.results29 rfl (by decide) rfl ?_
 exact ⟨rfl, rfl⟩

def ref18_small (b_0 : Int) : Option (Bool) :=
 some (decide (97 ≤ b_0) && decide (b_0 ≤ 122))
theorem ref18_small_ok (b_0 : Int)  {r : Bool} (h : ref18_small b_0 = some r) :
  Meets Tryz.prog 52 [.int .u8 b_0] [] (fun v G => v = .bool r ∧ G = []) := by
 refine fn_of_run Tryz.func52 rfl Tryz.ntmps52 rfl (fun w0 o0 => ?_)
 refine run_seq ?_
 refine run_region' ?_
 refine oy rfl rfl (y_assign rfl) ?_
 refine ops_nil ?_
 refine goes_code ?_
 refine run_seq ?_
 refine run_region' ?_
 refine oy rfl rfl (y_move rfl) ?_
 refine oy rfl rfl (y_geq rfl rfl) ?_
 refine oy rfl rfl (y_move rfl) ?_
 refine ops_cut 3 (Bool) (fun σ => [(8, .bool σ)]) (fun σ => []) (fun σ => σ = (decide (97 ≤ b_0) && decide (b_0 ≤ 122))) (fun L1 hL2 => ?_) ?_
 ·refine ops_split 5 (decide (97 ≤ b_0)) rfl (fun hg3 => ?_) (fun hg3 => ?_)
  ·skip
   refine ops_y (wg 2 true 5 rfl rfl rfl rfl) rfl (y_move rfl) ?_
   refine ops_y (wg 2 true 5 rfl rfl rfl rfl) rfl (y_leq rfl rfl) ?_
   refine oy rfl rfl (y_pick (b := true) rfl rfl) ?_
   refine ops_nil ?_
   exact goes_cut hL2 (decide (b_0 ≤ 122)) [] (qv1 rfl) (by decide) rfl (by rw [hg3]; simp)
  ·skip
   refine ops_no 2 true 5 rfl rfl rfl rfl rfl ?_
   refine ops_no 2 true 5 rfl rfl rfl rfl rfl ?_
   refine oy rfl rfl (y_pick (b := false) rfl rfl) ?_
   refine ops_nil ?_
   exact goes_cut hL2 false [] (qv1 rfl) (by decide) rfl (by rw [hg3]; simp)
 rintro _ rfl
 refine oy rfl rfl (y_assign rfl) ?_
 refine ops_nil ?_
 refine goes_code ?_
 refine run_ret ?_
 obtain rfl := some_eq h
 refine fin_slots [2] [.bool (decide (97 ≤ b_0) && decide (b_0 ≤ 122))] [] [] Tryz.results52 rfl (by decide) rfl ?_
 exact ⟨rfl, rfl⟩

def ref18_digit (b_0 : Int) : Option (Bool) :=
 some (decide (48 ≤ b_0) && decide (b_0 ≤ 57))
theorem ref18_digit_ok (b_0 : Int)  {r : Bool} (h : ref18_digit b_0 = some r) :
  Meets Tryz.prog 54 [.int .u8 b_0] [] (fun v G => v = .bool r ∧ G = []) := by
 refine fn_of_run Tryz.func54 rfl Tryz.ntmps54 rfl (fun w0 o0 => ?_)
 refine run_seq ?_
 refine run_region' ?_
 refine oy rfl rfl (y_assign rfl) ?_
 refine ops_nil ?_
 refine goes_code ?_
 refine run_seq ?_
 refine run_region' ?_
 refine oy rfl rfl (y_move rfl) ?_
 refine oy rfl rfl (y_geq rfl rfl) ?_
 refine oy rfl rfl (y_move rfl) ?_
 refine ops_cut 3 (Bool) (fun σ => [(8, .bool σ)]) (fun σ => []) (fun σ => σ = (decide (48 ≤ b_0) && decide (b_0 ≤ 57))) (fun L1 hL2 => ?_) ?_
 ·refine ops_split 5 (decide (48 ≤ b_0)) rfl (fun hg3 => ?_) (fun hg3 => ?_)
  ·skip
   refine ops_y (wg 2 true 5 rfl rfl rfl rfl) rfl (y_move rfl) ?_
   refine ops_y (wg 2 true 5 rfl rfl rfl rfl) rfl (y_leq rfl rfl) ?_
   refine oy rfl rfl (y_pick (b := true) rfl rfl) ?_
   refine ops_nil ?_
   exact goes_cut hL2 (decide (b_0 ≤ 57)) [] (qv1 rfl) (by decide) rfl (by rw [hg3]; simp)
  ·skip
   refine ops_no 2 true 5 rfl rfl rfl rfl rfl ?_
   refine ops_no 2 true 5 rfl rfl rfl rfl rfl ?_
   refine oy rfl rfl (y_pick (b := false) rfl rfl) ?_
   refine ops_nil ?_
   exact goes_cut hL2 false [] (qv1 rfl) (by decide) rfl (by rw [hg3]; simp)
 rintro _ rfl
 refine oy rfl rfl (y_assign rfl) ?_
 refine ops_nil ?_
 refine goes_code ?_
 refine run_ret ?_
 obtain rfl := some_eq h
 refine fin_slots [2] [.bool (decide (48 ≤ b_0) && decide (b_0 ≤ 57))] [] [] Tryz.results54 rfl (by decide) rfl ?_
 exact ⟨rfl, rfl⟩

def ref18_rest (b_0 : Int) : Option (Bool) :=
 obind (ref18_small b_0) fun r1 =>
 bindJ (S := Bool)
  (cond r1
   (some (.go true))
   (obind (ref18_digit b_0) fun r9 =>
   some (.go r9)))
 (fun b3 =>
  some (b3 || decide (b_0 = 95)))
theorem ref18_rest_ok (b_0 : Int)  {r : Bool} (h : ref18_rest b_0 = some r) :
  Meets Tryz.prog 75 [.int .u8 b_0] [] (fun v G => v = .bool r ∧ G = []) := by
 refine fn_of_run Tryz.func75 rfl Tryz.ntmps75 rfl (fun w0 o0 => ?_)
 refine run_seq ?_
 refine run_region' ?_
 refine oy rfl rfl (y_assign rfl) ?_
 refine ops_nil ?_
 refine goes_code ?_
 refine run_seq ?_
 refine run_region' ?_
 refine oy rfl rfl (y_move rfl) ?_
 obtain ⟨r1, hr2, h⟩ := obind_some h
 refine ot rfl rfl (t_callx (vs := [.int .u8 b_0]) (cs := []) [] rfl Tryz.call52 rfl (ref18_small_ok  b_0  hr2) showsX_nil rfl (.inl rfl)) ?_
 rintro _ _ ⟨_, ⟨rfl, rfl⟩, rfl⟩
 refine oy rfl rfl (y_move rfl) ?_
 obtain ⟨o4, h, ho5⟩ := bindJ_some h
 refine ops_cut 3 (Bool) (fun σ => [(0, .int .u8 b_0), (8, .bool σ)]) (fun σ => []) (fun σ => o4 = .go σ) (fun L6 hL7 => ?_) ?_
 ·refine ops_split 5 r1 rfl (fun hg8 => ?_) (fun hg8 => ?_)
  ·replace h := cond_t h hg8
   refine ops_no 2 false 5 rfl rfl rfl rfl rfl ?_
   refine ops_no 2 false 5 rfl rfl rfl rfl rfl ?_
   refine oy rfl rfl (y_pick (b := true) rfl rfl) ?_
   refine ops_nil ?_
   obtain rfl := some_eq h
   exact goes_cut hL7 true [] (qv2 rfl rfl) (by decide) rfl rfl
  ·replace h := cond_f h hg8
   refine ops_y (wg 2 false 5 rfl rfl rfl rfl) rfl (y_move rfl) ?_
   obtain ⟨r9, hr10, h⟩ := obind_some h
   refine ops_t (wg 2 false 5 rfl rfl rfl rfl) rfl (t_callx (vs := [.int .u8 b_0]) (cs := []) [] rfl Tryz.call54 rfl (ref18_digit_ok  b_0  hr10) showsX_nil rfl (.inl rfl)) ?_
   rintro _ _ ⟨_, ⟨rfl, rfl⟩, rfl⟩
   refine oy rfl rfl (y_pick (b := false) rfl rfl) ?_
   refine ops_nil ?_
   obtain rfl := some_eq h
   exact goes_cut hL7 r9 [] (qv2 rfl rfl) (by decide) rfl rfl
 rintro b3 hj
 obtain rfl : o4 = _ := hj
 replace h := after_go ho5
 clear ho5
 refine oy rfl rfl (y_move rfl) ?_
 refine ops_cut 3 (Bool) (fun σ => [(12, .bool σ)]) (fun σ => []) (fun σ => σ = (b3 || decide (b_0 = 95))) (fun L11 hL12 => ?_) ?_
 ·refine ops_split 9 b3 rfl (fun hg13 => ?_) (fun hg13 => ?_)
  ·skip
   refine ops_no 6 false 9 rfl rfl rfl rfl rfl ?_
   refine ops_no 6 false 9 rfl rfl rfl rfl rfl ?_
   refine oy rfl rfl (y_pick (b := true) rfl rfl) ?_
   refine ops_nil ?_
   exact goes_cut hL12 true [] (qv1 rfl) (by decide) rfl (by rw [hg13]; simp)
  ·skip
   refine ops_y (wg 6 false 9 rfl rfl rfl rfl) rfl (y_move rfl) ?_
   refine ops_y (wg 6 false 9 rfl rfl rfl rfl) rfl (y_eql rfl rfl) ?_
   refine oy rfl rfl (y_pick (b := false) rfl rfl) ?_
   refine ops_nil ?_
   exact goes_cut hL12 (decide (b_0 = 95)) [] (qv1 rfl) (by decide) rfl (by rw [hg13]; simp)
 rintro _ rfl
 refine oy rfl rfl (y_assign rfl) ?_
 refine ops_nil ?_
 refine goes_code ?_
 refine run_ret ?_
 obtain rfl := some_eq h
 refine fin_slots [2] [.bool (b3 || decide (b_0 = 95))] [] [] Tryz.results75 rfl (by decide) rfl ?_
 exact ⟨rfl, rfl⟩

def ref18_Words  : Option ((List (List UInt8))) :=
 some ([[97, 108, 108, 111, 119], [97, 110, 100], [99, 108, 105, 101, 110, 116, 115], [99, 111, 115, 116], [99, 111, 117, 110, 116, 114, 105, 101, 115], [100, 101, 102, 97, 117, 108, 116], [100, 101, 110, 121], [100, 111, 119, 110], [101, 102, 102, 101, 99, 116, 115], [101, 108, 115, 101], [102, 97, 108, 115, 101], [102, 114, 101, 115, 104], [102, 114, 111, 109], [104, 101, 97, 100, 101, 114], [105, 102], [105, 110], [108, 101, 116], [108, 111, 103], [110, 101, 103, 97, 116, 105, 118, 101], [110, 111, 116], [111, 114], [112, 97, 116, 116, 101, 114, 110], [112, 111, 108, 105, 99, 121], [112, 114, 111, 103, 114, 97, 109], [114, 101, 97, 100, 115], [114, 101, 112, 101, 97, 116], [114, 101, 112, 108, 121], [114, 117, 108, 101], [115, 101, 116], [115, 105, 103, 110, 101, 100], [115, 105, 116, 101, 115], [115, 116, 97, 108, 101], [115, 116, 97, 116, 117, 115], [116, 97, 103, 115], [116, 111], [116, 114, 117, 101], [117, 115, 101, 115], [118, 97, 114, 121], [119, 114, 105, 116, 101, 115]] : List (List UInt8))
theorem ref18_Words_ok   {r : (List (List UInt8))} (h : ref18_Words = some r) :
  Meets Tryz.prog 17 [] [] (fun v G => ∃ v0, v = v0 ∧ G = [row v0 1 (r.map eStr)]) := by
 refine fn_of_run Tryz.func17 rfl Tryz.ntmps17 rfl (fun w0 o0 => ?_)
 refine run_seq ?_
 refine run_region' ?_
 refine oy rfl rfl (y_assign rfl) ?_
 refine ops_nil ?_
 refine goes_code ?_
 refine run_seq ?_
 refine run_region' ?_
 refine ot rfl rfl (t_lit [.string (bs [97, 108, 108, 111, 119]), .string (bs [97, 110, 100]), .string (bs [99, 108, 105, 101, 110, 116, 115]), .string (bs [99, 111, 115, 116]), .string (bs [99, 111, 117, 110, 116, 114, 105, 101, 115]), .string (bs [100, 101, 102, 97, 117, 108, 116]), .string (bs [100, 101, 110, 121]), .string (bs [100, 111, 119, 110]), .string (bs [101, 102, 102, 101, 99, 116, 115]), .string (bs [101, 108, 115, 101]), .string (bs [102, 97, 108, 115, 101]), .string (bs [102, 114, 101, 115, 104]), .string (bs [102, 114, 111, 109]), .string (bs [104, 101, 97, 100, 101, 114]), .string (bs [105, 102]), .string (bs [105, 110]), .string (bs [108, 101, 116]), .string (bs [108, 111, 103]), .string (bs [110, 101, 103, 97, 116, 105, 118, 101]), .string (bs [110, 111, 116]), .string (bs [111, 114]), .string (bs [112, 97, 116, 116, 101, 114, 110]), .string (bs [112, 111, 108, 105, 99, 121]), .string (bs [112, 114, 111, 103, 114, 97, 109]), .string (bs [114, 101, 97, 100, 115]), .string (bs [114, 101, 112, 101, 97, 116]), .string (bs [114, 101, 112, 108, 121]), .string (bs [114, 117, 108, 101]), .string (bs [115, 101, 116]), .string (bs [115, 105, 103, 110, 101, 100]), .string (bs [115, 105, 116, 101, 115]), .string (bs [115, 116, 97, 108, 101]), .string (bs [115, 116, 97, 116, 117, 115]), .string (bs [116, 97, 103, 115]), .string (bs [116, 111]), .string (bs [116, 114, 117, 101]), .string (bs [117, 115, 101, 115]), .string (bs [118, 97, 114, 121]), .string (bs [119, 114, 105, 116, 101, 115])] Tryz.runUnderlying39 Tryz.sizeOf9 Tryz.zeroValue9 rfl (by decide) (by decide) rfl (by simp [Value.cells, boxP])) ?_
 rintro v1 _ ⟨rfl, _⟩
 refine ops_turn (retell 0 (g := row v1 1 (([[97, 108, 108, 111, 119], [97, 110, 100], [99, 108, 105, 101, 110, 116, 115], [99, 111, 115, 116], [99, 111, 117, 110, 116, 114, 105, 101, 115], [100, 101, 102, 97, 117, 108, 116], [100, 101, 110, 121], [100, 111, 119, 110], [101, 102, 102, 101, 99, 116, 115], [101, 108, 115, 101], [102, 97, 108, 115, 101], [102, 114, 101, 115, 104], [102, 114, 111, 109], [104, 101, 97, 100, 101, 114], [105, 102], [105, 110], [108, 101, 116], [108, 111, 103], [110, 101, 103, 97, 116, 105, 118, 101], [110, 111, 116], [111, 114], [112, 97, 116, 116, 101, 114, 110], [112, 111, 108, 105, 99, 121], [112, 114, 111, 103, 114, 97, 109], [114, 101, 97, 100, 115], [114, 101, 112, 101, 97, 116], [114, 101, 112, 108, 121], [114, 117, 108, 101], [115, 101, 116], [115, 105, 103, 110, 101, 100], [115, 105, 116, 101, 115], [115, 116, 97, 108, 101], [115, 116, 97, 116, 117, 115], [116, 97, 103, 115], [116, 111], [116, 114, 117, 101], [117, 115, 101, 115], [118, 97, 114, 121], [119, 114, 105, 116, 101, 115]] : List (List UInt8)).map eStr)) rfl rfl) ?_
 refine oy rfl rfl (y_assign rfl) ?_
 refine ops_nil ?_
 refine goes_code ?_
 refine run_ret ?_
 obtain rfl := some_eq h
 refine fin_slots [0] [v1] [0] [row v1 1 (([[97, 108, 108, 111, 119], [97, 110, 100], [99, 108, 105, 101, 110, 116, 115], [99, 111, 115, 116], [99, 111, 117, 110, 116, 114, 105, 101, 115], [100, 101, 102, 97, 117, 108, 116], [100, 101, 110, 121], [100, 111, 119, 110], [101, 102, 102, 101, 99, 116, 115], [101, 108, 115, 101], [102, 97, 108, 115, 101], [102, 114, 101, 115, 104], [102, 114, 111, 109], [104, 101, 97, 100, 101, 114], [105, 102], [105, 110], [108, 101, 116], [108, 111, 103], [110, 101, 103, 97, 116, 105, 118, 101], [110, 111, 116], [111, 114], [112, 97, 116, 116, 101, 114, 110], [112, 111, 108, 105, 99, 121], [112, 114, 111, 103, 114, 97, 109], [114, 101, 97, 100, 115], [114, 101, 112, 101, 97, 116], [114, 101, 112, 108, 121], [114, 117, 108, 101], [115, 101, 116], [115, 105, 103, 110, 101, 100], [115, 105, 116, 101, 115], [115, 116, 97, 108, 101], [115, 116, 97, 116, 117, 115], [116, 97, 103, 115], [116, 111], [116, 114, 117, 101], [117, 115, 101, 115], [118, 97, 114, 121], [119, 114, 105, 116, 101, 115]] : List (List UInt8)).map eStr)] Tryz.results17 rfl (by decide) rfl ?_
 exact ⟨_, rfl, rfl⟩

def ref18_Word_L1 (s_0 : (List UInt8)) (r1 : (List (List UInt8))) : (Int) → Option (Lp (Int) (Lp (Unit) (Bool))) :=
 fun i_8 =>
  cond (decide (i_8 < (r1.length : Int)))
   (idx r1 i_8 fun x14 =>
   cond (decide (x14 = s_0))
    (some (.stop (.stop true)))
    (some (.go (IntKind.i64.wrap (i_8 + 1)))))
   (some (.stop (.go ())))
def ref18_Word (n : Nat) (s_0 : (List UInt8)) : Option (Bool) :=
 obind (ref18_Words) fun r1 =>
 bindJ (S := Unit)
  (iter (ref18_Word_L1 s_0 r1) n 0)
 (fun _ =>
  some false)
theorem ref18_Word_ok (n : Nat) (s_0 : (List UInt8))  {r : Bool} (h : ref18_Word n s_0 = some r) :
  Meets Tryz.prog 19 [.string (bs s_0)] [] (fun v G => v = .bool r ∧ G = []) := by
 refine fn_of_run Tryz.func19 rfl Tryz.ntmps19 rfl (fun w0 o0 => ?_)
 refine run_seq ?_
 refine run_region' ?_
 refine oy rfl rfl (y_assign rfl) ?_
 refine ops_nil ?_
 refine goes_code ?_
 refine run_seq ?_
 refine run_region' ?_
 obtain ⟨r1, hr2, h⟩ := obind_some h
 refine ot rfl rfl (t_callx (vs := []) (cs := []) [] rfl Tryz.call17 rfl (ref18_Words_ok    hr2) showsX_nil rfl (.inl rfl)) ?_
 rintro v3 _ ⟨_, ⟨_, rfl, rfl⟩, rfl⟩
 refine oy rfl rfl (y_assign rfl) ?_
 refine ops_nil ?_
 refine goes_code ?_
 obtain ⟨o4, h, ho5⟩ := bindJ_some h
 refine run_cut ((Unit) × (Unit)) (fun σ => []) (fun σ => []) (fun σ => o4 = .go σ.1) (fun L7 hL6 => ?_) ?_
 ·
  refine run_seq ?_
  refine run_region' ?_
  refine oy rfl rfl (y_assign rfl) ?_
  refine ops_nil ?_
  refine goes_code ?_
  refine run_block ?_
  refine run_iter (step := ref18_Word_L1 s_0 r1) (n := n) (s0 := 0) h (G := Unit) () (fun σ γ => [(4, .int .i64 σ), (0, .string (bs s_0)), (3, v3)]) (fun σ γ => [row v3 1 (r1.map eStr)]) [0] (qv3 rfl rfl rfl) (by decide) rfl ?_
  rintro i_8 _ o9 h L12 hgo10 hstop11
  change Run _ _ _ (VF.of [(4, .int .i64 i_8), (0, .string (bs s_0)), (3, v3)]) [row v3 1 (r1.map eStr)]
  refine run_seq ?_
  refine run_seq ?_
  refine run_region' ?_
  refine oy rfl rfl (y_move rfl) ?_
  refine oy rfl rfl (y_move rfl) ?_
  refine oy rfl rfl ((y_len 0 rfl Tryz.runUnderlying39 rfl rfl reads_row).to (v_len eStr _)) ?_
  refine oy rfl rfl (y_lss rfl rfl) ?_
  refine ops_nil ?_
  refine goes_code ?_
  refine run_cond (decide (i_8 < (r1.length : Int))) rfl (fun hc13 => ?_) (fun hc13 => ?_)
  ·replace h := cond_t h hc13
   refine run_skip ?_
   refine goes_code ?_
   refine run_seq ?_
   refine run_block ?_
   refine run_seq ?_
   refine run_region' ?_
   refine oy rfl rfl (y_move rfl) ?_
   refine oy rfl rfl (y_move rfl) ?_
   obtain ⟨x14, hzx14, hlx14, hxx14, h⟩ := idx_some h
   refine oy rfl rfl (y_indexAddrI (kd := .i64) (i := i_8) 0 Tryz.runUnderlying39 Tryz.sizeOf9 rfl rfl rfl reads_row hzx14 (map_lt hlx14)) ?_
   refine oy rfl rfl (y_load_elem (i := i_8.toNat) 0 Tryz.isAgg9 rfl rfl reads_row (map_get hxx14)) ?_
   refine oy rfl rfl (y_move rfl) ?_
   refine oy rfl rfl (y_seql rfl rfl) ?_
   refine ops_nil ?_
   refine goes_code ?_
   refine run_cond (decide (x14 = s_0)) rfl (fun hc15 => ?_) (fun hc15 => ?_)
   ·replace h := cond_t h hc15
    refine run_seq ?_
    refine run_weak [] [] [] vnil (by decide) rfl ?_
    refine run_region' ?_
    refine oy rfl rfl (y_assign rfl) ?_
    refine ops_nil ?_
    refine goes_code ?_
    refine run_ret ?_
    obtain rfl := some_eq h
    obtain rfl := hstop11 _ rfl
    skip
    obtain rfl := after_stop ho5
    refine fin_slots [2] [.bool true] [] [] Tryz.results19 rfl (by decide) rfl ?_
    exact ⟨rfl, rfl⟩
   ·replace h := cond_f h hc15
    refine run_skip ?_
    refine goes_blk ?_
    refine goes_code ?_
    refine run_weak [(4, .int .i64 i_8), (0, .string (bs s_0)), (3, v3)] [0] [row v3 1 (r1.map eStr)] (qv3 rfl rfl rfl) (by decide) rfl ?_
    refine run_region' ?_
    refine oy rfl rfl (y_move rfl) ?_
    refine oy rfl rfl (y_add rfl rfl) ?_
    refine oy rfl rfl (y_assign rfl) ?_
    refine ops_nil ?_
    obtain rfl := some_eq h
    exact goes_iter hgo10 (IntKind.i64.wrap (i_8 + 1)) () [0] rfl (qv3 rfl rfl rfl) (by decide) rfl
  ·replace h := cond_f h hc13
   refine run_exit _ rfl ?_
   obtain rfl := some_eq h
   obtain rfl := hstop11 _ rfl
   exact goes_cut hL6 ((), ()) [] vnil (by decide) rfl rfl
 rintro ⟨_, _⟩ hj
 obtain rfl : o4 = _ := hj
 replace h := after_go ho5
 clear ho5
 change Run _ _ _ (VF.of []) []
 refine run_seq ?_
 refine run_region' ?_
 refine oy rfl rfl (y_assign rfl) ?_
 refine ops_nil ?_
 refine goes_code ?_
 refine run_ret ?_
 obtain rfl := some_eq h
 refine fin_slots [2] [.bool false] [] [] Tryz.results19 rfl (by decide) rfl ?_
 exact ⟨rfl, rfl⟩

def ref18_name_L1 (s_0 : (List UInt8)) : (Int) → Option (Lp (Int) (Lp (Int) (S_ref18_Got))) :=
 fun end_7 =>
  bindJ (S := Bool)
   (cond (decide (end_7 < (s_0.length : Int)))
    (idx s_0 end_7 fun c18 =>
    obind (ref18_rest (c18.toNat : Int)) fun r19 =>
    some (.go r19))
    (some (.go false)))
  (fun b12 =>
   cond b12
    (some (.go (IntKind.i64.wrap (end_7 + 1))))
    (some (.stop (.go end_7))))
def ref18_name (n : Nat) (s_0 : (List UInt8)) (at_1 : Int) : Option (S_ref18_Got) :=
 bindJ (S := Int)
  (iter (ref18_name_L1 s_0) n at_1)
 (fun end_2 =>
  need (0 ≤ at_1 ∧ at_1 ≤ end_2 ∧ end_2 ≤ (s_0.length : Int)) (
  obind (ref18_Word n ((s_0.take end_2.toNat).drop at_1.toNat)) fun r24 =>
  cond r24
   (some (S_ref18_Got.mk (S_api_Lexeme.mk 2 at_1 ((s_0.take end_2.toNat).drop at_1.toNat)) end_2 0))
   (cond (decide (40 < (((s_0.take end_2.toNat).drop at_1.toNat).length : Int)))
    (some (S_ref18_Got.mk (S_api_Lexeme.mk 0 0 []) 0 2))
    (some (S_ref18_Got.mk (S_api_Lexeme.mk 1 at_1 ((s_0.take end_2.toNat).drop at_1.toNat)) end_2 0)))))
theorem ref18_name_ok (n : Nat) (s_0 : (List UInt8)) (at_1 : Int)  {r : S_ref18_Got} (h : ref18_name n s_0 at_1 = some r) :
  Meets Tryz.prog 53 [.string (bs s_0), .int .i64 at_1] [] (fun v G => v = .agg #[.int .i64 r.T.Kind, .int .i64 r.T.At, .string (bs r.T.S), .int .i64 r.End, .int .i64 r.E] ∧ G = []) := by
 refine fn_of_run Tryz.func53 rfl Tryz.ntmps53 rfl (fun w0 o0 => ?_)
 refine run_seq ?_
 refine run_region' ?_
 refine ot rfl rfl (t_alloc Tryz.zeroValue72) ?_
 rintro _ _ ⟨b1, rfl, rfl⟩
 refine ops_nil ?_
 refine goes_code ?_
 refine run_seq ?_
 refine run_region' ?_
 refine oy rfl rfl (y_move rfl) ?_
 refine oy rfl rfl (y_assign rfl) ?_
 refine ops_nil ?_
 refine goes_code ?_
 obtain ⟨o3, h, ho4⟩ := bindJ_some h
 refine run_cut ((Int) × (Unit)) (fun σ => [(5, .int .i64 σ.1), (0, .string (bs s_0)), (1, .int .i64 at_1), (4, boxP b1 0)]) (fun σ => [box b1 [.int .i64 0, .int .i64 0, .string (bs []), .int .i64 0, .int .i64 0]]) (fun σ => o3 = .go σ.1) (fun L6 hL5 => ?_) ?_
 ·
  refine run_block ?_
  refine run_iter (step := ref18_name_L1 s_0) (n := n) (s0 := at_1) h (G := Unit) () (fun σ γ => [(5, .int .i64 σ), (0, .string (bs s_0)), (1, .int .i64 at_1), (4, boxP b1 0)]) (fun σ γ => [box b1 [.int .i64 0, .int .i64 0, .string (bs []), .int .i64 0, .int .i64 0]]) [0] (qv4 rfl rfl rfl rfl) (by decide) rfl ?_
  rintro end_7 _ o8 h L11 hgo9 hstop10
  change Run _ _ _ (VF.of [(5, .int .i64 end_7), (0, .string (bs s_0)), (1, .int .i64 at_1), (4, boxP b1 0)]) [box b1 [.int .i64 0, .int .i64 0, .string (bs []), .int .i64 0, .int .i64 0]]
  refine run_seq ?_
  refine run_seq ?_
  refine run_region' ?_
  refine oy rfl rfl (y_move rfl) ?_
  refine oy rfl rfl (y_move rfl) ?_
  refine oy rfl rfl (y_len_str rfl Tryz.runUnderlying9 rfl) ?_
  refine oy rfl rfl (y_lss rfl rfl) ?_
  refine oy rfl rfl (y_move rfl) ?_
  obtain ⟨o13, h, ho14⟩ := bindJ_some h
  refine ops_cut 5 (Bool) (fun σ => [(5, .int .i64 end_7), (0, .string (bs s_0)), (1, .int .i64 at_1), (4, boxP b1 0), (17, .bool σ)]) (fun σ => [box b1 [.int .i64 0, .int .i64 0, .string (bs []), .int .i64 0, .int .i64 0]]) (fun σ => o13 = .go σ) (fun L15 hL16 => ?_) ?_
  ·refine ops_split 12 (decide (end_7 < (s_0.length : Int))) rfl (fun hg17 => ?_) (fun hg17 => ?_)
   ·replace h := cond_t h hg17
    refine ops_y (wg 4 true 12 rfl rfl rfl rfl) rfl (y_move rfl) ?_
    refine ops_y (wg 4 true 12 rfl rfl rfl rfl) rfl (y_move rfl) ?_
    obtain ⟨c18, hzc18, hlc18, hxc18, h⟩ := idx_some h
    refine ops_y (wg 4 true 12 rfl rfl rfl rfl) rfl (y_index_strI (kd := .i64) (i := end_7) Tryz.runUnderlying9 rfl rfl hzc18 hxc18) ?_
    obtain ⟨r19, hr20, h⟩ := obind_some h
    refine ops_t (wg 4 true 12 rfl rfl rfl rfl) rfl (t_callx (vs := [.int .u8 (c18.toNat : Int)]) (cs := []) [] rfl Tryz.call75 rfl (ref18_rest_ok  (c18.toNat : Int)  hr20) showsX_nil rfl (.inl rfl)) ?_
    rintro _ _ ⟨_, ⟨rfl, rfl⟩, rfl⟩
    refine oy rfl rfl (y_pick (b := true) rfl rfl) ?_
    refine ops_nil ?_
    obtain rfl := some_eq h
    exact goes_cut hL16 r19 [0] (qv5 rfl rfl rfl rfl rfl) (by decide) rfl rfl
   ·replace h := cond_f h hg17
    refine ops_no 4 true 12 rfl rfl rfl rfl rfl ?_
    refine ops_no 4 true 12 rfl rfl rfl rfl rfl ?_
    refine ops_no 4 true 12 rfl rfl rfl rfl rfl ?_
    refine ops_no 4 true 12 rfl rfl rfl rfl rfl ?_
    refine oy rfl rfl (y_pick (b := false) rfl rfl) ?_
    refine ops_nil ?_
    obtain rfl := some_eq h
    exact goes_cut hL16 false [0] (qv5 rfl rfl rfl rfl rfl) (by decide) rfl rfl
  rintro b12 hj
  obtain rfl : o13 = _ := hj
  replace h := after_go ho14
  clear ho14
  refine ops_nil ?_
  refine goes_code ?_
  refine run_cond b12 rfl (fun hc21 => ?_) (fun hc21 => ?_)
  ·replace h := cond_t h hc21
   refine run_skip ?_
   refine goes_code ?_
   refine run_block ?_
   refine run_region' ?_
   refine oy rfl rfl (y_move rfl) ?_
   refine oy rfl rfl (y_add rfl rfl) ?_
   refine oy rfl rfl (y_assign rfl) ?_
   refine ops_nil ?_
   refine goes_blk ?_
   obtain rfl := some_eq h
   exact goes_iter hgo9 (IntKind.i64.wrap (end_7 + 1)) () [0] rfl (qv4 rfl rfl rfl rfl) (by decide) rfl
  ·replace h := cond_f h hc21
   refine run_exit _ rfl ?_
   obtain rfl := some_eq h
   obtain rfl := hstop10 _ rfl
   exact goes_cut hL5 (end_7, ()) [0] (qv4 rfl rfl rfl rfl) (by decide) rfl rfl
 rintro ⟨end_2, _⟩ hj
 obtain rfl : o3 = _ := hj
 replace h := after_go ho4
 clear ho4
 change Run _ _ _ (VF.of [(5, .int .i64 end_2), (0, .string (bs s_0)), (1, .int .i64 at_1), (4, boxP b1 0)]) [box b1 [.int .i64 0, .int .i64 0, .string (bs []), .int .i64 0, .int .i64 0]]
 refine run_seq ?_
 refine run_region' ?_
 refine oy rfl rfl (y_move rfl) ?_
 refine oy rfl rfl (y_move rfl) ?_
 refine oy rfl rfl (y_move rfl) ?_
 refine oy rfl rfl (y_move rfl) ?_
 obtain ⟨hb22, h⟩ := need_some h
 refine oy rfl rfl (y_slice_str (l := at_1) (r := end_2) Tryz.runUnderlying9 rfl (bi1 (kd := .i64) rfl) (bi1 (kd := .i64) rfl) hb22.1 hb22.2.1 hb22.2.2) ?_
 refine oy rfl rfl (y_build_struct (cells := #[.int .i64 1, .int .i64 at_1, .string (bs ((s_0.take end_2.toNat).drop at_1.toNat))]) [(0, .int .i64 1), (1, .int .i64 at_1), (2, .string (bs ((s_0.take end_2.toNat).drop at_1.toNat)))] [(0, [.int .i64 1]), (1, [.int .i64 at_1]), (2, [.string (bs ((s_0.take end_2.toNat).drop at_1.toNat))])] Tryz.zeroValue44 Tryz.runUnderlying44 (fs_cons Tryz.sizeOf3 (fs_cons Tryz.sizeOf3 (fs_cons Tryz.sizeOf9 fs_nil))) rfl rfl rfl) ?_
 refine ot rfl rfl (t_alloc Tryz.zeroValue44) ?_
 rintro _ _ ⟨b23, rfl, rfl⟩
 refine ot rfl rfl (t_store 1 Tryz.sizeOf44 rfl rfl rfl rfl (by simp [Value.cells, boxP]) (by simp [Value.cells, Value.oneCell', boxP])) ?_
 rintro _ _ ⟨rfl, rfl⟩
 refine ops_turn (retell 1 (g := box b23 [.int .i64 1, .int .i64 at_1, .string (bs ((s_0.take end_2.toNat).drop at_1.toNat))]) rfl rfl) ?_
 refine ops_nil ?_
 refine goes_code ?_
 refine run_seq ?_
 refine run_seq ?_
 refine run_weak [(5, .int .i64 end_2), (4, boxP b1 0), (6, boxP b23 0)] [0, 1] [box b1 [.int .i64 0, .int .i64 0, .string (bs []), .int .i64 0, .int .i64 0], box b23 [.int .i64 1, .int .i64 at_1, .string (bs ((s_0.take end_2.toNat).drop at_1.toNat))]] (qv3 rfl rfl rfl) (by decide) rfl ?_
 refine run_region' ?_
 refine oy rfl rfl (y_fieldAddr_box (sz := 0) Tryz.runUnderlying44 rfl Tryz.sizeOf9 rfl) ?_
 refine oy rfl rfl (y_load_box 1 Tryz.isAgg9 rfl rfl rfl) ?_
 obtain ⟨r24, hr25, h⟩ := obind_some h
 refine ot rfl rfl (t_callx (vs := [.string (bs ((s_0.take end_2.toNat).drop at_1.toNat))]) (cs := []) [] rfl Tryz.call19 rfl (ref18_Word_ok n  ((s_0.take end_2.toNat).drop at_1.toNat)  hr25) showsX_nil rfl (.inl rfl)) ?_
 rintro _ _ ⟨_, ⟨rfl, rfl⟩, rfl⟩
 refine ops_nil ?_
 refine goes_code ?_
 refine run_cond r24 rfl (fun hc26 => ?_) (fun hc26 => ?_)
 ·replace h := cond_t h hc26
  refine run_seq ?_
  refine run_region' ?_
  refine oy rfl rfl (y_fieldAddr_box (sz := 0) Tryz.runUnderlying44 rfl Tryz.sizeOf3 rfl) ?_
  refine ot rfl rfl (t_store 1 Tryz.sizeOf3 rfl rfl rfl rfl (by simp [Value.cells, boxP]) (by simp [Value.cells, Value.oneCell', boxP])) ?_
  rintro _ _ ⟨rfl, rfl⟩
  refine ops_turn (retell 1 (g := box b23 [.int .i64 2, .int .i64 at_1, .string (bs ((s_0.take end_2.toNat).drop at_1.toNat))]) rfl rfl) ?_
  refine ops_nil ?_
  refine goes_code ?_
  refine run_seq ?_
  refine run_region' ?_
  refine oy rfl rfl (y_load_boxagg (c := [.int .i64 2, .int .i64 at_1, .string (bs ((s_0.take end_2.toNat).drop at_1.toNat))]) 1 Tryz.isAgg44 Tryz.sizeOf44 rfl rfl rfl) ?_
  refine oy rfl rfl (y_move rfl) ?_
  refine oy rfl rfl (y_build_struct (cells := #[.int .i64 2, .int .i64 at_1, .string (bs ((s_0.take end_2.toNat).drop at_1.toNat)), .int .i64 end_2, .int .i64 0]) [(0, .agg #[.int .i64 2, .int .i64 at_1, .string (bs ((s_0.take end_2.toNat).drop at_1.toNat))]), (1, .int .i64 end_2)] [(0, [.int .i64 2, .int .i64 at_1, .string (bs ((s_0.take end_2.toNat).drop at_1.toNat))]), (1, [.int .i64 end_2])] Tryz.zeroValue72 Tryz.runUnderlying72 (fs_cons Tryz.sizeOf44 (fs_cons Tryz.sizeOf3 (fs_cons Tryz.sizeOf24 fs_nil))) rfl rfl rfl) ?_
  refine ot rfl rfl (t_store 0 Tryz.sizeOf72 rfl rfl rfl rfl (by simp [Value.cells, boxP]) (by simp [Value.cells, Value.oneCell', boxP])) ?_
  rintro _ _ ⟨rfl, rfl⟩
  refine ops_turn (retell 0 (g := box b1 [.int .i64 2, .int .i64 at_1, .string (bs ((s_0.take end_2.toNat).drop at_1.toNat)), .int .i64 end_2, .int .i64 0]) rfl rfl) ?_
  refine ops_nil ?_
  refine goes_code ?_
  refine run_ret ?_
  obtain rfl := some_eq h
  refine fin_res [.cell 4 72] [.agg #[.int .i64 2, .int .i64 at_1, .string (bs ((s_0.take end_2.toNat).drop at_1.toNat)), .int .i64 end_2, .int .i64 0]] [] [] Tryz.results53 rfl (rescons (res_box 0 Tryz.isAgg72 Tryz.sizeOf72 rfl rfl rfl) resnil) (by decide) rfl ?_
  exact ⟨rfl, rfl⟩
 ·replace h := cond_f h hc26
  refine run_skip ?_
  refine goes_code ?_
  refine run_seq ?_
  refine run_seq ?_
  refine run_region' ?_
  refine oy rfl rfl (y_fieldAddr_box (sz := 0) Tryz.runUnderlying44 rfl Tryz.sizeOf9 rfl) ?_
  refine oy rfl rfl (y_load_box 1 Tryz.isAgg9 rfl rfl rfl) ?_
  refine oy rfl rfl (y_len_str rfl Tryz.runUnderlying9 rfl) ?_
  refine oy rfl rfl (y_gtr rfl rfl) ?_
  refine ops_nil ?_
  refine goes_code ?_
  refine run_cond (decide (40 < (((s_0.take end_2.toNat).drop at_1.toNat).length : Int))) rfl (fun hc27 => ?_) (fun hc27 => ?_)
  ·replace h := cond_t h hc27
   refine run_seq ?_
   refine run_region' ?_
   refine oy rfl rfl (y_build_struct (cells := #[.int .i64 0, .int .i64 0, .string (bs []), .int .i64 0, .int .i64 2]) [(2, .int .i64 2)] [(2, [.int .i64 2])] Tryz.zeroValue72 Tryz.runUnderlying72 (fs_cons Tryz.sizeOf44 (fs_cons Tryz.sizeOf3 (fs_cons Tryz.sizeOf24 fs_nil))) rfl rfl rfl) ?_
   refine ot rfl rfl (t_store 0 Tryz.sizeOf72 rfl rfl rfl rfl (by simp [Value.cells, boxP]) (by simp [Value.cells, Value.oneCell', boxP])) ?_
   rintro _ _ ⟨rfl, rfl⟩
   refine ops_turn (retell 0 (g := box b1 [.int .i64 0, .int .i64 0, .string (bs []), .int .i64 0, .int .i64 2]) rfl rfl) ?_
   refine ops_nil ?_
   refine goes_code ?_
   refine run_ret ?_
   obtain rfl := some_eq h
   refine fin_res [.cell 4 72] [.agg #[.int .i64 0, .int .i64 0, .string (bs []), .int .i64 0, .int .i64 2]] [] [] Tryz.results53 rfl (rescons (res_box 0 Tryz.isAgg72 Tryz.sizeOf72 rfl rfl rfl) resnil) (by decide) rfl ?_
   exact ⟨rfl, rfl⟩
  ·replace h := cond_f h hc27
   refine run_skip ?_
   refine goes_code ?_
   refine run_seq ?_
   refine run_region' ?_
   refine oy rfl rfl (y_load_boxagg (c := [.int .i64 1, .int .i64 at_1, .string (bs ((s_0.take end_2.toNat).drop at_1.toNat))]) 1 Tryz.isAgg44 Tryz.sizeOf44 rfl rfl rfl) ?_
   refine oy rfl rfl (y_move rfl) ?_
   refine oy rfl rfl (y_build_struct (cells := #[.int .i64 1, .int .i64 at_1, .string (bs ((s_0.take end_2.toNat).drop at_1.toNat)), .int .i64 end_2, .int .i64 0]) [(0, .agg #[.int .i64 1, .int .i64 at_1, .string (bs ((s_0.take end_2.toNat).drop at_1.toNat))]), (1, .int .i64 end_2)] [(0, [.int .i64 1, .int .i64 at_1, .string (bs ((s_0.take end_2.toNat).drop at_1.toNat))]), (1, [.int .i64 end_2])] Tryz.zeroValue72 Tryz.runUnderlying72 (fs_cons Tryz.sizeOf44 (fs_cons Tryz.sizeOf3 (fs_cons Tryz.sizeOf24 fs_nil))) rfl rfl rfl) ?_
   refine ot rfl rfl (t_store 0 Tryz.sizeOf72 rfl rfl rfl rfl (by simp [Value.cells, boxP]) (by simp [Value.cells, Value.oneCell', boxP])) ?_
   rintro _ _ ⟨rfl, rfl⟩
   refine ops_turn (retell 0 (g := box b1 [.int .i64 1, .int .i64 at_1, .string (bs ((s_0.take end_2.toNat).drop at_1.toNat)), .int .i64 end_2, .int .i64 0]) rfl rfl) ?_
   refine ops_nil ?_
   refine goes_code ?_
   refine run_ret ?_
   obtain rfl := some_eq h
   refine fin_res [.cell 4 72] [.agg #[.int .i64 1, .int .i64 at_1, .string (bs ((s_0.take end_2.toNat).drop at_1.toNat)), .int .i64 end_2, .int .i64 0]] [] [] Tryz.results53 rfl (rescons (res_box 0 Tryz.isAgg72 Tryz.sizeOf72 rfl rfl rfl) resnil) (by decide) rfl ?_
   exact ⟨rfl, rfl⟩

def ref18_letter (b_0 : Int) : Option (Bool) :=
 obind (ref18_small b_0) fun r1 =>
 some ((r1 || (decide (65 ≤ b_0) && decide (b_0 ≤ 90))) || decide (b_0 = 95))
theorem ref18_letter_ok (b_0 : Int)  {r : Bool} (h : ref18_letter b_0 = some r) :
  Meets Tryz.prog 76 [.int .u8 b_0] [] (fun v G => v = .bool r ∧ G = []) := by
 refine fn_of_run Tryz.func76 rfl Tryz.ntmps76 rfl (fun w0 o0 => ?_)
 refine run_seq ?_
 refine run_region' ?_
 refine oy rfl rfl (y_assign rfl) ?_
 refine ops_nil ?_
 refine goes_code ?_
 refine run_seq ?_
 refine run_region' ?_
 refine oy rfl rfl (y_move rfl) ?_
 obtain ⟨r1, hr2, h⟩ := obind_some h
 refine ot rfl rfl (t_callx (vs := [.int .u8 b_0]) (cs := []) [] rfl Tryz.call52 rfl (ref18_small_ok  b_0  hr2) showsX_nil rfl (.inl rfl)) ?_
 rintro _ _ ⟨_, ⟨rfl, rfl⟩, rfl⟩
 refine oy rfl rfl (y_move rfl) ?_
 refine ops_cut 7 (Bool) (fun σ => [(0, .int .u8 b_0), (12, .bool σ)]) (fun σ => []) (fun σ => σ = (r1 || (decide (65 ≤ b_0) && decide (b_0 ≤ 90)))) (fun L3 hL4 => ?_) ?_
 ·refine ops_split 5 r1 rfl (fun hg5 => ?_) (fun hg5 => ?_)
  ·skip
   refine ops_no 2 false 5 rfl rfl rfl rfl rfl ?_
   refine ops_no 2 false 5 rfl rfl rfl rfl rfl ?_
   refine ops_no 2 false 5 rfl rfl rfl rfl rfl ?_
   refine ops_un 5 true 8 rfl rfl rfl rfl rfl ?_
   refine ops_un 5 true 8 rfl rfl rfl rfl rfl ?_
   refine ops_no 2 false 5 rfl rfl rfl rfl rfl ?_
   refine oy rfl rfl (y_pick (b := true) rfl rfl) ?_
   refine ops_nil ?_
   exact goes_cut hL4 true [] (qv2 rfl rfl) (by decide) rfl (by rw [hg5]; simp)
  ·skip
   refine ops_y (wg 2 false 5 rfl rfl rfl rfl) rfl (y_move rfl) ?_
   refine ops_y (wg 2 false 5 rfl rfl rfl rfl) rfl (y_geq rfl rfl) ?_
   refine ops_y (wg 2 false 5 rfl rfl rfl rfl) rfl (y_move rfl) ?_
   refine ops_cut 3 (Bool) (fun σ => [(0, .int .u8 b_0), (5, .bool false), (11, .bool σ)]) (fun σ => []) (fun σ => σ = (decide (65 ≤ b_0) && decide (b_0 ≤ 90))) (fun L6 hL7 => ?_) ?_
   ·refine ops_split 8 (decide (65 ≤ b_0)) rfl (fun hg8 => ?_) (fun hg8 => ?_)
    ·skip
     refine ops_y (wg 5 true 8 rfl rfl rfl rfl) rfl (y_move rfl) ?_
     refine ops_y (wg 5 true 8 rfl rfl rfl rfl) rfl (y_leq rfl rfl) ?_
     refine ops_y (wg 2 false 5 rfl rfl rfl rfl) rfl (y_pick (b := true) rfl rfl) ?_
     refine ops_nil ?_
     exact goes_cut hL7 (decide (b_0 ≤ 90)) [] (qv3 rfl rfl rfl) (by decide) rfl (by rw [hg8]; simp)
    ·skip
     refine ops_no 5 true 8 rfl rfl rfl rfl rfl ?_
     refine ops_no 5 true 8 rfl rfl rfl rfl rfl ?_
     refine ops_y (wg 2 false 5 rfl rfl rfl rfl) rfl (y_pick (b := false) rfl rfl) ?_
     refine ops_nil ?_
     exact goes_cut hL7 false [] (qv3 rfl rfl rfl) (by decide) rfl (by rw [hg8]; simp)
   rintro _ rfl
   refine oy rfl rfl (y_pick (b := false) rfl rfl) ?_
   refine ops_nil ?_
   exact goes_cut hL4 (decide (65 ≤ b_0) && decide (b_0 ≤ 90)) [] (qv2 rfl rfl) (by decide) rfl (by rw [hg5]; simp)
 rintro _ rfl
 refine oy rfl rfl (y_move rfl) ?_
 refine ops_cut 3 (Bool) (fun σ => [(16, .bool σ)]) (fun σ => []) (fun σ => σ = ((r1 || (decide (65 ≤ b_0) && decide (b_0 ≤ 90))) || decide (b_0 = 95))) (fun L9 hL10 => ?_) ?_
 ·refine ops_split 13 (r1 || (decide (65 ≤ b_0) && decide (b_0 ≤ 90))) rfl (fun hg11 => ?_) (fun hg11 => ?_)
  ·skip
   refine ops_no 10 false 13 rfl rfl rfl rfl rfl ?_
   refine ops_no 10 false 13 rfl rfl rfl rfl rfl ?_
   refine oy rfl rfl (y_pick (b := true) rfl rfl) ?_
   refine ops_nil ?_
   exact goes_cut hL10 true [] (qv1 rfl) (by decide) rfl (by rw [hg11]; simp)
  ·skip
   refine ops_y (wg 10 false 13 rfl rfl rfl rfl) rfl (y_move rfl) ?_
   refine ops_y (wg 10 false 13 rfl rfl rfl rfl) rfl (y_eql rfl rfl) ?_
   refine oy rfl rfl (y_pick (b := false) rfl rfl) ?_
   refine ops_nil ?_
   exact goes_cut hL10 (decide (b_0 = 95)) [] (qv1 rfl) (by decide) rfl (by rw [hg11]; simp)
 rintro _ rfl
 refine oy rfl rfl (y_assign rfl) ?_
 refine ops_nil ?_
 refine goes_code ?_
 refine run_ret ?_
 obtain rfl := some_eq h
 refine fin_slots [2] [.bool ((r1 || (decide (65 ≤ b_0) && decide (b_0 ≤ 90))) || decide (b_0 = 95))] [] [] Tryz.results76 rfl (by decide) rfl ?_
 exact ⟨rfl, rfl⟩

def ref18_number_L1 (s_0 : (List UInt8)) : (Int) → Option (Lp (Int) (Lp (Int) (S_ref18_Got))) :=
 fun end_7 =>
  bindJ (S := Bool)
   (cond (decide (end_7 < (s_0.length : Int)))
    (idx s_0 end_7 fun c18 =>
    obind (ref18_digit (c18.toNat : Int)) fun r19 =>
    some (.go r19))
    (some (.go false)))
  (fun b12 =>
   cond b12
    (some (.go (IntKind.i64.wrap (end_7 + 1))))
    (some (.stop (.go end_7))))
def ref18_number (n : Nat) (s_0 : (List UInt8)) (at_1 : Int) : Option (S_ref18_Got) :=
 bindJ (S := Int)
  (iter (ref18_number_L1 s_0) n at_1)
 (fun end_2 =>
  bindJ (S := Bool)
   (cond (decide (18 < (IntKind.i64.wrap (end_2 - at_1))))
    (some (.go true))
    (idx s_0 at_1 fun c28 =>
    some (.go (decide ((c28.toNat : Int) = 48) && decide (1 < (IntKind.i64.wrap (end_2 - at_1)))))))
  (fun b22 =>
   bindJ (S := Bool)
    (cond b22
     (some (.go true))
     (bindJ (S := Bool)
      (cond (decide (end_2 < (s_0.length : Int)))
       (idx s_0 end_2 fun c44 =>
       obind (ref18_letter (c44.toNat : Int)) fun r45 =>
       some (.go r45))
       (some (.go false)))
     (fun b38 =>
      some (.go b38))))
   (fun b32 =>
    cond b32
     (some (S_ref18_Got.mk (S_api_Lexeme.mk 0 0 []) 0 181))
     (need (0 ≤ at_1 ∧ at_1 ≤ end_2 ∧ end_2 ≤ (s_0.length : Int)) (
     some (S_ref18_Got.mk (S_api_Lexeme.mk 3 at_1 ((s_0.take end_2.toNat).drop at_1.toNat)) end_2 0))))))
theorem ref18_number_ok (n : Nat) (s_0 : (List UInt8)) (at_1 : Int)  {r : S_ref18_Got} (h : ref18_number n s_0 at_1 = some r) :
  Meets Tryz.prog 55 [.string (bs s_0), .int .i64 at_1] [] (fun v G => v = .agg #[.int .i64 r.T.Kind, .int .i64 r.T.At, .string (bs r.T.S), .int .i64 r.End, .int .i64 r.E] ∧ G = []) := by
 refine fn_of_run Tryz.func55 rfl Tryz.ntmps55 rfl (fun w0 o0 => ?_)
 refine run_seq ?_
 refine run_region' ?_
 refine ot rfl rfl (t_alloc Tryz.zeroValue72) ?_
 rintro _ _ ⟨b1, rfl, rfl⟩
 refine ops_nil ?_
 refine goes_code ?_
 refine run_seq ?_
 refine run_region' ?_
 refine oy rfl rfl (y_move rfl) ?_
 refine oy rfl rfl (y_assign rfl) ?_
 refine ops_nil ?_
 refine goes_code ?_
 obtain ⟨o3, h, ho4⟩ := bindJ_some h
 refine run_cut ((Int) × (Unit)) (fun σ => [(5, .int .i64 σ.1), (0, .string (bs s_0)), (1, .int .i64 at_1), (4, boxP b1 0)]) (fun σ => [box b1 [.int .i64 0, .int .i64 0, .string (bs []), .int .i64 0, .int .i64 0]]) (fun σ => o3 = .go σ.1) (fun L6 hL5 => ?_) ?_
 ·
  refine run_block ?_
  refine run_iter (step := ref18_number_L1 s_0) (n := n) (s0 := at_1) h (G := Unit) () (fun σ γ => [(5, .int .i64 σ), (0, .string (bs s_0)), (1, .int .i64 at_1), (4, boxP b1 0)]) (fun σ γ => [box b1 [.int .i64 0, .int .i64 0, .string (bs []), .int .i64 0, .int .i64 0]]) [0] (qv4 rfl rfl rfl rfl) (by decide) rfl ?_
  rintro end_7 _ o8 h L11 hgo9 hstop10
  change Run _ _ _ (VF.of [(5, .int .i64 end_7), (0, .string (bs s_0)), (1, .int .i64 at_1), (4, boxP b1 0)]) [box b1 [.int .i64 0, .int .i64 0, .string (bs []), .int .i64 0, .int .i64 0]]
  refine run_seq ?_
  refine run_seq ?_
  refine run_region' ?_
  refine oy rfl rfl (y_move rfl) ?_
  refine oy rfl rfl (y_move rfl) ?_
  refine oy rfl rfl (y_len_str rfl Tryz.runUnderlying9 rfl) ?_
  refine oy rfl rfl (y_lss rfl rfl) ?_
  refine oy rfl rfl (y_move rfl) ?_
  obtain ⟨o13, h, ho14⟩ := bindJ_some h
  refine ops_cut 5 (Bool) (fun σ => [(5, .int .i64 end_7), (0, .string (bs s_0)), (1, .int .i64 at_1), (4, boxP b1 0), (16, .bool σ)]) (fun σ => [box b1 [.int .i64 0, .int .i64 0, .string (bs []), .int .i64 0, .int .i64 0]]) (fun σ => o13 = .go σ) (fun L15 hL16 => ?_) ?_
  ·refine ops_split 11 (decide (end_7 < (s_0.length : Int))) rfl (fun hg17 => ?_) (fun hg17 => ?_)
   ·replace h := cond_t h hg17
    refine ops_y (wg 4 true 11 rfl rfl rfl rfl) rfl (y_move rfl) ?_
    refine ops_y (wg 4 true 11 rfl rfl rfl rfl) rfl (y_move rfl) ?_
    obtain ⟨c18, hzc18, hlc18, hxc18, h⟩ := idx_some h
    refine ops_y (wg 4 true 11 rfl rfl rfl rfl) rfl (y_index_strI (kd := .i64) (i := end_7) Tryz.runUnderlying9 rfl rfl hzc18 hxc18) ?_
    obtain ⟨r19, hr20, h⟩ := obind_some h
    refine ops_t (wg 4 true 11 rfl rfl rfl rfl) rfl (t_callx (vs := [.int .u8 (c18.toNat : Int)]) (cs := []) [] rfl Tryz.call54 rfl (ref18_digit_ok  (c18.toNat : Int)  hr20) showsX_nil rfl (.inl rfl)) ?_
    rintro _ _ ⟨_, ⟨rfl, rfl⟩, rfl⟩
    refine oy rfl rfl (y_pick (b := true) rfl rfl) ?_
    refine ops_nil ?_
    obtain rfl := some_eq h
    exact goes_cut hL16 r19 [0] (qv5 rfl rfl rfl rfl rfl) (by decide) rfl rfl
   ·replace h := cond_f h hg17
    refine ops_no 4 true 11 rfl rfl rfl rfl rfl ?_
    refine ops_no 4 true 11 rfl rfl rfl rfl rfl ?_
    refine ops_no 4 true 11 rfl rfl rfl rfl rfl ?_
    refine ops_no 4 true 11 rfl rfl rfl rfl rfl ?_
    refine oy rfl rfl (y_pick (b := false) rfl rfl) ?_
    refine ops_nil ?_
    obtain rfl := some_eq h
    exact goes_cut hL16 false [0] (qv5 rfl rfl rfl rfl rfl) (by decide) rfl rfl
  rintro b12 hj
  obtain rfl : o13 = _ := hj
  replace h := after_go ho14
  clear ho14
  refine ops_nil ?_
  refine goes_code ?_
  refine run_cond b12 rfl (fun hc21 => ?_) (fun hc21 => ?_)
  ·replace h := cond_t h hc21
   refine run_skip ?_
   refine goes_code ?_
   refine run_block ?_
   refine run_region' ?_
   refine oy rfl rfl (y_move rfl) ?_
   refine oy rfl rfl (y_add rfl rfl) ?_
   refine oy rfl rfl (y_assign rfl) ?_
   refine ops_nil ?_
   refine goes_blk ?_
   obtain rfl := some_eq h
   exact goes_iter hgo9 (IntKind.i64.wrap (end_7 + 1)) () [0] rfl (qv4 rfl rfl rfl rfl) (by decide) rfl
  ·replace h := cond_f h hc21
   refine run_exit _ rfl ?_
   obtain rfl := some_eq h
   obtain rfl := hstop10 _ rfl
   exact goes_cut hL5 (end_7, ()) [0] (qv4 rfl rfl rfl rfl) (by decide) rfl rfl
 rintro ⟨end_2, _⟩ hj
 obtain rfl : o3 = _ := hj
 replace h := after_go ho4
 clear ho4
 change Run _ _ _ (VF.of [(5, .int .i64 end_2), (0, .string (bs s_0)), (1, .int .i64 at_1), (4, boxP b1 0)]) [box b1 [.int .i64 0, .int .i64 0, .string (bs []), .int .i64 0, .int .i64 0]]
 refine run_seq ?_
 refine run_seq ?_
 refine run_region' ?_
 refine oy rfl rfl (y_move rfl) ?_
 refine oy rfl rfl (y_move rfl) ?_
 refine oy rfl rfl (y_sub rfl rfl) ?_
 refine oy rfl rfl (y_gtr rfl rfl) ?_
 refine oy rfl rfl (y_move rfl) ?_
 obtain ⟨o23, h, ho24⟩ := bindJ_some h
 refine ops_cut 11 (Bool) (fun σ => [(5, .int .i64 end_2), (0, .string (bs s_0)), (1, .int .i64 at_1), (4, boxP b1 0), (34, .bool σ)]) (fun σ => [box b1 [.int .i64 0, .int .i64 0, .string (bs []), .int .i64 0, .int .i64 0]]) (fun σ => o23 = .go σ) (fun L25 hL26 => ?_) ?_
 ·refine ops_split 23 (decide (18 < (IntKind.i64.wrap (end_2 - at_1)))) rfl (fun hg27 => ?_) (fun hg27 => ?_)
  ·replace h := cond_t h hg27
   refine ops_no 4 false 23 rfl rfl rfl rfl rfl ?_
   refine ops_no 4 false 23 rfl rfl rfl rfl rfl ?_
   refine ops_no 4 false 23 rfl rfl rfl rfl rfl ?_
   refine ops_no 4 false 23 rfl rfl rfl rfl rfl ?_
   refine ops_no 4 false 23 rfl rfl rfl rfl rfl ?_
   refine ops_un 9 true 28 rfl rfl rfl rfl rfl ?_
   refine ops_un 9 true 28 rfl rfl rfl rfl rfl ?_
   refine ops_un 9 true 28 rfl rfl rfl rfl rfl ?_
   refine ops_un 9 true 28 rfl rfl rfl rfl rfl ?_
   refine ops_no 4 false 23 rfl rfl rfl rfl rfl ?_
   refine ops_weak [(5, .int .i64 end_2), (0, .string (bs s_0)), (1, .int .i64 at_1), (4, boxP b1 0), (23, .bool true), (33, undef)] [0] [box b1 [.int .i64 0, .int .i64 0, .string (bs []), .int .i64 0, .int .i64 0]] (qv6 rfl rfl rfl rfl rfl rfl) (by decide) rfl ?_
   refine oy rfl rfl (y_pick (b := true) rfl rfl) ?_
   refine ops_nil ?_
   obtain rfl := some_eq h
   exact goes_cut hL26 true [0] (qv5 rfl rfl rfl rfl rfl) (by decide) rfl rfl
  ·replace h := cond_f h hg27
   refine ops_y (wg 4 false 23 rfl rfl rfl rfl) rfl (y_move rfl) ?_
   refine ops_y (wg 4 false 23 rfl rfl rfl rfl) rfl (y_move rfl) ?_
   obtain ⟨c28, hzc28, hlc28, hxc28, h⟩ := idx_some h
   refine ops_y (wg 4 false 23 rfl rfl rfl rfl) rfl (y_index_strI (kd := .i64) (i := at_1) Tryz.runUnderlying9 rfl rfl hzc28 hxc28) ?_
   refine ops_y (wg 4 false 23 rfl rfl rfl rfl) rfl (y_eql rfl rfl) ?_
   refine ops_y (wg 4 false 23 rfl rfl rfl rfl) rfl (y_move rfl) ?_
   refine ops_cut 5 (Bool) (fun σ => [(5, .int .i64 end_2), (0, .string (bs s_0)), (1, .int .i64 at_1), (4, boxP b1 0), (23, .bool false), (33, .bool σ)]) (fun σ => [box b1 [.int .i64 0, .int .i64 0, .string (bs []), .int .i64 0, .int .i64 0]]) (fun σ => σ = (decide ((c28.toNat : Int) = 48) && decide (1 < (IntKind.i64.wrap (end_2 - at_1))))) (fun L29 hL30 => ?_) ?_
   ·refine ops_split 28 (decide ((c28.toNat : Int) = 48)) rfl (fun hg31 => ?_) (fun hg31 => ?_)
    ·skip
     refine ops_y (wg 9 true 28 rfl rfl rfl rfl) rfl (y_move rfl) ?_
     refine ops_y (wg 9 true 28 rfl rfl rfl rfl) rfl (y_move rfl) ?_
     refine ops_y (wg 9 true 28 rfl rfl rfl rfl) rfl (y_sub rfl rfl) ?_
     refine ops_y (wg 9 true 28 rfl rfl rfl rfl) rfl (y_gtr rfl rfl) ?_
     refine ops_weak [(5, .int .i64 end_2), (0, .string (bs s_0)), (1, .int .i64 at_1), (4, boxP b1 0), (23, .bool false), (28, .bool true), (32, .bool (decide (1 < (IntKind.i64.wrap (end_2 - at_1)))))] [0] [box b1 [.int .i64 0, .int .i64 0, .string (bs []), .int .i64 0, .int .i64 0]] (qv7 rfl rfl rfl rfl rfl rfl rfl) (by decide) rfl ?_
     refine ops_y (wg 4 false 23 rfl rfl rfl rfl) rfl (y_pick (b := true) rfl rfl) ?_
     refine ops_nil ?_
     exact goes_cut hL30 (decide (1 < (IntKind.i64.wrap (end_2 - at_1)))) [0] (qv6 rfl rfl rfl rfl rfl rfl) (by decide) rfl (by rw [hg31]; simp)
    ·skip
     refine ops_no 9 true 28 rfl rfl rfl rfl rfl ?_
     refine ops_no 9 true 28 rfl rfl rfl rfl rfl ?_
     refine ops_no 9 true 28 rfl rfl rfl rfl rfl ?_
     refine ops_no 9 true 28 rfl rfl rfl rfl rfl ?_
     refine ops_weak [(5, .int .i64 end_2), (0, .string (bs s_0)), (1, .int .i64 at_1), (4, boxP b1 0), (23, .bool false), (28, .bool false), (32, undef)] [0] [box b1 [.int .i64 0, .int .i64 0, .string (bs []), .int .i64 0, .int .i64 0]] (qv7 rfl rfl rfl rfl rfl rfl rfl) (by decide) rfl ?_
     refine ops_y (wg 4 false 23 rfl rfl rfl rfl) rfl (y_pick (b := false) rfl rfl) ?_
     refine ops_nil ?_
     exact goes_cut hL30 false [0] (qv6 rfl rfl rfl rfl rfl rfl) (by decide) rfl (by rw [hg31]; simp)
   rintro _ rfl
   refine oy rfl rfl (y_pick (b := false) rfl rfl) ?_
   refine ops_nil ?_
   obtain rfl := some_eq h
   exact goes_cut hL26 (decide ((c28.toNat : Int) = 48) && decide (1 < (IntKind.i64.wrap (end_2 - at_1)))) [0] (qv5 rfl rfl rfl rfl rfl) (by decide) rfl rfl
 rintro b22 hj
 obtain rfl : o23 = _ := hj
 replace h := after_go ho24
 clear ho24
 refine oy rfl rfl (y_move rfl) ?_
 obtain ⟨o33, h, ho34⟩ := bindJ_some h
 refine ops_cut 11 (Bool) (fun σ => [(5, .int .i64 end_2), (0, .string (bs s_0)), (1, .int .i64 at_1), (4, boxP b1 0), (46, .bool σ)]) (fun σ => [box b1 [.int .i64 0, .int .i64 0, .string (bs []), .int .i64 0, .int .i64 0]]) (fun σ => o33 = .go σ) (fun L35 hL36 => ?_) ?_
 ·refine ops_split 35 b22 rfl (fun hg37 => ?_) (fun hg37 => ?_)
  ·replace h := cond_t h hg37
   refine ops_no 16 false 35 rfl rfl rfl rfl rfl ?_
   refine ops_no 16 false 35 rfl rfl rfl rfl rfl ?_
   refine ops_no 16 false 35 rfl rfl rfl rfl rfl ?_
   refine ops_no 16 false 35 rfl rfl rfl rfl rfl ?_
   refine ops_no 16 false 35 rfl rfl rfl rfl rfl ?_
   refine ops_un 21 true 40 rfl rfl rfl rfl rfl ?_
   refine ops_un 21 true 40 rfl rfl rfl rfl rfl ?_
   refine ops_un 21 true 40 rfl rfl rfl rfl rfl ?_
   refine ops_un 21 true 40 rfl rfl rfl rfl rfl ?_
   refine ops_no 16 false 35 rfl rfl rfl rfl rfl ?_
   refine oy rfl rfl (y_pick (b := true) rfl rfl) ?_
   refine ops_nil ?_
   obtain rfl := some_eq h
   exact goes_cut hL36 true [0] (qv5 rfl rfl rfl rfl rfl) (by decide) rfl rfl
  ·replace h := cond_f h hg37
   refine ops_y (wg 16 false 35 rfl rfl rfl rfl) rfl (y_move rfl) ?_
   refine ops_y (wg 16 false 35 rfl rfl rfl rfl) rfl (y_move rfl) ?_
   refine ops_y (wg 16 false 35 rfl rfl rfl rfl) rfl (y_len_str rfl Tryz.runUnderlying9 rfl) ?_
   refine ops_y (wg 16 false 35 rfl rfl rfl rfl) rfl (y_lss rfl rfl) ?_
   refine ops_y (wg 16 false 35 rfl rfl rfl rfl) rfl (y_move rfl) ?_
   obtain ⟨o39, h, ho40⟩ := bindJ_some h
   refine ops_cut 5 (Bool) (fun σ => [(5, .int .i64 end_2), (0, .string (bs s_0)), (1, .int .i64 at_1), (4, boxP b1 0), (35, .bool false), (45, .bool σ)]) (fun σ => [box b1 [.int .i64 0, .int .i64 0, .string (bs []), .int .i64 0, .int .i64 0]]) (fun σ => o39 = .go σ) (fun L41 hL42 => ?_) ?_
   ·refine ops_split 40 (decide (end_2 < (s_0.length : Int))) rfl (fun hg43 => ?_) (fun hg43 => ?_)
    ·replace h := cond_t h hg43
     refine ops_y (wg 21 true 40 rfl rfl rfl rfl) rfl (y_move rfl) ?_
     refine ops_y (wg 21 true 40 rfl rfl rfl rfl) rfl (y_move rfl) ?_
     obtain ⟨c44, hzc44, hlc44, hxc44, h⟩ := idx_some h
     refine ops_y (wg 21 true 40 rfl rfl rfl rfl) rfl (y_index_strI (kd := .i64) (i := end_2) Tryz.runUnderlying9 rfl rfl hzc44 hxc44) ?_
     obtain ⟨r45, hr46, h⟩ := obind_some h
     refine ops_t (wg 21 true 40 rfl rfl rfl rfl) rfl (t_callx (vs := [.int .u8 (c44.toNat : Int)]) (cs := []) [] rfl Tryz.call76 rfl (ref18_letter_ok  (c44.toNat : Int)  hr46) showsX_nil rfl (.inl rfl)) ?_
     rintro _ _ ⟨_, ⟨rfl, rfl⟩, rfl⟩
     refine ops_y (wg 16 false 35 rfl rfl rfl rfl) rfl (y_pick (b := true) rfl rfl) ?_
     refine ops_nil ?_
     obtain rfl := some_eq h
     exact goes_cut hL42 r45 [0] (qv6 rfl rfl rfl rfl rfl rfl) (by decide) rfl rfl
    ·replace h := cond_f h hg43
     refine ops_no 21 true 40 rfl rfl rfl rfl rfl ?_
     refine ops_no 21 true 40 rfl rfl rfl rfl rfl ?_
     refine ops_no 21 true 40 rfl rfl rfl rfl rfl ?_
     refine ops_no 21 true 40 rfl rfl rfl rfl rfl ?_
     refine ops_y (wg 16 false 35 rfl rfl rfl rfl) rfl (y_pick (b := false) rfl rfl) ?_
     refine ops_nil ?_
     obtain rfl := some_eq h
     exact goes_cut hL42 false [0] (qv6 rfl rfl rfl rfl rfl rfl) (by decide) rfl rfl
   rintro b38 hj
   obtain rfl : o39 = _ := hj
   replace h := after_go ho40
   clear ho40
   refine oy rfl rfl (y_pick (b := false) rfl rfl) ?_
   refine ops_nil ?_
   obtain rfl := some_eq h
   exact goes_cut hL36 b38 [0] (qv5 rfl rfl rfl rfl rfl) (by decide) rfl rfl
 rintro b32 hj
 obtain rfl : o33 = _ := hj
 replace h := after_go ho34
 clear ho34
 refine ops_nil ?_
 refine goes_code ?_
 refine run_cond b32 rfl (fun hc47 => ?_) (fun hc47 => ?_)
 ·replace h := cond_t h hc47
  refine run_seq ?_
  refine run_region' ?_
  refine oy rfl rfl (y_build_struct (cells := #[.int .i64 0, .int .i64 0, .string (bs []), .int .i64 0, .int .i64 181]) [(2, .int .i64 181)] [(2, [.int .i64 181])] Tryz.zeroValue72 Tryz.runUnderlying72 (fs_cons Tryz.sizeOf44 (fs_cons Tryz.sizeOf3 (fs_cons Tryz.sizeOf24 fs_nil))) rfl rfl rfl) ?_
  refine ot rfl rfl (t_store 0 Tryz.sizeOf72 rfl rfl rfl rfl (by simp [Value.cells, boxP]) (by simp [Value.cells, Value.oneCell', boxP])) ?_
  rintro _ _ ⟨rfl, rfl⟩
  refine ops_turn (retell 0 (g := box b1 [.int .i64 0, .int .i64 0, .string (bs []), .int .i64 0, .int .i64 181]) rfl rfl) ?_
  refine ops_nil ?_
  refine goes_code ?_
  refine run_ret ?_
  obtain rfl := some_eq h
  refine fin_res [.cell 4 72] [.agg #[.int .i64 0, .int .i64 0, .string (bs []), .int .i64 0, .int .i64 181]] [] [] Tryz.results55 rfl (rescons (res_box 0 Tryz.isAgg72 Tryz.sizeOf72 rfl rfl rfl) resnil) (by decide) rfl ?_
  exact ⟨rfl, rfl⟩
 ·replace h := cond_f h hc47
  refine run_skip ?_
  refine goes_code ?_
  refine run_seq ?_
  refine run_region' ?_
  refine oy rfl rfl (y_move rfl) ?_
  refine oy rfl rfl (y_move rfl) ?_
  refine oy rfl rfl (y_move rfl) ?_
  refine oy rfl rfl (y_move rfl) ?_
  obtain ⟨hb48, h⟩ := need_some h
  refine oy rfl rfl (y_slice_str (l := at_1) (r := end_2) Tryz.runUnderlying9 rfl (bi1 (kd := .i64) rfl) (bi1 (kd := .i64) rfl) hb48.1 hb48.2.1 hb48.2.2) ?_
  refine oy rfl rfl (y_build_struct (cells := #[.int .i64 3, .int .i64 at_1, .string (bs ((s_0.take end_2.toNat).drop at_1.toNat))]) [(0, .int .i64 3), (1, .int .i64 at_1), (2, .string (bs ((s_0.take end_2.toNat).drop at_1.toNat)))] [(0, [.int .i64 3]), (1, [.int .i64 at_1]), (2, [.string (bs ((s_0.take end_2.toNat).drop at_1.toNat))])] Tryz.zeroValue44 Tryz.runUnderlying44 (fs_cons Tryz.sizeOf3 (fs_cons Tryz.sizeOf3 (fs_cons Tryz.sizeOf9 fs_nil))) rfl rfl rfl) ?_
  refine oy rfl rfl (y_move rfl) ?_
  refine oy rfl rfl (y_build_struct (cells := #[.int .i64 3, .int .i64 at_1, .string (bs ((s_0.take end_2.toNat).drop at_1.toNat)), .int .i64 end_2, .int .i64 0]) [(0, .agg #[.int .i64 3, .int .i64 at_1, .string (bs ((s_0.take end_2.toNat).drop at_1.toNat))]), (1, .int .i64 end_2)] [(0, [.int .i64 3, .int .i64 at_1, .string (bs ((s_0.take end_2.toNat).drop at_1.toNat))]), (1, [.int .i64 end_2])] Tryz.zeroValue72 Tryz.runUnderlying72 (fs_cons Tryz.sizeOf44 (fs_cons Tryz.sizeOf3 (fs_cons Tryz.sizeOf24 fs_nil))) rfl rfl rfl) ?_
  refine ot rfl rfl (t_store 0 Tryz.sizeOf72 rfl rfl rfl rfl (by simp [Value.cells, boxP]) (by simp [Value.cells, Value.oneCell', boxP])) ?_
  rintro _ _ ⟨rfl, rfl⟩
  refine ops_turn (retell 0 (g := box b1 [.int .i64 3, .int .i64 at_1, .string (bs ((s_0.take end_2.toNat).drop at_1.toNat)), .int .i64 end_2, .int .i64 0]) rfl rfl) ?_
  refine ops_nil ?_
  refine goes_code ?_
  refine run_ret ?_
  obtain rfl := some_eq h
  refine fin_res [.cell 4 72] [.agg #[.int .i64 3, .int .i64 at_1, .string (bs ((s_0.take end_2.toNat).drop at_1.toNat)), .int .i64 end_2, .int .i64 0]] [] [] Tryz.results55 rfl (rescons (res_box 0 Tryz.isAgg72 Tryz.sizeOf72 rfl rfl rfl) resnil) (by decide) rfl ?_
  exact ⟨rfl, rfl⟩

def ref18_text_L1 (s_0 : (List UInt8)) (at_1 : Int) : ((List UInt8) × Int) → Option (Lp ((List UInt8) × Int) (Lp (Unit) (S_ref18_Got))) :=
 fun (out_6, i_7) =>
  cond (decide (i_7 < (s_0.length : Int)))
   (idx s_0 i_7 fun c14 =>
   cond (decide ((c14.toNat : Int) = 34))
    (cond (decide (200 < (out_6.length : Int)))
     (some (.stop (.stop (S_ref18_Got.mk (S_api_Lexeme.mk 0 0 []) 0 182))))
     (some (.stop (.stop (S_ref18_Got.mk (S_api_Lexeme.mk 4 at_1 out_6) (IntKind.i64.wrap (i_7 + 1)) 0)))))
    (cond (decide ((c14.toNat : Int) < 32) || decide (126 < (c14.toNat : Int)))
     (some (.stop (.stop (S_ref18_Got.mk (S_api_Lexeme.mk 0 0 []) 0 182))))
     (bindJ (S := Int × Int)
      (cond (decide ((c14.toNat : Int) = 92))
       (bindJ (S := Bool)
        (cond (decide ((IntKind.i64.wrap (i_7 + 1)) = (s_0.length : Int)))
         (some (.go true))
         (idx s_0 (IntKind.i64.wrap (i_7 + 1)) fun c34 =>
         bindJ (S := Bool)
          (cond (decide ((c34.toNat : Int) ≠ 34))
           (idx s_0 (IntKind.i64.wrap (i_7 + 1)) fun c41 =>
           some (.go (decide ((c41.toNat : Int) ≠ 92))))
           (some (.go false)))
         (fun b35 =>
          some (.go b35))))
       (fun b28 =>
        cond b28
         (some (.stop (.stop (.stop (S_ref18_Got.mk (S_api_Lexeme.mk 0 0 []) 0 182)))))
         (idx s_0 (IntKind.i64.wrap (i_7 + 1)) fun c43 =>
         some (.go ((IntKind.i64.wrap (i_7 + 1)), (c43.toNat : Int))))))
       (some (.go (i_7, (c14.toNat : Int)))))
     (fun (i_21, b_22) =>
      need (0 ≤ b_22 ∧ b_22 ≤ 255) (
      need (out_6.length + ([(b_22).toNat.toUInt8] : List UInt8).length ≤ 4294967296) (
      some (.go ((out_6 ++ ([(b_22).toNat.toUInt8] : List UInt8)), (IntKind.i64.wrap (i_21 + 1))))))))))
   (some (.stop (.go ())))
def ref18_text (n : Nat) (s_0 : (List UInt8)) (at_1 : Int) : Option (S_ref18_Got) :=
 bindJ (S := Unit)
  (iter (ref18_text_L1 s_0 at_1) n (([] : List UInt8), (IntKind.i64.wrap (at_1 + 1))))
 (fun _ =>
  some (S_ref18_Got.mk (S_api_Lexeme.mk 0 0 []) 0 182))
theorem ref18_text_ok (n : Nat) (s_0 : (List UInt8)) (at_1 : Int)  {r : S_ref18_Got} (h : ref18_text n s_0 at_1 = some r) :
  Meets Tryz.prog 56 [.string (bs s_0), .int .i64 at_1] [] (fun v G => v = .agg #[.int .i64 r.T.Kind, .int .i64 r.T.At, .string (bs r.T.S), .int .i64 r.End, .int .i64 r.E] ∧ G = []) := by
 refine fn_of_run Tryz.func56 rfl Tryz.ntmps56 rfl (fun w0 o0 => ?_)
 refine run_seq ?_
 refine run_region' ?_
 refine ot rfl rfl (t_alloc Tryz.zeroValue72) ?_
 rintro _ _ ⟨b1, rfl, rfl⟩
 refine ops_nil ?_
 refine goes_code ?_
 refine run_seq ?_
 refine run_region' ?_
 refine oy rfl rfl (y_assign rfl) ?_
 refine ops_nil ?_
 refine goes_code ?_
 obtain ⟨o2, h, ho3⟩ := bindJ_some h
 refine run_cut ((Unit) × (Unit)) (fun σ => [(4, boxP b1 0)]) (fun σ => [box b1 [.int .i64 0, .int .i64 0, .string (bs []), .int .i64 0, .int .i64 0]]) (fun σ => o2 = .go σ.1) (fun L5 hL4 => ?_) ?_
 ·
  refine run_seq ?_
  refine run_region' ?_
  refine oy rfl rfl (y_move rfl) ?_
  refine oy rfl rfl (y_add rfl rfl) ?_
  refine oy rfl rfl (y_assign rfl) ?_
  refine ops_nil ?_
  refine goes_code ?_
  refine run_block ?_
  refine run_turn (nilrow 1) ?_
  refine run_turn (retell 1 (g := row (.slice none 0 0) 1 (([] : List UInt8).map eB8)) rfl rfl) ?_
  refine run_iter (step := ref18_text_L1 s_0 at_1) (n := n) (s0 := (([] : List UInt8), (IntKind.i64.wrap (at_1 + 1)))) h (G := Value) (.slice none 0 0) (fun σ γ => [(5, γ), (6, .int .i64 σ.2), (0, .string (bs s_0)), (1, .int .i64 at_1), (4, boxP b1 0)]) (fun σ γ => [row γ 1 (σ.1.map eB8), box b1 [.int .i64 0, .int .i64 0, .string (bs []), .int .i64 0, .int .i64 0]]) [1, 0] (qv5 rfl rfl rfl rfl rfl) (by decide) rfl ?_
  rintro ⟨out_6, i_7⟩ v8 o9 h L12 hgo10 hstop11
  change Run _ _ _ (VF.of [(5, v8), (6, .int .i64 i_7), (0, .string (bs s_0)), (1, .int .i64 at_1), (4, boxP b1 0)]) [row v8 1 (out_6.map eB8), box b1 [.int .i64 0, .int .i64 0, .string (bs []), .int .i64 0, .int .i64 0]]
  refine run_seq ?_
  refine run_seq ?_
  refine run_region' ?_
  refine oy rfl rfl (y_move rfl) ?_
  refine oy rfl rfl (y_move rfl) ?_
  refine oy rfl rfl (y_len_str rfl Tryz.runUnderlying9 rfl) ?_
  refine oy rfl rfl (y_lss rfl rfl) ?_
  refine ops_nil ?_
  refine goes_code ?_
  refine run_cond (decide (i_7 < (s_0.length : Int))) rfl (fun hc13 => ?_) (fun hc13 => ?_)
  ·replace h := cond_t h hc13
   refine run_skip ?_
   refine goes_code ?_
   refine run_seq ?_
   refine run_block ?_
   refine run_seq ?_
   refine run_region' ?_
   refine oy rfl rfl (y_move rfl) ?_
   refine oy rfl rfl (y_move rfl) ?_
   obtain ⟨c14, hzc14, hlc14, hxc14, h⟩ := idx_some h
   refine oy rfl rfl (y_index_strI (kd := .i64) (i := i_7) Tryz.runUnderlying9 rfl rfl hzc14 hxc14) ?_
   refine oy rfl rfl (y_assign rfl) ?_
   refine ops_nil ?_
   refine goes_code ?_
   refine run_seq ?_
   refine run_seq ?_
   refine run_weak [(5, v8), (6, .int .i64 i_7), (0, .string (bs s_0)), (1, .int .i64 at_1), (4, boxP b1 0), (7, .int .u8 (c14.toNat : Int))] [0, 1] [row v8 1 (out_6.map eB8), box b1 [.int .i64 0, .int .i64 0, .string (bs []), .int .i64 0, .int .i64 0]] (qv6 rfl rfl rfl rfl rfl rfl) (by decide) rfl ?_
   refine run_region' ?_
   refine oy rfl rfl (y_move rfl) ?_
   refine oy rfl rfl (y_eql rfl rfl) ?_
   refine ops_nil ?_
   refine goes_code ?_
   refine run_cond (decide ((c14.toNat : Int) = 34)) rfl (fun hc15 => ?_) (fun hc15 => ?_)
   ·replace h := cond_t h hc15
    refine run_seq ?_
    refine run_seq ?_
    refine run_region' ?_
    refine oy rfl rfl (y_move rfl) ?_
    refine oy rfl rfl ((y_len 0 rfl Tryz.runUnderlying47 rfl rfl reads_row).to (v_len eB8 _)) ?_
    refine oy rfl rfl (y_gtr rfl rfl) ?_
    refine ops_nil ?_
    refine goes_code ?_
    refine run_cond (decide (200 < (out_6.length : Int))) rfl (fun hc16 => ?_) (fun hc16 => ?_)
    ·replace h := cond_t h hc16
     refine run_seq ?_
     refine run_region' ?_
     refine oy rfl rfl (y_build_struct (cells := #[.int .i64 0, .int .i64 0, .string (bs []), .int .i64 0, .int .i64 182]) [(2, .int .i64 182)] [(2, [.int .i64 182])] Tryz.zeroValue72 Tryz.runUnderlying72 (fs_cons Tryz.sizeOf44 (fs_cons Tryz.sizeOf3 (fs_cons Tryz.sizeOf24 fs_nil))) rfl rfl rfl) ?_
     refine ot rfl rfl (t_store 1 Tryz.sizeOf72 rfl rfl rfl rfl (by simp [Value.cells, boxP]) (by simp [Value.cells, Value.oneCell', boxP])) ?_
     rintro _ _ ⟨rfl, rfl⟩
     refine ops_turn (retell 1 (g := box b1 [.int .i64 0, .int .i64 0, .string (bs []), .int .i64 0, .int .i64 182]) rfl rfl) ?_
     refine ops_nil ?_
     refine goes_code ?_
     refine run_ret ?_
     obtain rfl := some_eq h
     obtain rfl := hstop11 _ rfl
     skip
     obtain rfl := after_stop ho3
     refine fin_res [.cell 4 72] [.agg #[.int .i64 0, .int .i64 0, .string (bs []), .int .i64 0, .int .i64 182]] [] [] Tryz.results56 rfl (rescons (res_box 1 Tryz.isAgg72 Tryz.sizeOf72 rfl rfl rfl) resnil) (by decide) rfl ?_
     exact ⟨rfl, rfl⟩
    ·replace h := cond_f h hc16
     refine run_skip ?_
     refine goes_code ?_
     refine run_seq ?_
     refine run_region' ?_
     refine oy rfl rfl (y_move rfl) ?_
     refine oy rfl rfl (y_move rfl) ?_
     refine oy rfl rfl (y_b2s (l := out_6) 0 Tryz.runUnderlying47 Tryz.runUnderlying5 Tryz.runUnderlying9 rfl rfl reads_row) ?_
     refine oy rfl rfl (y_build_struct (cells := #[.int .i64 4, .int .i64 at_1, .string (bs out_6)]) [(0, .int .i64 4), (1, .int .i64 at_1), (2, .string (bs out_6))] [(0, [.int .i64 4]), (1, [.int .i64 at_1]), (2, [.string (bs out_6)])] Tryz.zeroValue44 Tryz.runUnderlying44 (fs_cons Tryz.sizeOf3 (fs_cons Tryz.sizeOf3 (fs_cons Tryz.sizeOf9 fs_nil))) rfl rfl rfl) ?_
     refine oy rfl rfl (y_move rfl) ?_
     refine oy rfl rfl (y_add rfl rfl) ?_
     refine oy rfl rfl (y_build_struct (cells := #[.int .i64 4, .int .i64 at_1, .string (bs out_6), .int .i64 (IntKind.i64.wrap (i_7 + 1)), .int .i64 0]) [(0, .agg #[.int .i64 4, .int .i64 at_1, .string (bs out_6)]), (1, .int .i64 (IntKind.i64.wrap (i_7 + 1)))] [(0, [.int .i64 4, .int .i64 at_1, .string (bs out_6)]), (1, [.int .i64 (IntKind.i64.wrap (i_7 + 1))])] Tryz.zeroValue72 Tryz.runUnderlying72 (fs_cons Tryz.sizeOf44 (fs_cons Tryz.sizeOf3 (fs_cons Tryz.sizeOf24 fs_nil))) rfl rfl rfl) ?_
     refine ot rfl rfl (t_store 1 Tryz.sizeOf72 rfl rfl rfl rfl (by simp [Value.cells, boxP]) (by simp [Value.cells, Value.oneCell', boxP])) ?_
     rintro _ _ ⟨rfl, rfl⟩
     refine ops_turn (retell 1 (g := box b1 [.int .i64 4, .int .i64 at_1, .string (bs out_6), .int .i64 (IntKind.i64.wrap (i_7 + 1)), .int .i64 0]) rfl rfl) ?_
     refine ops_nil ?_
     refine goes_code ?_
     refine run_ret ?_
     obtain rfl := some_eq h
     obtain rfl := hstop11 _ rfl
     skip
     obtain rfl := after_stop ho3
     refine fin_res [.cell 4 72] [.agg #[.int .i64 4, .int .i64 at_1, .string (bs out_6), .int .i64 (IntKind.i64.wrap (i_7 + 1)), .int .i64 0]] [] [] Tryz.results56 rfl (rescons (res_box 1 Tryz.isAgg72 Tryz.sizeOf72 rfl rfl rfl) resnil) (by decide) rfl ?_
     exact ⟨rfl, rfl⟩
   ·replace h := cond_f h hc15
    refine run_skip ?_
    refine goes_code ?_
    refine run_seq ?_
    refine run_seq ?_
    refine run_region' ?_
    refine oy rfl rfl (y_move rfl) ?_
    refine oy rfl rfl (y_lss rfl rfl) ?_
    refine oy rfl rfl (y_move rfl) ?_
    refine ops_cut 3 (Bool) (fun σ => [(5, v8), (6, .int .i64 i_7), (0, .string (bs s_0)), (1, .int .i64 at_1), (4, boxP b1 0), (7, .int .u8 (c14.toNat : Int)), (37, .bool σ)]) (fun σ => [row v8 1 (out_6.map eB8), box b1 [.int .i64 0, .int .i64 0, .string (bs []), .int .i64 0, .int .i64 0]]) (fun σ => σ = (decide ((c14.toNat : Int) < 32) || decide (126 < (c14.toNat : Int)))) (fun L17 hL18 => ?_) ?_
    ·refine ops_split 34 (decide ((c14.toNat : Int) < 32)) rfl (fun hg19 => ?_) (fun hg19 => ?_)
     ·skip
      refine ops_no 2 false 34 rfl rfl rfl rfl rfl ?_
      refine ops_no 2 false 34 rfl rfl rfl rfl rfl ?_
      refine oy rfl rfl (y_pick (b := true) rfl rfl) ?_
      refine ops_nil ?_
      exact goes_cut hL18 true [0, 1] (qv7 rfl rfl rfl rfl rfl rfl rfl) (by decide) rfl (by rw [hg19]; simp)
     ·skip
      refine ops_y (wg 2 false 34 rfl rfl rfl rfl) rfl (y_move rfl) ?_
      refine ops_y (wg 2 false 34 rfl rfl rfl rfl) rfl (y_gtr rfl rfl) ?_
      refine oy rfl rfl (y_pick (b := false) rfl rfl) ?_
      refine ops_nil ?_
      exact goes_cut hL18 (decide (126 < (c14.toNat : Int))) [0, 1] (qv7 rfl rfl rfl rfl rfl rfl rfl) (by decide) rfl (by rw [hg19]; simp)
    rintro _ rfl
    refine ops_nil ?_
    refine goes_code ?_
    refine run_cond (decide ((c14.toNat : Int) < 32) || decide (126 < (c14.toNat : Int))) rfl (fun hc20 => ?_) (fun hc20 => ?_)
    ·replace h := cond_t h hc20
     refine run_seq ?_
     refine run_region' ?_
     refine oy rfl rfl (y_build_struct (cells := #[.int .i64 0, .int .i64 0, .string (bs []), .int .i64 0, .int .i64 182]) [(2, .int .i64 182)] [(2, [.int .i64 182])] Tryz.zeroValue72 Tryz.runUnderlying72 (fs_cons Tryz.sizeOf44 (fs_cons Tryz.sizeOf3 (fs_cons Tryz.sizeOf24 fs_nil))) rfl rfl rfl) ?_
     refine ot rfl rfl (t_store 1 Tryz.sizeOf72 rfl rfl rfl rfl (by simp [Value.cells, boxP]) (by simp [Value.cells, Value.oneCell', boxP])) ?_
     rintro _ _ ⟨rfl, rfl⟩
     refine ops_turn (retell 1 (g := box b1 [.int .i64 0, .int .i64 0, .string (bs []), .int .i64 0, .int .i64 182]) rfl rfl) ?_
     refine ops_nil ?_
     refine goes_code ?_
     refine run_ret ?_
     obtain rfl := some_eq h
     obtain rfl := hstop11 _ rfl
     skip
     obtain rfl := after_stop ho3
     refine fin_res [.cell 4 72] [.agg #[.int .i64 0, .int .i64 0, .string (bs []), .int .i64 0, .int .i64 182]] [] [] Tryz.results56 rfl (rescons (res_box 1 Tryz.isAgg72 Tryz.sizeOf72 rfl rfl rfl) resnil) (by decide) rfl ?_
     exact ⟨rfl, rfl⟩
    ·replace h := cond_f h hc20
     refine run_skip ?_
     refine goes_code ?_
     obtain ⟨o23, h, ho24⟩ := bindJ_some h
     refine run_cut ((Int × Int) × (Unit)) (fun σ => [(6, .int .i64 σ.1.1), (7, .int .u8 σ.1.2), (0, .string (bs s_0)), (1, .int .i64 at_1), (4, boxP b1 0), (5, v8)]) (fun σ => [box b1 [.int .i64 0, .int .i64 0, .string (bs []), .int .i64 0, .int .i64 0], row v8 1 (out_6.map eB8)]) (fun σ => o23 = .go σ.1) (fun L26 hL25 => ?_) ?_
     ·
      refine run_seq ?_
      refine run_region' ?_
      refine oy rfl rfl (y_move rfl) ?_
      refine oy rfl rfl (y_eql rfl rfl) ?_
      refine ops_nil ?_
      refine goes_code ?_
      refine run_cond (decide ((c14.toNat : Int) = 92)) rfl (fun hc27 => ?_) (fun hc27 => ?_)
      ·replace h := cond_t h hc27
       refine run_seq ?_
       refine run_region' ?_
       refine oy rfl rfl (y_move rfl) ?_
       refine oy rfl rfl (y_add rfl rfl) ?_
       refine oy rfl rfl (y_assign rfl) ?_
       refine ops_nil ?_
       refine goes_code ?_
       refine run_seq ?_
       refine run_seq ?_
       refine run_region' ?_
       refine oy rfl rfl (y_move rfl) ?_
       refine oy rfl rfl (y_move rfl) ?_
       refine oy rfl rfl (y_len_str rfl Tryz.runUnderlying9 rfl) ?_
       refine oy rfl rfl (y_eql rfl rfl) ?_
       refine oy rfl rfl (y_move rfl) ?_
       obtain ⟨o29, h, ho30⟩ := bindJ_some h
       refine ops_cut 11 (Bool) (fun σ => [(5, v8), (6, .int .i64 (IntKind.i64.wrap (i_7 + 1))), (0, .string (bs s_0)), (1, .int .i64 at_1), (4, boxP b1 0), (58, .bool σ)]) (fun σ => [row v8 1 (out_6.map eB8), box b1 [.int .i64 0, .int .i64 0, .string (bs []), .int .i64 0, .int .i64 0]]) (fun σ => o29 = .go σ) (fun L31 hL32 => ?_) ?_
       ·refine ops_split 47 (decide ((IntKind.i64.wrap (i_7 + 1)) = (s_0.length : Int))) rfl (fun hg33 => ?_) (fun hg33 => ?_)
        ·replace h := cond_t h hg33
         refine ops_no 4 false 47 rfl rfl rfl rfl rfl ?_
         refine ops_no 4 false 47 rfl rfl rfl rfl rfl ?_
         refine ops_no 4 false 47 rfl rfl rfl rfl rfl ?_
         refine ops_no 4 false 47 rfl rfl rfl rfl rfl ?_
         refine ops_no 4 false 47 rfl rfl rfl rfl rfl ?_
         refine ops_weak [(5, v8), (6, .int .i64 (IntKind.i64.wrap (i_7 + 1))), (0, .string (bs s_0)), (1, .int .i64 at_1), (4, boxP b1 0), (47, .bool true), (52, undef)] [0, 1] [row v8 1 (out_6.map eB8), box b1 [.int .i64 0, .int .i64 0, .string (bs []), .int .i64 0, .int .i64 0]] (qv7 rfl rfl rfl rfl rfl rfl rfl) (by decide) rfl ?_
         refine ops_un 9 true 52 rfl rfl rfl rfl rfl ?_
         refine ops_un 9 true 52 rfl rfl rfl rfl rfl ?_
         refine ops_un 9 true 52 rfl rfl rfl rfl rfl ?_
         refine ops_un 9 true 52 rfl rfl rfl rfl rfl ?_
         refine ops_no 4 false 47 rfl rfl rfl rfl rfl ?_
         refine oy rfl rfl (y_pick (b := true) rfl rfl) ?_
         refine ops_nil ?_
         obtain rfl := some_eq h
         exact goes_cut hL32 true [0, 1] (qv6 rfl rfl rfl rfl rfl rfl) (by decide) rfl rfl
        ·replace h := cond_f h hg33
         refine ops_y (wg 4 false 47 rfl rfl rfl rfl) rfl (y_move rfl) ?_
         refine ops_y (wg 4 false 47 rfl rfl rfl rfl) rfl (y_move rfl) ?_
         obtain ⟨c34, hzc34, hlc34, hxc34, h⟩ := idx_some h
         refine ops_y (wg 4 false 47 rfl rfl rfl rfl) rfl (y_index_strI (kd := .i64) (i := (IntKind.i64.wrap (i_7 + 1))) Tryz.runUnderlying9 rfl rfl hzc34 hxc34) ?_
         refine ops_y (wg 4 false 47 rfl rfl rfl rfl) rfl (y_neq rfl rfl) ?_
         refine ops_y (wg 4 false 47 rfl rfl rfl rfl) rfl (y_move rfl) ?_
         refine ops_weak [(5, v8), (6, .int .i64 (IntKind.i64.wrap (i_7 + 1))), (0, .string (bs s_0)), (1, .int .i64 at_1), (4, boxP b1 0), (47, .bool false), (52, .bool (decide ((c34.toNat : Int) ≠ 34)))] [0, 1] [row v8 1 (out_6.map eB8), box b1 [.int .i64 0, .int .i64 0, .string (bs []), .int .i64 0, .int .i64 0]] (qv7 rfl rfl rfl rfl rfl rfl rfl) (by decide) rfl ?_
         obtain ⟨o36, h, ho37⟩ := bindJ_some h
         refine ops_cut 5 (Bool) (fun σ => [(5, v8), (6, .int .i64 (IntKind.i64.wrap (i_7 + 1))), (0, .string (bs s_0)), (1, .int .i64 at_1), (4, boxP b1 0), (47, .bool false), (57, .bool σ)]) (fun σ => [row v8 1 (out_6.map eB8), box b1 [.int .i64 0, .int .i64 0, .string (bs []), .int .i64 0, .int .i64 0]]) (fun σ => o36 = .go σ) (fun L38 hL39 => ?_) ?_
         ·refine ops_split 52 (decide ((c34.toNat : Int) ≠ 34)) rfl (fun hg40 => ?_) (fun hg40 => ?_)
          ·replace h := cond_t h hg40
           refine ops_y (wg 9 true 52 rfl rfl rfl rfl) rfl (y_move rfl) ?_
           refine ops_y (wg 9 true 52 rfl rfl rfl rfl) rfl (y_move rfl) ?_
           obtain ⟨c41, hzc41, hlc41, hxc41, h⟩ := idx_some h
           refine ops_y (wg 9 true 52 rfl rfl rfl rfl) rfl (y_index_strI (kd := .i64) (i := (IntKind.i64.wrap (i_7 + 1))) Tryz.runUnderlying9 rfl rfl hzc41 hxc41) ?_
           refine ops_y (wg 9 true 52 rfl rfl rfl rfl) rfl (y_neq rfl rfl) ?_
           refine ops_y (wg 4 false 47 rfl rfl rfl rfl) rfl (y_pick (b := true) rfl rfl) ?_
           refine ops_nil ?_
           obtain rfl := some_eq h
           exact goes_cut hL39 (decide ((c41.toNat : Int) ≠ 92)) [0, 1] (qv7 rfl rfl rfl rfl rfl rfl rfl) (by decide) rfl rfl
          ·replace h := cond_f h hg40
           refine ops_no 9 true 52 rfl rfl rfl rfl rfl ?_
           refine ops_no 9 true 52 rfl rfl rfl rfl rfl ?_
           refine ops_no 9 true 52 rfl rfl rfl rfl rfl ?_
           refine ops_no 9 true 52 rfl rfl rfl rfl rfl ?_
           refine ops_y (wg 4 false 47 rfl rfl rfl rfl) rfl (y_pick (b := false) rfl rfl) ?_
           refine ops_nil ?_
           obtain rfl := some_eq h
           exact goes_cut hL39 false [0, 1] (qv7 rfl rfl rfl rfl rfl rfl rfl) (by decide) rfl rfl
         rintro b35 hj
         obtain rfl : o36 = _ := hj
         replace h := after_go ho37
         clear ho37
         refine oy rfl rfl (y_pick (b := false) rfl rfl) ?_
         refine ops_nil ?_
         obtain rfl := some_eq h
         exact goes_cut hL32 b35 [0, 1] (qv6 rfl rfl rfl rfl rfl rfl) (by decide) rfl rfl
       rintro b28 hj
       obtain rfl : o29 = _ := hj
       replace h := after_go ho30
       clear ho30
       refine ops_nil ?_
       refine goes_code ?_
       refine run_cond b28 rfl (fun hc42 => ?_) (fun hc42 => ?_)
       ·replace h := cond_t h hc42
        refine run_seq ?_
        refine run_region' ?_
        refine oy rfl rfl (y_build_struct (cells := #[.int .i64 0, .int .i64 0, .string (bs []), .int .i64 0, .int .i64 182]) [(2, .int .i64 182)] [(2, [.int .i64 182])] Tryz.zeroValue72 Tryz.runUnderlying72 (fs_cons Tryz.sizeOf44 (fs_cons Tryz.sizeOf3 (fs_cons Tryz.sizeOf24 fs_nil))) rfl rfl rfl) ?_
        refine ot rfl rfl (t_store 1 Tryz.sizeOf72 rfl rfl rfl rfl (by simp [Value.cells, boxP]) (by simp [Value.cells, Value.oneCell', boxP])) ?_
        rintro _ _ ⟨rfl, rfl⟩
        refine ops_turn (retell 1 (g := box b1 [.int .i64 0, .int .i64 0, .string (bs []), .int .i64 0, .int .i64 182]) rfl rfl) ?_
        refine ops_nil ?_
        refine goes_code ?_
        refine run_ret ?_
        obtain rfl := some_eq h
        obtain rfl := after_stop ho24
        skip
        obtain rfl := hstop11 _ rfl
        skip
        obtain rfl := after_stop ho3
        refine fin_res [.cell 4 72] [.agg #[.int .i64 0, .int .i64 0, .string (bs []), .int .i64 0, .int .i64 182]] [] [] Tryz.results56 rfl (rescons (res_box 1 Tryz.isAgg72 Tryz.sizeOf72 rfl rfl rfl) resnil) (by decide) rfl ?_
        exact ⟨rfl, rfl⟩
       ·replace h := cond_f h hc42
        refine run_skip ?_
        refine goes_code ?_
        refine run_region' ?_
        refine oy rfl rfl (y_move rfl) ?_
        refine oy rfl rfl (y_move rfl) ?_
        obtain ⟨c43, hzc43, hlc43, hxc43, h⟩ := idx_some h
        refine oy rfl rfl (y_index_strI (kd := .i64) (i := (IntKind.i64.wrap (i_7 + 1))) Tryz.runUnderlying9 rfl rfl hzc43 hxc43) ?_
        refine oy rfl rfl (y_assign rfl) ?_
        refine ops_nil ?_
        obtain rfl := some_eq h
        exact goes_cut hL25 (((IntKind.i64.wrap (i_7 + 1)), (c43.toNat : Int)), ()) [1, 0] (qv6 rfl rfl rfl rfl rfl rfl) (by decide) rfl rfl
      ·replace h := cond_f h hc27
       refine run_skip ?_
       obtain rfl := some_eq h
       exact goes_cut hL25 ((i_7, (c14.toNat : Int)), ()) [1, 0] (qv6 rfl rfl rfl rfl rfl rfl) (by decide) rfl rfl
     rintro ⟨⟨i_21, b_22⟩, _⟩ hj
     obtain rfl : o23 = _ := hj
     replace h := after_go ho24
     clear ho24
     change Run _ _ _ (VF.of [(6, .int .i64 i_21), (7, .int .u8 b_22), (0, .string (bs s_0)), (1, .int .i64 at_1), (4, boxP b1 0), (5, v8)]) [box b1 [.int .i64 0, .int .i64 0, .string (bs []), .int .i64 0, .int .i64 0], row v8 1 (out_6.map eB8)]
     refine run_region' ?_
     refine oy rfl rfl (y_move rfl) ?_
     refine oy rfl rfl (y_move rfl) ?_
     obtain ⟨hi45, h⟩ := need_some h
     refine ot rfl rfl (t_lit [.int .u8 b_22] Tryz.runUnderlying47 Tryz.sizeOf5 Tryz.zeroValue5 rfl (by decide) (by decide) rfl (by simp [Value.cells, boxP])) ?_
     rintro v44 _ ⟨rfl, _⟩
     refine ops_turn (retell 2 (g := row v44 1 (([(b_22).toNat.toUInt8] : List UInt8).map eB8)) rfl (congrArg (row _ _) (by simp only [List.map_cons, List.map_nil, eB8_in hi45]; rfl))) ?_
     obtain ⟨hr47, h⟩ := need_some h
     refine ot rfl rfl (t_append (es := 1) 1 rfl Tryz.runUnderlying47 rfl Tryz.runUnderlying47 (.inr ⟨_, rfl⟩) Tryz.typeInfo5 rfl (by decide) Tryz.zeroValue5 rfl rfl rfl rfl (src_reads 2 rfl reads_row (map_ok eB8_ok _)) (map_room hr47 (by decide)) (map_fit hr47)) ?_
     rintro v46 _ rfl
     refine ops_turn (retell 1 (g := row v46 1 ((out_6 ++ ([(b_22).toNat.toUInt8] : List UInt8)).map eB8)) rfl (congrArg (row _ _) List.map_append.symm)) ?_
     refine oy rfl rfl (y_assign rfl) ?_
     refine ops_nil ?_
     refine goes_blk ?_
     refine goes_code ?_
     refine run_region' ?_
     refine oy rfl rfl (y_move rfl) ?_
     refine oy rfl rfl (y_add rfl rfl) ?_
     refine oy rfl rfl (y_assign rfl) ?_
     refine ops_nil ?_
     obtain rfl := some_eq h
     exact goes_iter hgo10 ((out_6 ++ ([(b_22).toNat.toUInt8] : List UInt8)), (IntKind.i64.wrap (i_21 + 1))) v46 [1, 0] rfl (qv5 rfl rfl rfl rfl rfl) (by decide) rfl
  ·replace h := cond_f h hc13
   refine run_exit _ rfl ?_
   obtain rfl := some_eq h
   obtain rfl := hstop11 _ rfl
   exact goes_cut hL4 ((), ()) [1] (qv1 rfl) (by decide) rfl rfl
 rintro ⟨_, _⟩ hj
 obtain rfl : o2 = _ := hj
 replace h := after_go ho3
 clear ho3
 change Run _ _ _ (VF.of [(4, boxP b1 0)]) [box b1 [.int .i64 0, .int .i64 0, .string (bs []), .int .i64 0, .int .i64 0]]
 refine run_seq ?_
 refine run_region' ?_
 refine oy rfl rfl (y_build_struct (cells := #[.int .i64 0, .int .i64 0, .string (bs []), .int .i64 0, .int .i64 182]) [(2, .int .i64 182)] [(2, [.int .i64 182])] Tryz.zeroValue72 Tryz.runUnderlying72 (fs_cons Tryz.sizeOf44 (fs_cons Tryz.sizeOf3 (fs_cons Tryz.sizeOf24 fs_nil))) rfl rfl rfl) ?_
 refine ot rfl rfl (t_store 0 Tryz.sizeOf72 rfl rfl rfl rfl (by simp [Value.cells, boxP]) (by simp [Value.cells, Value.oneCell', boxP])) ?_
 rintro _ _ ⟨rfl, rfl⟩
 refine ops_turn (retell 0 (g := box b1 [.int .i64 0, .int .i64 0, .string (bs []), .int .i64 0, .int .i64 182]) rfl rfl) ?_
 refine ops_nil ?_
 refine goes_code ?_
 refine run_ret ?_
 obtain rfl := some_eq h
 refine fin_res [.cell 4 72] [.agg #[.int .i64 0, .int .i64 0, .string (bs []), .int .i64 0, .int .i64 182]] [] [] Tryz.results56 rfl (rescons (res_box 0 Tryz.isAgg72 Tryz.sizeOf72 rfl rfl rfl) resnil) (by decide) rfl ?_
 exact ⟨rfl, rfl⟩

def ref18_Signs  : Option ((List (List UInt8))) :=
 some ([[61, 61], [33, 61], [60, 61], [62, 61], [46, 46], [123], [125], [40], [41], [91], [93], [44], [59], [58], [61], [60], [62], [43], [45], [42], [47], [37]] : List (List UInt8))
theorem ref18_Signs_ok   {r : (List (List UInt8))} (h : ref18_Signs = some r) :
  Meets Tryz.prog 77 [] [] (fun v G => ∃ v0, v = v0 ∧ G = [row v0 1 (r.map eStr)]) := by
 refine fn_of_run Tryz.func77 rfl Tryz.ntmps77 rfl (fun w0 o0 => ?_)
 refine run_seq ?_
 refine run_region' ?_
 refine oy rfl rfl (y_assign rfl) ?_
 refine ops_nil ?_
 refine goes_code ?_
 refine run_seq ?_
 refine run_region' ?_
 refine ot rfl rfl (t_lit [.string (bs [61, 61]), .string (bs [33, 61]), .string (bs [60, 61]), .string (bs [62, 61]), .string (bs [46, 46]), .string (bs [123]), .string (bs [125]), .string (bs [40]), .string (bs [41]), .string (bs [91]), .string (bs [93]), .string (bs [44]), .string (bs [59]), .string (bs [58]), .string (bs [61]), .string (bs [60]), .string (bs [62]), .string (bs [43]), .string (bs [45]), .string (bs [42]), .string (bs [47]), .string (bs [37])] Tryz.runUnderlying39 Tryz.sizeOf9 Tryz.zeroValue9 rfl (by decide) (by decide) rfl (by simp [Value.cells, boxP])) ?_
 rintro v1 _ ⟨rfl, _⟩
 refine ops_turn (retell 0 (g := row v1 1 (([[61, 61], [33, 61], [60, 61], [62, 61], [46, 46], [123], [125], [40], [41], [91], [93], [44], [59], [58], [61], [60], [62], [43], [45], [42], [47], [37]] : List (List UInt8)).map eStr)) rfl rfl) ?_
 refine oy rfl rfl (y_assign rfl) ?_
 refine ops_nil ?_
 refine goes_code ?_
 refine run_ret ?_
 obtain rfl := some_eq h
 refine fin_slots [0] [v1] [0] [row v1 1 (([[61, 61], [33, 61], [60, 61], [62, 61], [46, 46], [123], [125], [40], [41], [91], [93], [44], [59], [58], [61], [60], [62], [43], [45], [42], [47], [37]] : List (List UInt8)).map eStr)] Tryz.results77 rfl (by decide) rfl ?_
 exact ⟨_, rfl, rfl⟩

def ref18_sign_L1 (s_0 : (List UInt8)) (at_1 : Int) (r2 : (List (List UInt8))) : (Int) → Option (Lp (Int) (Lp (Unit) (S_ref18_Got))) :=
 fun i_9 =>
  cond (decide (i_9 < (r2.length : Int)))
   (idx r2 i_9 fun x15 =>
   bindJ (S := Bool)
    (cond (decide ((IntKind.i64.wrap (at_1 + (x15.length : Int))) ≤ (s_0.length : Int)))
     (need (0 ≤ at_1 ∧ at_1 ≤ (IntKind.i64.wrap (at_1 + (x15.length : Int))) ∧ (IntKind.i64.wrap (at_1 + (x15.length : Int))) ≤ (s_0.length : Int)) (
     some (.go (decide (((s_0.take (((IntKind.i64.wrap (at_1 + (x15.length : Int)))).toNat)).drop at_1.toNat) = x15)))))
     (some (.go false)))
   (fun b16 =>
    cond b16
     (idx r2 i_9 fun x24 =>
     some (.stop (.stop (S_ref18_Got.mk (S_api_Lexeme.mk 5 at_1 x24) (IntKind.i64.wrap (at_1 + (x15.length : Int))) 0))))
     (some (.go (IntKind.i64.wrap (i_9 + 1))))))
   (some (.stop (.go ())))
def ref18_sign (n : Nat) (s_0 : (List UInt8)) (at_1 : Int) : Option (S_ref18_Got) :=
 obind (ref18_Signs) fun r2 =>
 bindJ (S := Unit)
  (iter (ref18_sign_L1 s_0 at_1 r2) n 0)
 (fun _ =>
  some (S_ref18_Got.mk (S_api_Lexeme.mk 0 0 []) 0 180))
theorem ref18_sign_ok (n : Nat) (s_0 : (List UInt8)) (at_1 : Int)  {r : S_ref18_Got} (h : ref18_sign n s_0 at_1 = some r) :
  Meets Tryz.prog 57 [.string (bs s_0), .int .i64 at_1] [] (fun v G => v = .agg #[.int .i64 r.T.Kind, .int .i64 r.T.At, .string (bs r.T.S), .int .i64 r.End, .int .i64 r.E] ∧ G = []) := by
 refine fn_of_run Tryz.func57 rfl Tryz.ntmps57 rfl (fun w0 o0 => ?_)
 refine run_seq ?_
 refine run_region' ?_
 refine ot rfl rfl (t_alloc Tryz.zeroValue72) ?_
 rintro _ _ ⟨b1, rfl, rfl⟩
 refine ops_nil ?_
 refine goes_code ?_
 refine run_seq ?_
 refine run_region' ?_
 obtain ⟨r2, hr3, h⟩ := obind_some h
 refine ot rfl rfl (t_callx (vs := []) (cs := []) [] rfl Tryz.call77 rfl (ref18_Signs_ok    hr3) showsX_nil rfl (.inl rfl)) ?_
 rintro v4 _ ⟨_, ⟨_, rfl, rfl⟩, rfl⟩
 refine oy rfl rfl (y_assign rfl) ?_
 refine ops_nil ?_
 refine goes_code ?_
 obtain ⟨o5, h, ho6⟩ := bindJ_some h
 refine run_cut ((Unit) × (Unit)) (fun σ => [(4, boxP b1 0)]) (fun σ => [box b1 [.int .i64 0, .int .i64 0, .string (bs []), .int .i64 0, .int .i64 0]]) (fun σ => o5 = .go σ.1) (fun L8 hL7 => ?_) ?_
 ·
  refine run_seq ?_
  refine run_region' ?_
  refine oy rfl rfl (y_assign rfl) ?_
  refine ops_nil ?_
  refine goes_code ?_
  refine run_block ?_
  refine run_iter (step := ref18_sign_L1 s_0 at_1 r2) (n := n) (s0 := 0) h (G := Unit) () (fun σ γ => [(6, .int .i64 σ), (0, .string (bs s_0)), (1, .int .i64 at_1), (4, boxP b1 0), (5, v4)]) (fun σ γ => [box b1 [.int .i64 0, .int .i64 0, .string (bs []), .int .i64 0, .int .i64 0], row v4 1 (r2.map eStr)]) [0, 1] (qv5 rfl rfl rfl rfl rfl) (by decide) rfl ?_
  rintro i_9 _ o10 h L13 hgo11 hstop12
  change Run _ _ _ (VF.of [(6, .int .i64 i_9), (0, .string (bs s_0)), (1, .int .i64 at_1), (4, boxP b1 0), (5, v4)]) [box b1 [.int .i64 0, .int .i64 0, .string (bs []), .int .i64 0, .int .i64 0], row v4 1 (r2.map eStr)]
  refine run_seq ?_
  refine run_seq ?_
  refine run_region' ?_
  refine oy rfl rfl (y_move rfl) ?_
  refine oy rfl rfl (y_move rfl) ?_
  refine oy rfl rfl ((y_len 1 rfl Tryz.runUnderlying39 rfl rfl reads_row).to (v_len eStr _)) ?_
  refine oy rfl rfl (y_lss rfl rfl) ?_
  refine ops_nil ?_
  refine goes_code ?_
  refine run_cond (decide (i_9 < (r2.length : Int))) rfl (fun hc14 => ?_) (fun hc14 => ?_)
  ·replace h := cond_t h hc14
   refine run_skip ?_
   refine goes_code ?_
   refine run_seq ?_
   refine run_block ?_
   refine run_seq ?_
   refine run_region' ?_
   refine oy rfl rfl (y_move rfl) ?_
   refine oy rfl rfl (y_move rfl) ?_
   obtain ⟨x15, hzx15, hlx15, hxx15, h⟩ := idx_some h
   refine oy rfl rfl (y_indexAddrI (kd := .i64) (i := i_9) 1 Tryz.runUnderlying39 Tryz.sizeOf9 rfl rfl rfl reads_row hzx15 (map_lt hlx15)) ?_
   refine oy rfl rfl (y_load_elem (i := i_9.toNat) 1 Tryz.isAgg9 rfl rfl reads_row (map_get hxx15)) ?_
   refine oy rfl rfl (y_len_str rfl Tryz.runUnderlying9 rfl) ?_
   refine oy rfl rfl (y_assign rfl) ?_
   refine ops_nil ?_
   refine goes_code ?_
   refine run_seq ?_
   refine run_weak [(6, .int .i64 i_9), (0, .string (bs s_0)), (1, .int .i64 at_1), (4, boxP b1 0), (5, v4), (7, .int .i64 (x15.length : Int))] [0, 1] [box b1 [.int .i64 0, .int .i64 0, .string (bs []), .int .i64 0, .int .i64 0], row v4 1 (r2.map eStr)] (qv6 rfl rfl rfl rfl rfl rfl) (by decide) rfl ?_
   refine run_draw (by kernel_rfl) (by kernel_rfl) ?_
   refine sy rfl rfl (y_move rfl) ?_
   refine sy rfl rfl (y_move rfl) ?_
   refine sy rfl rfl (y_add rfl rfl) ?_
   refine sy rfl rfl (y_move rfl) ?_
   refine sy rfl rfl (y_len_str rfl Tryz.runUnderlying9 rfl) ?_
   refine sy rfl rfl (y_leq rfl rfl) ?_
   refine sy rfl rfl (y_move rfl) ?_
   obtain ⟨o17, h, ho18⟩ := bindJ_some h
   refine still_cut 12 (Bool) (fun σ => [(6, .int .i64 i_9), (0, .string (bs s_0)), (1, .int .i64 at_1), (4, boxP b1 0), (5, v4), (7, .int .i64 (x15.length : Int)), (38, .bool σ)]) (fun σ => [box b1 [.int .i64 0, .int .i64 0, .string (bs []), .int .i64 0, .int .i64 0], row v4 1 (r2.map eStr)]) (fun σ => o17 = .go σ) (fun L19 hL20 => ?_) ?_
   ·refine still_split 26 (decide ((IntKind.i64.wrap (at_1 + (x15.length : Int))) ≤ (s_0.length : Int))) rfl (fun hg21 => ?_) (fun hg21 => ?_)
    ·replace h := cond_t h hg21
     refine still_y (wg 6 true 26 rfl rfl rfl rfl) rfl (y_move rfl) ?_
     refine still_y (wg 6 true 26 rfl rfl rfl rfl) rfl (y_move rfl) ?_
     refine still_y (wg 6 true 26 rfl rfl rfl rfl) rfl (y_move rfl) ?_
     refine still_y (wg 6 true 26 rfl rfl rfl rfl) rfl (y_move rfl) ?_
     refine still_y (wg 6 true 26 rfl rfl rfl rfl) rfl (y_add rfl rfl) ?_
     obtain ⟨hb22, h⟩ := need_some h
     refine still_y (wg 6 true 26 rfl rfl rfl rfl) rfl (y_slice_str (l := at_1) (r := (IntKind.i64.wrap (at_1 + (x15.length : Int)))) Tryz.runUnderlying9 rfl (bi1 (kd := .i64) rfl) (bi1 (kd := .i64) rfl) hb22.1 hb22.2.1 hb22.2.2) ?_
     refine still_y (wg 6 true 26 rfl rfl rfl rfl) rfl (y_move rfl) ?_
     refine still_y (wg 6 true 26 rfl rfl rfl rfl) rfl (y_move rfl) ?_
     refine still_y (wg 6 true 26 rfl rfl rfl rfl) rfl (y_indexAddrI (kd := .i64) (i := i_9) 1 Tryz.runUnderlying39 Tryz.sizeOf9 rfl rfl rfl reads_row hzx15 (map_lt hlx15)) ?_
     refine still_y (wg 6 true 26 rfl rfl rfl rfl) rfl (y_load_elem (i := i_9.toNat) 1 Tryz.isAgg9 rfl rfl reads_row (map_get hxx15)) ?_
     refine still_y (wg 6 true 26 rfl rfl rfl rfl) rfl (y_seql rfl rfl) ?_
     refine sy rfl rfl (y_pick (b := true) rfl rfl) ?_
     refine still_nil ?_
     obtain rfl := some_eq h
     exact goes_cut hL20 (decide (((s_0.take (((IntKind.i64.wrap (at_1 + (x15.length : Int)))).toNat)).drop at_1.toNat) = x15)) [0, 1] (qv7 rfl rfl rfl rfl rfl rfl rfl) (by decide) rfl rfl
    ·replace h := cond_f h hg21
     refine still_no 6 true 26 rfl rfl rfl rfl rfl ?_
     refine still_no 6 true 26 rfl rfl rfl rfl rfl ?_
     refine still_no 6 true 26 rfl rfl rfl rfl rfl ?_
     refine still_no 6 true 26 rfl rfl rfl rfl rfl ?_
     refine still_no 6 true 26 rfl rfl rfl rfl rfl ?_
     refine still_no 6 true 26 rfl rfl rfl rfl rfl ?_
     refine still_no 6 true 26 rfl rfl rfl rfl rfl ?_
     refine still_no 6 true 26 rfl rfl rfl rfl rfl ?_
     refine still_no 6 true 26 rfl rfl rfl rfl rfl ?_
     refine still_no 6 true 26 rfl rfl rfl rfl rfl ?_
     refine still_no 6 true 26 rfl rfl rfl rfl rfl ?_
     refine sy rfl rfl (y_pick (b := false) rfl rfl) ?_
     refine still_nil ?_
     obtain rfl := some_eq h
     exact goes_cut hL20 false [0, 1] (qv7 rfl rfl rfl rfl rfl rfl rfl) (by decide) rfl rfl
   rintro b16 hj
   obtain rfl : o17 = _ := hj
   replace h := after_go ho18
   clear ho18
   refine still_nil ?_
   refine goes_code ?_
   refine run_cond b16 rfl (fun hc23 => ?_) (fun hc23 => ?_)
   ·replace h := cond_t h hc23
    refine run_seq ?_
    refine run_region' ?_
    refine oy rfl rfl (y_move rfl) ?_
    refine oy rfl rfl (y_move rfl) ?_
    refine oy rfl rfl (y_move rfl) ?_
    obtain ⟨x24, hzx24, hlx24, hxx24, h⟩ := idx_some h
    refine oy rfl rfl (y_indexAddrI (kd := .i64) (i := i_9) 1 Tryz.runUnderlying39 Tryz.sizeOf9 rfl rfl rfl reads_row hzx24 (map_lt hlx24)) ?_
    refine oy rfl rfl (y_load_elem (i := i_9.toNat) 1 Tryz.isAgg9 rfl rfl reads_row (map_get hxx24)) ?_
    refine oy rfl rfl (y_build_struct (cells := #[.int .i64 5, .int .i64 at_1, .string (bs x24)]) [(0, .int .i64 5), (1, .int .i64 at_1), (2, .string (bs x24))] [(0, [.int .i64 5]), (1, [.int .i64 at_1]), (2, [.string (bs x24)])] Tryz.zeroValue44 Tryz.runUnderlying44 (fs_cons Tryz.sizeOf3 (fs_cons Tryz.sizeOf3 (fs_cons Tryz.sizeOf9 fs_nil))) rfl rfl rfl) ?_
    refine oy rfl rfl (y_move rfl) ?_
    refine oy rfl rfl (y_move rfl) ?_
    refine oy rfl rfl (y_add rfl rfl) ?_
    refine oy rfl rfl (y_build_struct (cells := #[.int .i64 5, .int .i64 at_1, .string (bs x24), .int .i64 (IntKind.i64.wrap (at_1 + (x15.length : Int))), .int .i64 0]) [(0, .agg #[.int .i64 5, .int .i64 at_1, .string (bs x24)]), (1, .int .i64 (IntKind.i64.wrap (at_1 + (x15.length : Int))))] [(0, [.int .i64 5, .int .i64 at_1, .string (bs x24)]), (1, [.int .i64 (IntKind.i64.wrap (at_1 + (x15.length : Int)))])] Tryz.zeroValue72 Tryz.runUnderlying72 (fs_cons Tryz.sizeOf44 (fs_cons Tryz.sizeOf3 (fs_cons Tryz.sizeOf24 fs_nil))) rfl rfl rfl) ?_
    refine ot rfl rfl (t_store 0 Tryz.sizeOf72 rfl rfl rfl rfl (by simp [Value.cells, boxP]) (by simp [Value.cells, Value.oneCell', boxP])) ?_
    rintro _ _ ⟨rfl, rfl⟩
    refine ops_turn (retell 0 (g := box b1 [.int .i64 5, .int .i64 at_1, .string (bs x24), .int .i64 (IntKind.i64.wrap (at_1 + (x15.length : Int))), .int .i64 0]) rfl rfl) ?_
    refine ops_nil ?_
    refine goes_code ?_
    refine run_ret ?_
    obtain rfl := some_eq h
    obtain rfl := hstop12 _ rfl
    skip
    obtain rfl := after_stop ho6
    refine fin_res [.cell 4 72] [.agg #[.int .i64 5, .int .i64 at_1, .string (bs x24), .int .i64 (IntKind.i64.wrap (at_1 + (x15.length : Int))), .int .i64 0]] [] [] Tryz.results57 rfl (rescons (res_box 0 Tryz.isAgg72 Tryz.sizeOf72 rfl rfl rfl) resnil) (by decide) rfl ?_
    exact ⟨rfl, rfl⟩
   ·replace h := cond_f h hc23
    refine run_skip ?_
    refine goes_blk ?_
    refine goes_code ?_
    refine run_region' ?_
    refine oy rfl rfl (y_move rfl) ?_
    refine oy rfl rfl (y_add rfl rfl) ?_
    refine oy rfl rfl (y_assign rfl) ?_
    refine ops_nil ?_
    obtain rfl := some_eq h
    exact goes_iter hgo11 (IntKind.i64.wrap (i_9 + 1)) () [0, 1] rfl (qv5 rfl rfl rfl rfl rfl) (by decide) rfl
  ·replace h := cond_f h hc14
   refine run_exit _ rfl ?_
   obtain rfl := some_eq h
   obtain rfl := hstop12 _ rfl
   exact goes_cut hL7 ((), ()) [0] (qv1 rfl) (by decide) rfl rfl
 rintro ⟨_, _⟩ hj
 obtain rfl : o5 = _ := hj
 replace h := after_go ho6
 clear ho6
 change Run _ _ _ (VF.of [(4, boxP b1 0)]) [box b1 [.int .i64 0, .int .i64 0, .string (bs []), .int .i64 0, .int .i64 0]]
 refine run_seq ?_
 refine run_region' ?_
 refine oy rfl rfl (y_build_struct (cells := #[.int .i64 0, .int .i64 0, .string (bs []), .int .i64 0, .int .i64 180]) [(2, .int .i64 180)] [(2, [.int .i64 180])] Tryz.zeroValue72 Tryz.runUnderlying72 (fs_cons Tryz.sizeOf44 (fs_cons Tryz.sizeOf3 (fs_cons Tryz.sizeOf24 fs_nil))) rfl rfl rfl) ?_
 refine ot rfl rfl (t_store 0 Tryz.sizeOf72 rfl rfl rfl rfl (by simp [Value.cells, boxP]) (by simp [Value.cells, Value.oneCell', boxP])) ?_
 rintro _ _ ⟨rfl, rfl⟩
 refine ops_turn (retell 0 (g := box b1 [.int .i64 0, .int .i64 0, .string (bs []), .int .i64 0, .int .i64 180]) rfl rfl) ?_
 refine ops_nil ?_
 refine goes_code ?_
 refine run_ret ?_
 obtain rfl := some_eq h
 refine fin_res [.cell 4 72] [.agg #[.int .i64 0, .int .i64 0, .string (bs []), .int .i64 0, .int .i64 180]] [] [] Tryz.results57 rfl (rescons (res_box 0 Tryz.isAgg72 Tryz.sizeOf72 rfl rfl rfl) resnil) (by decide) rfl ?_
 exact ⟨rfl, rfl⟩

def ref18_next (n : Nat) (s_0 : (List UInt8)) (at_1 : Int) : Option (S_ref18_Got) :=
 idx s_0 at_1 fun c2 =>
 obind (ref18_small (c2.toNat : Int)) fun r3 =>
 cond r3
  (obind (ref18_name n s_0 at_1) fun r6 =>
  some r6)
  (idx s_0 at_1 fun c8 =>
  obind (ref18_digit (c8.toNat : Int)) fun r9 =>
  cond r9
   (obind (ref18_number n s_0 at_1) fun r12 =>
   some r12)
   (idx s_0 at_1 fun c14 =>
   cond (decide ((c14.toNat : Int) = 34))
    (obind (ref18_text n s_0 at_1) fun r16 =>
    some r16)
    (obind (ref18_sign n s_0 at_1) fun r18 =>
    some r18)))
theorem ref18_next_ok (n : Nat) (s_0 : (List UInt8)) (at_1 : Int)  {r : S_ref18_Got} (h : ref18_next n s_0 at_1 = some r) :
  Meets Tryz.prog 30 [.string (bs s_0), .int .i64 at_1] [] (fun v G => v = .agg #[.int .i64 r.T.Kind, .int .i64 r.T.At, .string (bs r.T.S), .int .i64 r.End, .int .i64 r.E] ∧ G = []) := by
 refine fn_of_run Tryz.func30 rfl Tryz.ntmps30 rfl (fun w0 o0 => ?_)
 refine run_seq ?_
 refine run_region' ?_
 refine ot rfl rfl (t_alloc Tryz.zeroValue72) ?_
 rintro _ _ ⟨b1, rfl, rfl⟩
 refine ops_nil ?_
 refine goes_code ?_
 refine run_seq ?_
 refine run_seq ?_
 refine run_region' ?_
 refine oy rfl rfl (y_move rfl) ?_
 refine oy rfl rfl (y_move rfl) ?_
 obtain ⟨c2, hzc2, hlc2, hxc2, h⟩ := idx_some h
 refine oy rfl rfl (y_index_strI (kd := .i64) (i := at_1) Tryz.runUnderlying9 rfl rfl hzc2 hxc2) ?_
 obtain ⟨r3, hr4, h⟩ := obind_some h
 refine ot rfl rfl (t_callx (vs := [.int .u8 (c2.toNat : Int)]) (cs := []) [] rfl Tryz.call52 rfl (ref18_small_ok  (c2.toNat : Int)  hr4) showsX_nil rfl (.inl rfl)) ?_
 rintro _ _ ⟨_, ⟨rfl, rfl⟩, rfl⟩
 refine ops_nil ?_
 refine goes_code ?_
 refine run_cond r3 rfl (fun hc5 => ?_) (fun hc5 => ?_)
 ·replace h := cond_t h hc5
  refine run_seq ?_
  refine run_region' ?_
  refine oy rfl rfl (y_move rfl) ?_
  refine oy rfl rfl (y_move rfl) ?_
  obtain ⟨r6, hr7, h⟩ := obind_some h
  refine ot rfl rfl (t_callx (vs := [.string (bs s_0), .int .i64 at_1]) (cs := []) [] rfl Tryz.call53 rfl (ref18_name_ok n  s_0 at_1  hr7) showsX_nil rfl (.inl rfl)) ?_
  rintro _ _ ⟨_, ⟨rfl, rfl⟩, rfl⟩
  refine ot rfl rfl (t_store 0 Tryz.sizeOf72 rfl rfl rfl rfl (by simp [Value.cells, boxP]) (by simp [Value.cells, Value.oneCell', boxP])) ?_
  rintro _ _ ⟨rfl, rfl⟩
  refine ops_turn (retell 0 (g := box b1 [.int .i64 r6.T.Kind, .int .i64 r6.T.At, .string (bs r6.T.S), .int .i64 r6.End, .int .i64 r6.E]) rfl rfl) ?_
  refine ops_nil ?_
  refine goes_code ?_
  refine run_ret ?_
  obtain rfl := some_eq h
  refine fin_res [.cell 4 72] [.agg #[.int .i64 r6.T.Kind, .int .i64 r6.T.At, .string (bs r6.T.S), .int .i64 r6.End, .int .i64 r6.E]] [] [] Tryz.results30 rfl (rescons (res_box 0 Tryz.isAgg72 Tryz.sizeOf72 rfl rfl rfl) resnil) (by decide) rfl ?_
  exact ⟨rfl, rfl⟩
 ·replace h := cond_f h hc5
  refine run_skip ?_
  refine goes_code ?_
  refine run_seq ?_
  refine run_seq ?_
  refine run_region' ?_
  refine oy rfl rfl (y_move rfl) ?_
  refine oy rfl rfl (y_move rfl) ?_
  obtain ⟨c8, hzc8, hlc8, hxc8, h⟩ := idx_some h
  refine oy rfl rfl (y_index_strI (kd := .i64) (i := at_1) Tryz.runUnderlying9 rfl rfl hzc8 hxc8) ?_
  obtain ⟨r9, hr10, h⟩ := obind_some h
  refine ot rfl rfl (t_callx (vs := [.int .u8 (c8.toNat : Int)]) (cs := []) [] rfl Tryz.call54 rfl (ref18_digit_ok  (c8.toNat : Int)  hr10) showsX_nil rfl (.inl rfl)) ?_
  rintro _ _ ⟨_, ⟨rfl, rfl⟩, rfl⟩
  refine ops_nil ?_
  refine goes_code ?_
  refine run_cond r9 rfl (fun hc11 => ?_) (fun hc11 => ?_)
  ·replace h := cond_t h hc11
   refine run_seq ?_
   refine run_weak [(0, .string (bs s_0)), (1, .int .i64 at_1), (4, boxP b1 0)] [0] [box b1 [.int .i64 0, .int .i64 0, .string (bs []), .int .i64 0, .int .i64 0]] (qv3 rfl rfl rfl) (by decide) rfl ?_
   refine run_region' ?_
   refine oy rfl rfl (y_move rfl) ?_
   refine oy rfl rfl (y_move rfl) ?_
   obtain ⟨r12, hr13, h⟩ := obind_some h
   refine ot rfl rfl (t_callx (vs := [.string (bs s_0), .int .i64 at_1]) (cs := []) [] rfl Tryz.call55 rfl (ref18_number_ok n  s_0 at_1  hr13) showsX_nil rfl (.inl rfl)) ?_
   rintro _ _ ⟨_, ⟨rfl, rfl⟩, rfl⟩
   refine ot rfl rfl (t_store 0 Tryz.sizeOf72 rfl rfl rfl rfl (by simp [Value.cells, boxP]) (by simp [Value.cells, Value.oneCell', boxP])) ?_
   rintro _ _ ⟨rfl, rfl⟩
   refine ops_turn (retell 0 (g := box b1 [.int .i64 r12.T.Kind, .int .i64 r12.T.At, .string (bs r12.T.S), .int .i64 r12.End, .int .i64 r12.E]) rfl rfl) ?_
   refine ops_nil ?_
   refine goes_code ?_
   refine run_ret ?_
   obtain rfl := some_eq h
   refine fin_res [.cell 4 72] [.agg #[.int .i64 r12.T.Kind, .int .i64 r12.T.At, .string (bs r12.T.S), .int .i64 r12.End, .int .i64 r12.E]] [] [] Tryz.results30 rfl (rescons (res_box 0 Tryz.isAgg72 Tryz.sizeOf72 rfl rfl rfl) resnil) (by decide) rfl ?_
   exact ⟨rfl, rfl⟩
  ·replace h := cond_f h hc11
   refine run_skip ?_
   refine goes_code ?_
   refine run_seq ?_
   refine run_seq ?_
   refine run_weak [(0, .string (bs s_0)), (1, .int .i64 at_1), (4, boxP b1 0)] [0] [box b1 [.int .i64 0, .int .i64 0, .string (bs []), .int .i64 0, .int .i64 0]] (qv3 rfl rfl rfl) (by decide) rfl ?_
   refine run_region' ?_
   refine oy rfl rfl (y_move rfl) ?_
   refine oy rfl rfl (y_move rfl) ?_
   obtain ⟨c14, hzc14, hlc14, hxc14, h⟩ := idx_some h
   refine oy rfl rfl (y_index_strI (kd := .i64) (i := at_1) Tryz.runUnderlying9 rfl rfl hzc14 hxc14) ?_
   refine oy rfl rfl (y_eql rfl rfl) ?_
   refine ops_nil ?_
   refine goes_code ?_
   refine run_cond (decide ((c14.toNat : Int) = 34)) rfl (fun hc15 => ?_) (fun hc15 => ?_)
   ·replace h := cond_t h hc15
    refine run_seq ?_
    refine run_region' ?_
    refine oy rfl rfl (y_move rfl) ?_
    refine oy rfl rfl (y_move rfl) ?_
    obtain ⟨r16, hr17, h⟩ := obind_some h
    refine ot rfl rfl (t_callx (vs := [.string (bs s_0), .int .i64 at_1]) (cs := []) [] rfl Tryz.call56 rfl (ref18_text_ok n  s_0 at_1  hr17) showsX_nil rfl (.inl rfl)) ?_
    rintro _ _ ⟨_, ⟨rfl, rfl⟩, rfl⟩
    refine ot rfl rfl (t_store 0 Tryz.sizeOf72 rfl rfl rfl rfl (by simp [Value.cells, boxP]) (by simp [Value.cells, Value.oneCell', boxP])) ?_
    rintro _ _ ⟨rfl, rfl⟩
    refine ops_turn (retell 0 (g := box b1 [.int .i64 r16.T.Kind, .int .i64 r16.T.At, .string (bs r16.T.S), .int .i64 r16.End, .int .i64 r16.E]) rfl rfl) ?_
    refine ops_nil ?_
    refine goes_code ?_
    refine run_ret ?_
    obtain rfl := some_eq h
    refine fin_res [.cell 4 72] [.agg #[.int .i64 r16.T.Kind, .int .i64 r16.T.At, .string (bs r16.T.S), .int .i64 r16.End, .int .i64 r16.E]] [] [] Tryz.results30 rfl (rescons (res_box 0 Tryz.isAgg72 Tryz.sizeOf72 rfl rfl rfl) resnil) (by decide) rfl ?_
    exact ⟨rfl, rfl⟩
   ·replace h := cond_f h hc15
    refine run_skip ?_
    refine goes_code ?_
    refine run_seq ?_
    refine run_region' ?_
    refine oy rfl rfl (y_move rfl) ?_
    refine oy rfl rfl (y_move rfl) ?_
    obtain ⟨r18, hr19, h⟩ := obind_some h
    refine ot rfl rfl (t_callx (vs := [.string (bs s_0), .int .i64 at_1]) (cs := []) [] rfl Tryz.call57 rfl (ref18_sign_ok n  s_0 at_1  hr19) showsX_nil rfl (.inl rfl)) ?_
    rintro _ _ ⟨_, ⟨rfl, rfl⟩, rfl⟩
    refine ot rfl rfl (t_store 0 Tryz.sizeOf72 rfl rfl rfl rfl (by simp [Value.cells, boxP]) (by simp [Value.cells, Value.oneCell', boxP])) ?_
    rintro _ _ ⟨rfl, rfl⟩
    refine ops_turn (retell 0 (g := box b1 [.int .i64 r18.T.Kind, .int .i64 r18.T.At, .string (bs r18.T.S), .int .i64 r18.End, .int .i64 r18.E]) rfl rfl) ?_
    refine ops_nil ?_
    refine goes_code ?_
    refine run_ret ?_
    obtain rfl := some_eq h
    refine fin_res [.cell 4 72] [.agg #[.int .i64 r18.T.Kind, .int .i64 r18.T.At, .string (bs r18.T.S), .int .i64 r18.End, .int .i64 r18.E]] [] [] Tryz.results30 rfl (rescons (res_box 0 Tryz.isAgg72 Tryz.sizeOf72 rfl rfl rfl) resnil) (by decide) rfl ?_
    exact ⟨rfl, rfl⟩

def ref18_Tokens_L1 (n : Nat) (s_0 : (List UInt8)) : ((List S_api_Lexeme) × Int) → Option (Lp ((List S_api_Lexeme) × Int) (Lp ((List S_api_Lexeme)) (S_ref18_Read))) :=
 fun (out_11, at_12) =>
  cond (decide (at_12 < (s_0.length : Int)))
   (obind (ref18_next n s_0 at_12) fun r19 =>
   cond (decide (r19.E ≠ 0))
    (some (.stop (.stop (S_ref18_Read.mk ([] : List S_api_Lexeme) (S_api_Problem.mk at_12 r19.E)))))
    (need (out_11.length + ([r19.T] : List S_api_Lexeme).length ≤ 4294967296) (
    obind (ref18_skip n s_0 r19.End) fun r26 =>
    some (.go ((out_11 ++ ([r19.T] : List S_api_Lexeme)), r26)))))
   (some (.stop (.go out_11)))
def ref18_Tokens (n : Nat) (s_0 : (List UInt8)) : Option (S_ref18_Read) :=
 cond (decide (65536 < (s_0.length : Int)))
  (some (S_ref18_Read.mk ([] : List S_api_Lexeme) (S_api_Problem.mk 0 2)))
  (bindJ (S := (List S_api_Lexeme))
   (obind (ref18_skip n s_0 0) fun r9 =>
   iter (ref18_Tokens_L1 n s_0) n (([] : List S_api_Lexeme), r9))
  (fun out_3 =>
   some (S_ref18_Read.mk out_3 (S_api_Problem.mk 0 0))))
theorem ref18_Tokens_ok (n : Nat) (s_0 : (List UInt8))  {r : S_ref18_Read} (h : ref18_Tokens n s_0 = some r) :
  Meets Tryz.prog 11 [.string (bs s_0)] [] (fun v G => ∃ v0, v = .agg #[v0, .int .i64 r.P.At, .int .i64 r.P.E] ∧ G = [row v0 3 (r.L.map S_api_Lexeme.enc)]) := by
 refine fn_of_run Tryz.func11 rfl Tryz.ntmps11 rfl (fun w0 o0 => ?_)
 refine run_seq ?_
 refine run_region' ?_
 refine ot rfl rfl (t_alloc Tryz.zeroValue30) ?_
 rintro _ _ ⟨b1, rfl, rfl⟩
 refine ops_nil ?_
 refine goes_code ?_
 refine run_seq ?_
 refine run_seq ?_
 refine run_region' ?_
 refine oy rfl rfl (y_move rfl) ?_
 refine oy rfl rfl (y_len_str rfl Tryz.runUnderlying9 rfl) ?_
 refine oy rfl rfl (y_gtr rfl rfl) ?_
 refine ops_nil ?_
 refine goes_code ?_
 refine run_cond (decide (65536 < (s_0.length : Int))) rfl (fun hc2 => ?_) (fun hc2 => ?_)
 ·replace h := cond_t h hc2
  refine run_seq ?_
  refine run_region' ?_
  refine oy rfl rfl (y_build_struct (cells := #[.int .i64 0, .int .i64 2]) [(1, .int .i64 2)] [(1, [.int .i64 2])] Tryz.zeroValue26 Tryz.runUnderlying26 (fs_cons Tryz.sizeOf3 (fs_cons Tryz.sizeOf24 fs_nil)) rfl rfl rfl) ?_
  refine oy rfl rfl (y_build_struct (cells := #[.slice none 0 0, .int .i64 0, .int .i64 2]) [(1, .agg #[.int .i64 0, .int .i64 2])] [(1, [.int .i64 0, .int .i64 2])] Tryz.zeroValue30 Tryz.runUnderlying30 (fs_cons Tryz.sizeOf23 (fs_cons Tryz.sizeOf26 fs_nil)) rfl rfl rfl) ?_
  refine ot rfl rfl (t_store 0 Tryz.sizeOf30 rfl rfl rfl rfl (by simp [Value.cells, boxP]) (by simp [Value.cells, Value.oneCell', boxP])) ?_
  rintro _ _ ⟨rfl, rfl⟩
  refine ops_turn (retell 0 (g := box b1 [.slice none 0 0, .int .i64 0, .int .i64 2]) rfl rfl) ?_
  refine ops_nil ?_
  refine goes_code ?_
  refine run_ret ?_
  refine fin_turn (nilrow 3) ?_
  refine fin_turn (retell 1 (g := row (.slice none 0 0) 3 (([] : List S_api_Lexeme).map S_api_Lexeme.enc)) rfl rfl) ?_
  obtain rfl := some_eq h
  refine fin_res [.cell 2 30] [.agg #[(.slice none 0 0), .int .i64 0, .int .i64 2]] [1] [row (.slice none 0 0) 3 (([] : List S_api_Lexeme).map S_api_Lexeme.enc)] Tryz.results11 rfl (rescons (res_box 0 Tryz.isAgg30 Tryz.sizeOf30 rfl rfl rfl) resnil) (by decide) rfl ?_
  exact ⟨_, rfl, rfl⟩
 ·replace h := cond_f h hc2
  refine run_skip ?_
  refine goes_code ?_
  refine run_seq ?_
  refine run_region' ?_
  refine oy rfl rfl (y_assign rfl) ?_
  refine ops_nil ?_
  refine goes_code ?_
  obtain ⟨o5, h, ho6⟩ := bindJ_some h
  refine run_cut (((List S_api_Lexeme)) × (Value)) (fun σ => [(3, σ.2), (2, boxP b1 0)]) (fun σ => [row σ.2 3 (σ.1.map S_api_Lexeme.enc), box b1 [.slice none 0 0, .int .i64 0, .int .i64 0]]) (fun σ => o5 = .go σ.1) (fun L8 hL7 => ?_) ?_
  ·
   refine run_seq ?_
   refine run_region' ?_
   refine oy rfl rfl (y_move rfl) ?_
   obtain ⟨r9, hr10, h⟩ := obind_some h
   refine ot rfl rfl (t_callx (vs := [.string (bs s_0), .int .i64 0]) (cs := []) [] rfl Tryz.call29 rfl (ref18_skip_ok n  s_0 0  hr10) showsX_nil rfl (.inl rfl)) ?_
   rintro _ _ ⟨_, ⟨rfl, rfl⟩, rfl⟩
   refine oy rfl rfl (y_assign rfl) ?_
   refine ops_nil ?_
   refine goes_code ?_
   refine run_block ?_
   refine run_turn (nilrow 3) ?_
   refine run_turn (retell 1 (g := row (.slice none 0 0) 3 (([] : List S_api_Lexeme).map S_api_Lexeme.enc)) rfl rfl) ?_
   refine run_iter (step := ref18_Tokens_L1 n s_0) (n := n) (s0 := (([] : List S_api_Lexeme), r9)) h (G := Value) (.slice none 0 0) (fun σ γ => [(3, γ), (4, .int .i64 σ.2), (0, .string (bs s_0)), (2, boxP b1 0)]) (fun σ γ => [row γ 3 (σ.1.map S_api_Lexeme.enc), box b1 [.slice none 0 0, .int .i64 0, .int .i64 0]]) [1, 0] (qv4 rfl rfl rfl rfl) (by decide) rfl ?_
   rintro ⟨out_11, at_12⟩ v13 o14 h L17 hgo15 hstop16
   change Run _ _ _ (VF.of [(3, v13), (4, .int .i64 at_12), (0, .string (bs s_0)), (2, boxP b1 0)]) [row v13 3 (out_11.map S_api_Lexeme.enc), box b1 [.slice none 0 0, .int .i64 0, .int .i64 0]]
   refine run_seq ?_
   refine run_seq ?_
   refine run_region' ?_
   refine oy rfl rfl (y_move rfl) ?_
   refine oy rfl rfl (y_move rfl) ?_
   refine oy rfl rfl (y_len_str rfl Tryz.runUnderlying9 rfl) ?_
   refine oy rfl rfl (y_lss rfl rfl) ?_
   refine ops_nil ?_
   refine goes_code ?_
   refine run_cond (decide (at_12 < (s_0.length : Int))) rfl (fun hc18 => ?_) (fun hc18 => ?_)
   ·replace h := cond_t h hc18
    refine run_skip ?_
    refine goes_code ?_
    refine run_block ?_
    refine run_seq ?_
    refine run_region' ?_
    refine oy rfl rfl (y_move rfl) ?_
    refine oy rfl rfl (y_move rfl) ?_
    obtain ⟨r19, hr20, h⟩ := obind_some h
    refine ot rfl rfl (t_callx (vs := [.string (bs s_0), .int .i64 at_12]) (cs := []) [] rfl Tryz.call30 rfl (ref18_next_ok n  s_0 at_12  hr20) showsX_nil rfl (.inl rfl)) ?_
    rintro _ _ ⟨_, ⟨rfl, rfl⟩, rfl⟩
    refine ot rfl rfl (t_alloc Tryz.zeroValue72) ?_
    rintro _ _ ⟨b21, rfl, rfl⟩
    refine ot rfl rfl (t_store 2 Tryz.sizeOf72 rfl rfl rfl rfl (by simp [Value.cells, boxP]) (by simp [Value.cells, Value.oneCell', boxP])) ?_
    rintro _ _ ⟨rfl, rfl⟩
    refine ops_turn (retell 2 (g := box b21 [.int .i64 r19.T.Kind, .int .i64 r19.T.At, .string (bs r19.T.S), .int .i64 r19.End, .int .i64 r19.E]) rfl rfl) ?_
    refine ops_nil ?_
    refine goes_code ?_
    refine run_seq ?_
    refine run_seq ?_
    refine run_weak [(3, v13), (4, .int .i64 at_12), (0, .string (bs s_0)), (2, boxP b1 0), (5, boxP b21 0)] [0, 1, 2] [row v13 3 (out_11.map S_api_Lexeme.enc), box b1 [.slice none 0 0, .int .i64 0, .int .i64 0], box b21 [.int .i64 r19.T.Kind, .int .i64 r19.T.At, .string (bs r19.T.S), .int .i64 r19.End, .int .i64 r19.E]] (qv5 rfl rfl rfl rfl rfl) (by decide) rfl ?_
    refine run_region' ?_
    refine oy rfl rfl (y_fieldAddr_box (sz := 0) Tryz.runUnderlying72 rfl Tryz.sizeOf24 rfl) ?_
    refine oy rfl rfl (y_load_box 2 Tryz.isAgg24 rfl rfl rfl) ?_
    refine oy rfl rfl (y_neq rfl rfl) ?_
    refine ops_nil ?_
    refine goes_code ?_
    refine run_cond (decide (r19.E ≠ 0)) rfl (fun hc22 => ?_) (fun hc22 => ?_)
    ·replace h := cond_t h hc22
     refine run_seq ?_
     refine run_region' ?_
     refine oy rfl rfl (y_move rfl) ?_
     refine oy rfl rfl (y_fieldAddr_box (sz := 0) Tryz.runUnderlying72 rfl Tryz.sizeOf24 rfl) ?_
     refine oy rfl rfl (y_load_box 2 Tryz.isAgg24 rfl rfl rfl) ?_
     refine oy rfl rfl (y_build_struct (cells := #[.int .i64 at_12, .int .i64 r19.E]) [(0, .int .i64 at_12), (1, .int .i64 r19.E)] [(0, [.int .i64 at_12]), (1, [.int .i64 r19.E])] Tryz.zeroValue26 Tryz.runUnderlying26 (fs_cons Tryz.sizeOf3 (fs_cons Tryz.sizeOf24 fs_nil)) rfl rfl rfl) ?_
     refine oy rfl rfl (y_build_struct (cells := #[.slice none 0 0, .int .i64 at_12, .int .i64 r19.E]) [(1, .agg #[.int .i64 at_12, .int .i64 r19.E])] [(1, [.int .i64 at_12, .int .i64 r19.E])] Tryz.zeroValue30 Tryz.runUnderlying30 (fs_cons Tryz.sizeOf23 (fs_cons Tryz.sizeOf26 fs_nil)) rfl rfl rfl) ?_
     refine ot rfl rfl (t_store 1 Tryz.sizeOf30 rfl rfl rfl rfl (by simp [Value.cells, boxP]) (by simp [Value.cells, Value.oneCell', boxP])) ?_
     rintro _ _ ⟨rfl, rfl⟩
     refine ops_turn (retell 1 (g := box b1 [.slice none 0 0, .int .i64 at_12, .int .i64 r19.E]) rfl rfl) ?_
     refine ops_nil ?_
     refine goes_code ?_
     refine run_ret ?_
     refine fin_turn (nilrow 3) ?_
     refine fin_turn (retell 3 (g := row (.slice none 0 0) 3 (([] : List S_api_Lexeme).map S_api_Lexeme.enc)) rfl rfl) ?_
     obtain rfl := some_eq h
     obtain rfl := hstop16 _ rfl
     skip
     obtain rfl := after_stop ho6
     refine fin_res [.cell 2 30] [.agg #[(.slice none 0 0), .int .i64 at_12, .int .i64 r19.E]] [3] [row (.slice none 0 0) 3 (([] : List S_api_Lexeme).map S_api_Lexeme.enc)] Tryz.results11 rfl (rescons (res_box 1 Tryz.isAgg30 Tryz.sizeOf30 rfl rfl rfl) resnil) (by decide) rfl ?_
     exact ⟨_, rfl, rfl⟩
    ·replace h := cond_f h hc22
     refine run_skip ?_
     refine goes_code ?_
     refine run_seq ?_
     refine run_region' ?_
     refine oy rfl rfl (y_move rfl) ?_
     refine oy rfl rfl (y_fieldAddr_box (sz := 2) Tryz.runUnderlying72 rfl Tryz.sizeOf44 rfl) ?_
     refine oy rfl rfl (y_load_boxagg (c := [.int .i64 r19.T.Kind, .int .i64 r19.T.At, .string (bs r19.T.S)]) 2 Tryz.isAgg44 Tryz.sizeOf44 rfl rfl rfl) ?_
     refine ot rfl rfl (t_lit [.agg #[.int .i64 r19.T.Kind, .int .i64 r19.T.At, .string (bs r19.T.S)]] Tryz.runUnderlying23 Tryz.sizeOf44 Tryz.zeroValue44 rfl (by decide) (by decide) rfl (by simp [Value.cells, boxP])) ?_
     rintro v23 _ ⟨rfl, _⟩
     refine ops_turn (retell 3 (g := row v23 3 (([r19.T] : List S_api_Lexeme).map S_api_Lexeme.enc)) rfl rfl) ?_
     obtain ⟨hr25, h⟩ := need_some h
     refine ot rfl rfl (t_append (es := 3) 0 rfl Tryz.runUnderlying23 rfl Tryz.runUnderlying23 (.inr ⟨_, rfl⟩) Tryz.typeInfo44 rfl (by decide) Tryz.zeroValue44 rfl rfl rfl rfl (src_reads 3 rfl reads_row (map_ok S_api_Lexeme.enc_ok _)) (map_room hr25 (by decide)) (map_fit hr25)) ?_
     rintro v24 _ rfl
     refine ops_turn (retell 0 (g := row v24 3 ((out_11 ++ ([r19.T] : List S_api_Lexeme)).map S_api_Lexeme.enc)) rfl (congrArg (row _ _) List.map_append.symm)) ?_
     refine oy rfl rfl (y_assign rfl) ?_
     refine ops_nil ?_
     refine goes_code ?_
     refine run_weak [(3, v24), (0, .string (bs s_0)), (2, boxP b1 0), (5, boxP b21 0)] [0, 1, 2] [row v24 3 ((out_11 ++ ([r19.T] : List S_api_Lexeme)).map S_api_Lexeme.enc), box b1 [.slice none 0 0, .int .i64 0, .int .i64 0], box b21 [.int .i64 r19.T.Kind, .int .i64 r19.T.At, .string (bs r19.T.S), .int .i64 r19.End, .int .i64 r19.E]] (qv4 rfl rfl rfl rfl) (by decide) rfl ?_
     refine run_region' ?_
     refine oy rfl rfl (y_move rfl) ?_
     refine oy rfl rfl (y_fieldAddr_box (sz := 0) Tryz.runUnderlying72 rfl Tryz.sizeOf3 rfl) ?_
     refine oy rfl rfl (y_load_box 2 Tryz.isAgg3 rfl rfl rfl) ?_
     obtain ⟨r26, hr27, h⟩ := obind_some h
     refine ot rfl rfl (t_callx (vs := [.string (bs s_0), .int .i64 r19.End]) (cs := []) [] rfl Tryz.call29 rfl (ref18_skip_ok n  s_0 r19.End  hr27) showsX_nil rfl (.inl rfl)) ?_
     rintro _ _ ⟨_, ⟨rfl, rfl⟩, rfl⟩
     refine oy rfl rfl (y_assign rfl) ?_
     refine ops_nil ?_
     refine goes_blk ?_
     obtain rfl := some_eq h
     exact goes_iter hgo15 ((out_11 ++ ([r19.T] : List S_api_Lexeme)), r26) v24 [0, 1] rfl (qv4 rfl rfl rfl rfl) (by decide) rfl
   ·replace h := cond_f h hc18
    refine run_exit _ rfl ?_
    obtain rfl := some_eq h
    obtain rfl := hstop16 _ rfl
    exact goes_cut hL7 (out_11, v13) [0, 1] (qv2 rfl rfl) (by decide) rfl rfl
  rintro ⟨out_3, v4⟩ hj
  obtain rfl : o5 = _ := hj
  replace h := after_go ho6
  clear ho6
  change Run _ _ _ (VF.of [(3, v4), (2, boxP b1 0)]) [row v4 3 (out_3.map S_api_Lexeme.enc), box b1 [.slice none 0 0, .int .i64 0, .int .i64 0]]
  refine run_seq ?_
  refine run_region' ?_
  refine oy rfl rfl (y_move rfl) ?_
  refine ops_slc 0 rfl reads_row (fun hs28 hs28o => ?_)
  refine oy rfl rfl (y_build_struct (cells := #[v4, .int .i64 0, .int .i64 0]) [(0, v4)] [(0, [v4])] Tryz.zeroValue30 Tryz.runUnderlying30 (fs_cons Tryz.sizeOf23 (fs_cons Tryz.sizeOf26 fs_nil)) rfl (by first | (simp only [List.map_cons, List.map_nil, hs28]; done) | (simp only [List.map_cons, List.map_nil, hs28]; rfl)) rfl) ?_
  refine ops_slc 0 rfl reads_row (fun hs29 hs29o => ?_)
  refine ot rfl rfl (t_store 1 Tryz.sizeOf30 rfl rfl rfl rfl (by simp [Value.cells, boxP]) (allL_cons hs29o (allL_cons rfl (allL_cons rfl (allL_nil))))) ?_
  rintro _ _ ⟨rfl, rfl⟩
  refine ops_turn (retell 1 (g := box b1 [v4, .int .i64 0, .int .i64 0]) rfl rfl) ?_
  refine ops_nil ?_
  refine goes_code ?_
  refine run_ret ?_
  obtain rfl := some_eq h
  refine fin_res [.cell 2 30] [.agg #[v4, .int .i64 0, .int .i64 0]] [0] [row v4 3 (out_3.map S_api_Lexeme.enc)] Tryz.results11 rfl (rescons (res_box 1 Tryz.isAgg30 Tryz.sizeOf30 rfl rfl rfl) resnil) (by decide) rfl ?_
  exact ⟨_, rfl, rfl⟩

end Go.Proofs.YtgibkdldfnlglaaGreatDoor
