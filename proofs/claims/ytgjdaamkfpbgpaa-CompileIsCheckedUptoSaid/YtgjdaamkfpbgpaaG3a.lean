/-
  Functions that the law CompileMakesAsSpecified needs, lifted.
-/
import Derived.Test.YtgjdaamkfpbgpaaG5a
namespace Go.Proofs.Ytgjdaamkfpbgpaa
open Go.Abs
set_option linter.unusedVariables false
set_option linter.unusedSimpArgs false
set_option maxRecDepth 20000
set_option maxHeartbeats 4000000

def ref20_SizeExpr_L1 (x_0 : S_api_TExpr) (most_1 : Int) (rec_ref20_SizeExpr : S_api_TExpr → Int → Option (Int)) : (Int × Int) → Option (Lp (Int × Int) (Lp (Int) (Int))) :=
 fun (n_7, k_8) =>
  cond (decide (k_8 < (x_0.Args.length : Int)) && decide (n_7 ≤ most_1))
   (idx x_0.Args k_8 fun x17 =>
   obind (rec_ref20_SizeExpr x17 most_1) fun r19 =>
   some (.go ((IntKind.i64.wrap (n_7 + r19)), (IntKind.i64.wrap (k_8 + 1)))))
   (some (.stop (.go n_7)))
def ref20_SizeExpr_body (n : Nat) (rec_ref20_SizeExpr : S_api_TExpr → Int → Option (Int)) (x_0 : S_api_TExpr) (most_1 : Int) : Option (Int) :=
 bindJ (S := Int)
  (iter (ref20_SizeExpr_L1 x_0 most_1 rec_ref20_SizeExpr) n (1, 0))
 (fun n_2 =>
  some n_2)
theorem ref20_SizeExpr_body_ok (n : Nat) (rec_ref20_SizeExpr : S_api_TExpr → Int → Option (Int)) (hrec_ref20_SizeExpr : ∀ (x_0 : S_api_TExpr) (most_1 : Int) (x_0_Argsv : Value) {r : Int}, rec_ref20_SizeExpr x_0 most_1 = some r → Meets Try.prog 16 [.agg #[.int .i64 x_0.Op, .int .i64 x_0.Type_, .int .i64 x_0.N, .int .i64 x_0.Slot, .string (bs x_0.S), x_0_Argsv], .int .i64 most_1] [nro x_0_Argsv NC_api_TExpr_48 x_0.Args] (fun v G => v = .int .i64 r ∧ G = [])) (x_0 : S_api_TExpr) (most_1 : Int) (x_0_Argsv : Value) {r : Int} (h : ref20_SizeExpr_body n rec_ref20_SizeExpr x_0 most_1 = some r) :
  Meets Try.prog 16 [.agg #[.int .i64 x_0.Op, .int .i64 x_0.Type_, .int .i64 x_0.N, .int .i64 x_0.Slot, .string (bs x_0.S), x_0_Argsv], .int .i64 most_1] [nro x_0_Argsv NC_api_TExpr_48 x_0.Args] (fun v G => v = .int .i64 r ∧ G = []) := by
 refine fn_of_run Try.func16 rfl Try.ntmps16 rfl (fun w0 o0 => ?_)
 refine run_seq ?_
 refine run_region' ?_
 refine ot rfl rfl (t_box rfl) ?_
 rintro _ _ ⟨b1, rfl, rfl⟩
 refine oy rfl rfl (y_assign rfl) ?_
 refine ops_nil ?_
 refine goes_code ?_
 refine run_seq ?_
 refine run_region' ?_
 refine oy rfl rfl (y_assign rfl) ?_
 refine ops_nil ?_
 refine goes_code ?_
 obtain ⟨o3, h, ho4⟩ := bindJ_some h
 refine run_cut ((Int) × (Unit)) (fun σ => [(5, .int .i64 σ.1)]) (fun σ => []) (fun σ => o3 = .go σ.1) (fun L6 hL5 => ?_) ?_
 ·
  refine run_seq ?_
  refine run_region' ?_
  refine oy rfl rfl (y_assign rfl) ?_
  refine ops_nil ?_
  refine goes_code ?_
  refine run_block ?_
  refine run_iter (step := ref20_SizeExpr_L1 x_0 most_1 rec_ref20_SizeExpr) (n := n) (s0 := (1, 0)) h (G := Unit) () (fun σ γ => [(5, .int .i64 σ.1), (6, .int .i64 σ.2), (1, .int .i64 most_1), (2, boxP b1 0)]) (fun σ γ => [box b1 [.int .i64 x_0.Op, .int .i64 x_0.Type_, .int .i64 x_0.N, .int .i64 x_0.Slot, .string (bs x_0.S), x_0_Argsv], nro x_0_Argsv NC_api_TExpr_48 x_0.Args]) [1, 0] (qv4 rfl rfl rfl rfl) (by decide) rfl ?_
  rintro ⟨n_7, k_8⟩ _ o9 h L12 hgo10 hstop11
  change Run _ _ _ (VF.of [(5, .int .i64 n_7), (6, .int .i64 k_8), (1, .int .i64 most_1), (2, boxP b1 0)]) [box b1 [.int .i64 x_0.Op, .int .i64 x_0.Type_, .int .i64 x_0.N, .int .i64 x_0.Slot, .string (bs x_0.S), x_0_Argsv], nro x_0_Argsv NC_api_TExpr_48 x_0.Args]
  refine run_seq ?_
  refine run_seq ?_
  refine run_region' ?_
  refine oy rfl rfl (y_move rfl) ?_
  refine oy rfl rfl (y_fieldAddr_box (sz := 0) Try.runUnderlying48 rfl Try.sizeOf46 rfl) ?_
  refine oy rfl rfl (y_load_box 0 Try.isAgg46 rfl rfl rfl) ?_
  refine oy rfl rfl (y_lenN 1 rfl Try.runUnderlying46 rfl rfl readsN_ro) ?_
  refine oy rfl rfl (y_lss rfl rfl) ?_
  refine oy rfl rfl (y_move rfl) ?_
  refine ops_cut 4 (Bool) (fun σ => [(5, .int .i64 n_7), (6, .int .i64 k_8), (1, .int .i64 most_1), (2, boxP b1 0), (16, .bool σ)]) (fun σ => [box b1 [.int .i64 x_0.Op, .int .i64 x_0.Type_, .int .i64 x_0.N, .int .i64 x_0.Slot, .string (bs x_0.S), x_0_Argsv], nro x_0_Argsv NC_api_TExpr_48 x_0.Args]) (fun σ => σ = (decide (k_8 < (x_0.Args.length : Int)) && decide (n_7 ≤ most_1))) (fun L13 hL14 => ?_) ?_
  ·refine ops_split 12 (decide (k_8 < (x_0.Args.length : Int))) rfl (fun hg15 => ?_) (fun hg15 => ?_)
   ·skip
    refine ops_y (wg 5 true 12 rfl rfl rfl rfl) rfl (y_move rfl) ?_
    refine ops_y (wg 5 true 12 rfl rfl rfl rfl) rfl (y_move rfl) ?_
    refine ops_y (wg 5 true 12 rfl rfl rfl rfl) rfl (y_leq rfl rfl) ?_
    refine oy rfl rfl (y_pick (b := true) rfl rfl) ?_
    refine ops_nil ?_
    exact goes_cut hL14 (decide (n_7 ≤ most_1)) [0, 1] (qv5 rfl rfl rfl rfl rfl) (by decide) rfl (by rw [hg15]; simp)
   ·skip
    refine ops_no 5 true 12 rfl rfl rfl rfl rfl ?_
    refine ops_no 5 true 12 rfl rfl rfl rfl rfl ?_
    refine ops_no 5 true 12 rfl rfl rfl rfl rfl ?_
    refine oy rfl rfl (y_pick (b := false) rfl rfl) ?_
    refine ops_nil ?_
    exact goes_cut hL14 false [0, 1] (qv5 rfl rfl rfl rfl rfl) (by decide) rfl (by rw [hg15]; simp)
  rintro _ rfl
  refine ops_nil ?_
  refine goes_code ?_
  refine run_cond (decide (k_8 < (x_0.Args.length : Int)) && decide (n_7 ≤ most_1)) rfl (fun hc16 => ?_) (fun hc16 => ?_)
  ·replace h := cond_t h hc16
   refine run_skip ?_
   refine goes_code ?_
   refine run_seq ?_
   refine run_block ?_
   refine run_region' ?_
   refine oy rfl rfl (y_move rfl) ?_
   refine oy rfl rfl (y_fieldAddr_box (sz := 0) Try.runUnderlying48 rfl Try.sizeOf46 rfl) ?_
   refine oy rfl rfl (y_load_box 0 Try.isAgg46 rfl rfl rfl) ?_
   refine oy rfl rfl (y_move rfl) ?_
   obtain ⟨x17, hzx17, hlx17, hxx17, h⟩ := idx_some h
   refine oy rfl rfl (y_indexAddrN (kd := .i64) (i := k_8) 1 Try.runUnderlying46 Try.sizeOf48 rfl rfl rfl readsN_ro hzx17 hlx17) ?_
   refine ops_ex (exAtT (T := T_api_TExpr_48) (i := k_8.toNat) 1 rfl hxx17) ?_
   rintro g18
   refine oy rfl rfl (y_load_atagg (n := k_8.toNat * 6) (j := 0) (c := [.int .i64 x17.Op, .int .i64 x17.Type_, .int .i64 x17.N, .int .i64 x17.Slot, .string (bs x17.S), g18]) 2 Try.isAgg48 Try.sizeOf48 rfl rfl rfl) ?_
   refine oy rfl rfl (y_move rfl) ?_
   obtain ⟨r19, hr20, h⟩ := obind_some h
   refine ot rfl rfl (t_callx (vs := [.agg #[.int .i64 x17.Op, .int .i64 x17.Type_, .int .i64 x17.N, .int .i64 x17.Slot, .string (bs x17.S), g18], .int .i64 most_1]) (cs := []) [(3, 0)] rfl Try.call16 rfl (hrec_ref20_SizeExpr  x17 most_1 g18 hr20) (showsX_view 3 rfl views_nro showsX_nil) rfl (.inl rfl)) ?_
   rintro _ _ ⟨_, ⟨rfl, rfl⟩, rfl⟩
   refine oy rfl rfl (y_add rfl rfl) ?_
   refine oy rfl rfl (y_assign rfl) ?_
   refine ops_nil ?_
   refine goes_blk ?_
   refine goes_code ?_
   refine run_weak [(5, .int .i64 (IntKind.i64.wrap (n_7 + r19))), (6, .int .i64 k_8), (1, .int .i64 most_1), (2, boxP b1 0)] [0, 1] [box b1 [.int .i64 x_0.Op, .int .i64 x_0.Type_, .int .i64 x_0.N, .int .i64 x_0.Slot, .string (bs x_0.S), x_0_Argsv], nro x_0_Argsv NC_api_TExpr_48 x_0.Args] (qv4 rfl rfl rfl rfl) (by decide) rfl ?_
   refine run_region' ?_
   refine oy rfl rfl (y_move rfl) ?_
   refine oy rfl rfl (y_add rfl rfl) ?_
   refine oy rfl rfl (y_assign rfl) ?_
   refine ops_nil ?_
   obtain rfl := some_eq h
   exact goes_iter hgo10 ((IntKind.i64.wrap (n_7 + r19)), (IntKind.i64.wrap (k_8 + 1))) () [0, 1] rfl (qv4 rfl rfl rfl rfl) (by decide) rfl
  ·replace h := cond_f h hc16
   refine run_exit _ rfl ?_
   obtain rfl := some_eq h
   obtain rfl := hstop11 _ rfl
   exact goes_cut hL5 (n_7, ()) [] (qv1 rfl) (by decide) rfl rfl
 rintro ⟨n_2, _⟩ hj
 obtain rfl : o3 = _ := hj
 replace h := after_go ho4
 clear ho4
 change Run _ _ _ (VF.of [(5, .int .i64 n_2)]) []
 refine run_seq ?_
 refine run_region' ?_
 refine oy rfl rfl (y_move rfl) ?_
 refine oy rfl rfl (y_assign rfl) ?_
 refine ops_nil ?_
 refine goes_code ?_
 refine run_ret ?_
 obtain rfl := some_eq h
 refine fin_slots [4] [.int .i64 n_2] [] [] Try.results16 rfl (by decide) rfl ?_
 exact ⟨rfl, rfl⟩
def ref20_SizeExpr : Nat → S_api_TExpr → Int → Option (Int)
 | 0 => fun _ _ => none
 | n + 1 => ref20_SizeExpr_body n  (ref20_SizeExpr n )
theorem ref20_SizeExpr_ok (n : Nat)  : ∀ (x_0 : S_api_TExpr) (most_1 : Int) (x_0_Argsv : Value) {r : Int}, ref20_SizeExpr n  x_0 most_1 = some r → Meets Try.prog 16 [.agg #[.int .i64 x_0.Op, .int .i64 x_0.Type_, .int .i64 x_0.N, .int .i64 x_0.Slot, .string (bs x_0.S), x_0_Argsv], .int .i64 most_1] [nro x_0_Argsv NC_api_TExpr_48 x_0.Args] (fun v G => v = .int .i64 r ∧ G = []) := by
 induction n with
 | zero => intro x_0 most_1 x_0_Argsv r h; cases h
 | succ n ih => intro x_0 most_1 x_0_Argsv r h; exact ref20_SizeExpr_body_ok n   (ref20_SizeExpr n ) (fun x_0 most_1 x_0_Argsv r h => ih x_0 most_1 x_0_Argsv h) x_0 most_1 x_0_Argsv h

def ref20_Size_L1 (n : Nat) (l_0 : (List S_api_TStmt)) (most_1 : Int) (rec_ref20_Size : (List S_api_TStmt) → Int → Option (Int)) : (Int × Int) → Option (Lp (Int × Int) (Lp (Int) (Int))) :=
 fun (n_6, k_7) =>
  cond (decide (k_7 < (l_0.length : Int)) && decide (n_6 ≤ most_1))
   (idx l_0 k_7 fun x16 =>
   obind (ref20_SizeExpr n x16.X most_1) fun r20 =>
   obind (rec_ref20_Size x16.Body most_1) fun r22 =>
   obind (rec_ref20_Size x16.Else most_1) fun r24 =>
   some (.go ((IntKind.i64.wrap ((IntKind.i64.wrap ((IntKind.i64.wrap ((IntKind.i64.wrap (n_6 + 1)) + r20)) + r22)) + r24)), (IntKind.i64.wrap (k_7 + 1)))))
   (some (.stop (.go n_6)))
def ref20_Size_body (n : Nat) (rec_ref20_Size : (List S_api_TStmt) → Int → Option (Int)) (l_0 : (List S_api_TStmt)) (most_1 : Int) : Option (Int) :=
 bindJ (S := Int)
  (iter (ref20_Size_L1 n l_0 most_1 rec_ref20_Size) n (0, 0))
 (fun n_1 =>
  some n_1)
theorem ref20_Size_body_ok (n : Nat) (rec_ref20_Size : (List S_api_TStmt) → Int → Option (Int)) (hrec_ref20_Size : ∀ (l_0 : (List S_api_TStmt)) (most_1 : Int) (l_0v : Value) {r : Int}, rec_ref20_Size l_0 most_1 = some r → Meets Try.prog 6 [l_0v, .int .i64 most_1] [nro l_0v NC_api_TStmt_50 l_0] (fun v G => v = .int .i64 r ∧ G = [])) (l_0 : (List S_api_TStmt)) (most_1 : Int) (l_0v : Value) {r : Int} (h : ref20_Size_body n rec_ref20_Size l_0 most_1 = some r) :
  Meets Try.prog 6 [l_0v, .int .i64 most_1] [nro l_0v NC_api_TStmt_50 l_0] (fun v G => v = .int .i64 r ∧ G = []) := by
 refine fn_of_run Try.func6 rfl Try.ntmps6 rfl (fun w0 o0 => ?_)
 refine run_seq ?_
 refine run_region' ?_
 refine oy rfl rfl (y_assign rfl) ?_
 refine ops_nil ?_
 refine goes_code ?_
 refine run_seq ?_
 refine run_region' ?_
 refine oy rfl rfl (y_assign rfl) ?_
 refine ops_nil ?_
 refine goes_code ?_
 obtain ⟨o2, h, ho3⟩ := bindJ_some h
 refine run_cut ((Int) × (Unit)) (fun σ => [(5, .int .i64 σ.1)]) (fun σ => []) (fun σ => o2 = .go σ.1) (fun L5 hL4 => ?_) ?_
 ·
  refine run_seq ?_
  refine run_region' ?_
  refine oy rfl rfl (y_assign rfl) ?_
  refine ops_nil ?_
  refine goes_code ?_
  refine run_block ?_
  refine run_iter (step := ref20_Size_L1 n l_0 most_1 rec_ref20_Size) (n := n) (s0 := (0, 0)) h (G := Unit) () (fun σ γ => [(5, .int .i64 σ.1), (6, .int .i64 σ.2), (0, l_0v), (1, .int .i64 most_1)]) (fun σ γ => [nro l_0v NC_api_TStmt_50 l_0]) [0] (qv4 rfl rfl rfl rfl) (by decide) rfl ?_
  rintro ⟨n_6, k_7⟩ _ o8 h L11 hgo9 hstop10
  change Run _ _ _ (VF.of [(5, .int .i64 n_6), (6, .int .i64 k_7), (0, l_0v), (1, .int .i64 most_1)]) [nro l_0v NC_api_TStmt_50 l_0]
  refine run_seq ?_
  refine run_seq ?_
  refine run_region' ?_
  refine oy rfl rfl (y_move rfl) ?_
  refine oy rfl rfl (y_move rfl) ?_
  refine oy rfl rfl (y_lenN 0 rfl Try.runUnderlying23 rfl rfl readsN_ro) ?_
  refine oy rfl rfl (y_lss rfl rfl) ?_
  refine oy rfl rfl (y_move rfl) ?_
  refine ops_cut 4 (Bool) (fun σ => [(5, .int .i64 n_6), (6, .int .i64 k_7), (0, l_0v), (1, .int .i64 most_1), (15, .bool σ)]) (fun σ => [nro l_0v NC_api_TStmt_50 l_0]) (fun σ => σ = (decide (k_7 < (l_0.length : Int)) && decide (n_6 ≤ most_1))) (fun L12 hL13 => ?_) ?_
  ·refine ops_split 11 (decide (k_7 < (l_0.length : Int))) rfl (fun hg14 => ?_) (fun hg14 => ?_)
   ·skip
    refine ops_y (wg 4 true 11 rfl rfl rfl rfl) rfl (y_move rfl) ?_
    refine ops_y (wg 4 true 11 rfl rfl rfl rfl) rfl (y_move rfl) ?_
    refine ops_y (wg 4 true 11 rfl rfl rfl rfl) rfl (y_leq rfl rfl) ?_
    refine oy rfl rfl (y_pick (b := true) rfl rfl) ?_
    refine ops_nil ?_
    exact goes_cut hL13 (decide (n_6 ≤ most_1)) [0] (qv5 rfl rfl rfl rfl rfl) (by decide) rfl (by rw [hg14]; simp)
   ·skip
    refine ops_no 4 true 11 rfl rfl rfl rfl rfl ?_
    refine ops_no 4 true 11 rfl rfl rfl rfl rfl ?_
    refine ops_no 4 true 11 rfl rfl rfl rfl rfl ?_
    refine oy rfl rfl (y_pick (b := false) rfl rfl) ?_
    refine ops_nil ?_
    exact goes_cut hL13 false [0] (qv5 rfl rfl rfl rfl rfl) (by decide) rfl (by rw [hg14]; simp)
  rintro _ rfl
  refine ops_nil ?_
  refine goes_code ?_
  refine run_cond (decide (k_7 < (l_0.length : Int)) && decide (n_6 ≤ most_1)) rfl (fun hc15 => ?_) (fun hc15 => ?_)
  ·replace h := cond_t h hc15
   refine run_skip ?_
   refine goes_code ?_
   refine run_seq ?_
   refine run_block ?_
   refine run_drawany [nro l_0v NC_api_TStmt_50 l_0] (by kernel_rfl) ?_
   refine any_y 0 rfl (by kernel_rfl) (by kernel_rfl) (by kernel_rfl) (ss (sn)) (wn rfl) rfl (y_move rfl) ?_
   refine any_y 1 rfl (by kernel_rfl) (by kernel_rfl) (by kernel_rfl) (ss (sn)) (wn rfl) rfl (y_add rfl rfl) ?_
   refine any_y 2 rfl (by kernel_rfl) (by kernel_rfl) (by kernel_rfl) (ss (sn)) (wn rfl) rfl (y_move rfl) ?_
   refine any_y 3 rfl (by kernel_rfl) (by kernel_rfl) (by kernel_rfl) (ss (sn)) (wn rfl) rfl (y_move rfl) ?_
   obtain ⟨x16, hzx16, hlx16, hxx16, h⟩ := idx_some h
   refine any_y 4 rfl (by kernel_rfl) (by kernel_rfl) (by kernel_rfl) (ss (sn)) (wn rfl) rfl (y_indexAddrN (kd := .i64) (i := k_7) 0 Try.runUnderlying23 Try.sizeOf50 rfl rfl rfl readsN_ro hzx16 hlx16) ?_
   refine any_ex (exAtT (T := T_api_TStmt_50) (i := k_7.toNat) 0 rfl hxx16) ?_
   rintro ⟨g17, g18, g19⟩
   refine any_grow [nro l_0v NC_api_TStmt_50 l_0, atc l_0v (k_7.toNat * 12) [.int .i64 x16.Kind, .int .i64 x16.Slot, .int .i64 x16.N, .string (bs x16.Name), .int .i64 x16.X.Op, .int .i64 x16.X.Type_, .int .i64 x16.X.N, .int .i64 x16.X.Slot, .string (bs x16.X.S), g17, g18, g19]] (ss (sn)) ?_
   refine any_grow [nro l_0v NC_api_TStmt_50 l_0, atc l_0v (k_7.toNat * 12) [.int .i64 x16.Kind, .int .i64 x16.Slot, .int .i64 x16.N, .string (bs x16.Name), .int .i64 x16.X.Op, .int .i64 x16.X.Type_, .int .i64 x16.X.N, .int .i64 x16.X.Slot, .string (bs x16.X.S), g17, g18, g19], nro g17 NC_api_TExpr_48 x16.X.Args] (ss (ss (sn))) ?_
   refine any_grow [nro l_0v NC_api_TStmt_50 l_0, atc l_0v (k_7.toNat * 12) [.int .i64 x16.Kind, .int .i64 x16.Slot, .int .i64 x16.N, .string (bs x16.Name), .int .i64 x16.X.Op, .int .i64 x16.X.Type_, .int .i64 x16.X.N, .int .i64 x16.X.Slot, .string (bs x16.X.S), g17, g18, g19], nro g17 NC_api_TExpr_48 x16.X.Args, nro g18 NC_api_TStmt_50 x16.Body] (ss (ss (ss (sn)))) ?_
   refine any_grow [nro l_0v NC_api_TStmt_50 l_0, atc l_0v (k_7.toNat * 12) [.int .i64 x16.Kind, .int .i64 x16.Slot, .int .i64 x16.N, .string (bs x16.Name), .int .i64 x16.X.Op, .int .i64 x16.X.Type_, .int .i64 x16.X.N, .int .i64 x16.X.Slot, .string (bs x16.X.S), g17, g18, g19], nro g17 NC_api_TExpr_48 x16.X.Args, nro g18 NC_api_TStmt_50 x16.Body, nro g19 NC_api_TStmt_50 x16.Else] (ss (ss (ss (ss (sn))))) ?_
   refine any_y 5 rfl (by kernel_rfl) (by kernel_rfl) (by kernel_rfl) (ss (ss (ss (ss (ss (sn)))))) (wn rfl) rfl (y_fieldAddr_elem (sz := 5) Try.runUnderlying50 rfl Try.sizeOf48 rfl) ?_
   refine any_y 6 rfl (by kernel_rfl) (by kernel_rfl) (by kernel_rfl) (ss (ss (ss (ss (ss (sn)))))) (wn rfl) rfl (y_load_atagg (n := k_7.toNat * 12) (j := 4) (c := [.int .i64 x16.X.Op, .int .i64 x16.X.Type_, .int .i64 x16.X.N, .int .i64 x16.X.Slot, .string (bs x16.X.S), g17]) 1 Try.isAgg48 Try.sizeOf48 rfl rfl rfl) ?_
   refine any_y 7 rfl (by kernel_rfl) (by kernel_rfl) (by kernel_rfl) (ss (ss (ss (ss (ss (sn)))))) (wn rfl) rfl (y_move rfl) ?_
   refine any_y 10 rfl (by kernel_rfl) (by kernel_rfl) (by kernel_rfl) (ss (ss (ss (ss (ss (sn)))))) (wn rfl) rfl (y_move rfl) ?_
   refine any_y 11 rfl (by kernel_rfl) (by kernel_rfl) (by kernel_rfl) (ss (ss (ss (ss (ss (sn)))))) (wn rfl) rfl (y_move rfl) ?_
   refine any_y 12 rfl (by kernel_rfl) (by kernel_rfl) (by kernel_rfl) (ss (ss (ss (ss (ss (sn)))))) (wn rfl) rfl (y_indexAddrN (kd := .i64) (i := k_7) 0 Try.runUnderlying23 Try.sizeOf50 rfl rfl rfl readsN_ro hzx16 hlx16) ?_
   refine any_y 13 rfl (by kernel_rfl) (by kernel_rfl) (by kernel_rfl) (ss (ss (ss (ss (ss (sn)))))) (wn rfl) rfl (y_fieldAddr_elem (sz := 0) Try.runUnderlying50 rfl Try.sizeOf23 rfl) ?_
   refine any_y 14 rfl (by kernel_rfl) (by kernel_rfl) (by kernel_rfl) (ss (ss (ss (ss (ss (sn)))))) (wn rfl) rfl (y_load_at (n := k_7.toNat * 12) (j := 10) 1 Try.isAgg23 rfl rfl rfl) ?_
   refine any_y 15 rfl (by kernel_rfl) (by kernel_rfl) (by kernel_rfl) (ss (ss (ss (ss (ss (sn)))))) (wn rfl) rfl (y_move rfl) ?_
   refine any_y 18 rfl (by kernel_rfl) (by kernel_rfl) (by kernel_rfl) (ss (ss (ss (ss (ss (sn)))))) (wn rfl) rfl (y_move rfl) ?_
   refine any_y 19 rfl (by kernel_rfl) (by kernel_rfl) (by kernel_rfl) (ss (ss (ss (ss (ss (sn)))))) (wn rfl) rfl (y_move rfl) ?_
   refine any_y 20 rfl (by kernel_rfl) (by kernel_rfl) (by kernel_rfl) (ss (ss (ss (ss (ss (sn)))))) (wn rfl) rfl (y_indexAddrN (kd := .i64) (i := k_7) 0 Try.runUnderlying23 Try.sizeOf50 rfl rfl rfl readsN_ro hzx16 hlx16) ?_
   refine any_y 21 rfl (by kernel_rfl) (by kernel_rfl) (by kernel_rfl) (ss (ss (ss (ss (ss (sn)))))) (wn rfl) rfl (y_fieldAddr_elem (sz := 0) Try.runUnderlying50 rfl Try.sizeOf23 rfl) ?_
   refine any_y 22 rfl (by kernel_rfl) (by kernel_rfl) (by kernel_rfl) (ss (ss (ss (ss (ss (sn)))))) (wn rfl) rfl (y_load_at (n := k_7.toNat * 12) (j := 11) 1 Try.isAgg23 rfl rfl rfl) ?_
   refine any_y 23 rfl (by kernel_rfl) (by kernel_rfl) (by kernel_rfl) (ss (ss (ss (ss (ss (sn)))))) (wn rfl) rfl (y_move rfl) ?_
   refine any_all [8] (by kernel_rfl) rfl (anyo_cons ?_ anyo_nil)
   obtain ⟨r20, hr21, h⟩ := obind_some h
   refine any_t rfl (wn rfl) rfl (t_callx (vs := [.agg #[.int .i64 x16.X.Op, .int .i64 x16.X.Type_, .int .i64 x16.X.N, .int .i64 x16.X.Slot, .string (bs x16.X.S), g17], .int .i64 most_1]) (cs := []) [(2, 0)] rfl Try.call16 rfl (ref20_SizeExpr_ok n  x16.X most_1 g17 hr21) (showsX_view 2 rfl views_nro showsX_nil) rfl (.inl rfl)) ?_
   rintro _ _ ⟨_, ⟨rfl, rfl⟩, rfl⟩
   refine ⟨(ss (ss (ss (ss (ss (sn)))))), ?_⟩
   refine any_y 9 rfl (by kernel_rfl) (by kernel_rfl) (by kernel_rfl) (ss (ss (ss (ss (ss (sn)))))) (wn rfl) rfl (y_add rfl rfl) ?_
   refine any_all [16] (by kernel_rfl) rfl (anyo_cons ?_ anyo_nil)
   obtain ⟨r22, hr23, h⟩ := obind_some h
   refine any_t rfl (wn rfl) rfl (t_callx (vs := [g18, .int .i64 most_1]) (cs := []) [(3, 0)] rfl Try.call6 rfl (hrec_ref20_Size  x16.Body most_1 g18 hr23) (showsX_view 3 rfl views_nro showsX_nil) rfl (.inl rfl)) ?_
   rintro _ _ ⟨_, ⟨rfl, rfl⟩, rfl⟩
   refine ⟨(ss (ss (ss (ss (ss (sn)))))), ?_⟩
   refine any_y 17 rfl (by kernel_rfl) (by kernel_rfl) (by kernel_rfl) (ss (ss (ss (ss (ss (sn)))))) (wn rfl) rfl (y_add rfl rfl) ?_
   refine any_all [24] (by kernel_rfl) rfl (anyo_cons ?_ anyo_nil)
   obtain ⟨r24, hr25, h⟩ := obind_some h
   refine any_t rfl (wn rfl) rfl (t_callx (vs := [g19, .int .i64 most_1]) (cs := []) [(4, 0)] rfl Try.call6 rfl (hrec_ref20_Size  x16.Else most_1 g19 hr25) (showsX_view 4 rfl views_nro showsX_nil) rfl (.inl rfl)) ?_
   rintro _ _ ⟨_, ⟨rfl, rfl⟩, rfl⟩
   refine ⟨(ss (ss (ss (ss (ss (sn)))))), ?_⟩
   refine any_y 25 rfl (by kernel_rfl) (by kernel_rfl) (by kernel_rfl) (ss (ss (ss (ss (ss (sn)))))) (wn rfl) rfl (y_add rfl rfl) ?_
   refine any_y 26 rfl (by kernel_rfl) (by kernel_rfl) (by kernel_rfl) (ss (ss (ss (ss (ss (sn)))))) (wn rfl) rfl (y_assign rfl) ?_
   refine any_nil (by kernel_rfl) ?_
   refine goes_blk ?_
   refine goes_code ?_
   refine run_weak [(5, .int .i64 (IntKind.i64.wrap ((IntKind.i64.wrap ((IntKind.i64.wrap ((IntKind.i64.wrap (n_6 + 1)) + r20)) + r22)) + r24))), (6, .int .i64 k_7), (0, l_0v), (1, .int .i64 most_1)] [0] [nro l_0v NC_api_TStmt_50 l_0] (qv4 rfl rfl rfl rfl) (by decide) rfl ?_
   refine run_region' ?_
   refine oy rfl rfl (y_move rfl) ?_
   refine oy rfl rfl (y_add rfl rfl) ?_
   refine oy rfl rfl (y_assign rfl) ?_
   refine ops_nil ?_
   obtain rfl := some_eq h
   exact goes_iter hgo9 ((IntKind.i64.wrap ((IntKind.i64.wrap ((IntKind.i64.wrap ((IntKind.i64.wrap (n_6 + 1)) + r20)) + r22)) + r24)), (IntKind.i64.wrap (k_7 + 1))) () [0] rfl (qv4 rfl rfl rfl rfl) (by decide) rfl
  ·replace h := cond_f h hc15
   refine run_exit _ rfl ?_
   obtain rfl := some_eq h
   obtain rfl := hstop10 _ rfl
   exact goes_cut hL4 (n_6, ()) [] (qv1 rfl) (by decide) rfl rfl
 rintro ⟨n_1, _⟩ hj
 obtain rfl : o2 = _ := hj
 replace h := after_go ho3
 clear ho3
 change Run _ _ _ (VF.of [(5, .int .i64 n_1)]) []
 refine run_seq ?_
 refine run_region' ?_
 refine oy rfl rfl (y_move rfl) ?_
 refine oy rfl rfl (y_assign rfl) ?_
 refine ops_nil ?_
 refine goes_code ?_
 refine run_ret ?_
 obtain rfl := some_eq h
 refine fin_slots [4] [.int .i64 n_1] [] [] Try.results6 rfl (by decide) rfl ?_
 exact ⟨rfl, rfl⟩
def ref20_Size : Nat → (List S_api_TStmt) → Int → Option (Int)
 | 0 => fun _ _ => none
 | n + 1 => ref20_Size_body n  (ref20_Size n )
theorem ref20_Size_ok (n : Nat)  : ∀ (l_0 : (List S_api_TStmt)) (most_1 : Int) (l_0v : Value) {r : Int}, ref20_Size n  l_0 most_1 = some r → Meets Try.prog 6 [l_0v, .int .i64 most_1] [nro l_0v NC_api_TStmt_50 l_0] (fun v G => v = .int .i64 r ∧ G = []) := by
 induction n with
 | zero => intro l_0 most_1 l_0v r h; cases h
 | succ n ih => intro l_0 most_1 l_0v r h; exact ref20_Size_body_ok n   (ref20_Size n ) (fun l_0 most_1 l_0v r h => ih l_0 most_1 l_0v h) l_0 most_1 l_0v h

def ref20_zero (x_0 : S_api_TExpr) : Option (Bool) :=
 some (((((decide (x_0.Op = 0) && decide (x_0.Type_ = 0)) && decide (x_0.N = 0)) && decide (x_0.Slot = 0)) && decide ((x_0.S.length : Int) = 0)) && decide ((x_0.Args.length : Int) = 0))
theorem ref20_zero_ok (x_0 : S_api_TExpr) (x_0_Argsv : Value) {r : Bool} (h : ref20_zero x_0 = some r) :
  Meets Try.prog 33 [.agg #[.int .i64 x_0.Op, .int .i64 x_0.Type_, .int .i64 x_0.N, .int .i64 x_0.Slot, .string (bs x_0.S), x_0_Argsv]] [nro x_0_Argsv NC_api_TExpr_48 x_0.Args] (fun v G => v = .bool r ∧ G = []) := by
 refine fn_of_run Try.func33 rfl Try.ntmps33 rfl (fun w0 o0 => ?_)
 refine run_seq ?_
 refine run_region' ?_
 refine ot rfl rfl (t_box rfl) ?_
 rintro _ _ ⟨b1, rfl, rfl⟩
 refine oy rfl rfl (y_assign rfl) ?_
 refine ops_nil ?_
 refine goes_code ?_
 refine run_seq ?_
 refine run_region' ?_
 refine oy rfl rfl (y_fieldAddr_box (sz := 0) Try.runUnderlying48 rfl Try.sizeOf3 rfl) ?_
 refine oy rfl rfl (y_load_box 1 Try.isAgg3 rfl rfl rfl) ?_
 refine oy rfl rfl (y_eql rfl rfl) ?_
 refine oy rfl rfl (y_move rfl) ?_
 refine ops_cut 4 (Bool) (fun σ => [(1, boxP b1 0), (10, .bool σ)]) (fun σ => [nro x_0_Argsv NC_api_TExpr_48 x_0.Args, box b1 [.int .i64 x_0.Op, .int .i64 x_0.Type_, .int .i64 x_0.N, .int .i64 x_0.Slot, .string (bs x_0.S), x_0_Argsv]]) (fun σ => σ = (decide (x_0.Op = 0) && decide (x_0.Type_ = 0))) (fun L2 hL3 => ?_) ?_
 ·refine ops_split 6 (decide (x_0.Op = 0)) rfl (fun hg4 => ?_) (fun hg4 => ?_)
  ·skip
   refine ops_y (wg 3 true 6 rfl rfl rfl rfl) rfl (y_fieldAddr_box (sz := 0) Try.runUnderlying48 rfl Try.sizeOf3 rfl) ?_
   refine ops_y (wg 3 true 6 rfl rfl rfl rfl) rfl (y_load_box 1 Try.isAgg3 rfl rfl rfl) ?_
   refine ops_y (wg 3 true 6 rfl rfl rfl rfl) rfl (y_eql rfl rfl) ?_
   refine oy rfl rfl (y_pick (b := true) rfl rfl) ?_
   refine ops_nil ?_
   exact goes_cut hL3 (decide (x_0.Type_ = 0)) [0, 1] (qv2 rfl rfl) (by decide) rfl (by rw [hg4]; simp)
  ·skip
   refine ops_no 3 true 6 rfl rfl rfl rfl rfl ?_
   refine ops_no 3 true 6 rfl rfl rfl rfl rfl ?_
   refine ops_no 3 true 6 rfl rfl rfl rfl rfl ?_
   refine oy rfl rfl (y_pick (b := false) rfl rfl) ?_
   refine ops_nil ?_
   exact goes_cut hL3 false [0, 1] (qv2 rfl rfl) (by decide) rfl (by rw [hg4]; simp)
 rintro _ rfl
 refine oy rfl rfl (y_move rfl) ?_
 refine ops_cut 4 (Bool) (fun σ => [(1, boxP b1 0), (15, .bool σ)]) (fun σ => [nro x_0_Argsv NC_api_TExpr_48 x_0.Args, box b1 [.int .i64 x_0.Op, .int .i64 x_0.Type_, .int .i64 x_0.N, .int .i64 x_0.Slot, .string (bs x_0.S), x_0_Argsv]]) (fun σ => σ = ((decide (x_0.Op = 0) && decide (x_0.Type_ = 0)) && decide (x_0.N = 0))) (fun L5 hL6 => ?_) ?_
 ·refine ops_split 11 (decide (x_0.Op = 0) && decide (x_0.Type_ = 0)) rfl (fun hg7 => ?_) (fun hg7 => ?_)
  ·skip
   refine ops_y (wg 8 true 11 rfl rfl rfl rfl) rfl (y_fieldAddr_box (sz := 0) Try.runUnderlying48 rfl Try.sizeOf3 rfl) ?_
   refine ops_y (wg 8 true 11 rfl rfl rfl rfl) rfl (y_load_box 1 Try.isAgg3 rfl rfl rfl) ?_
   refine ops_y (wg 8 true 11 rfl rfl rfl rfl) rfl (y_eql rfl rfl) ?_
   refine oy rfl rfl (y_pick (b := true) rfl rfl) ?_
   refine ops_nil ?_
   exact goes_cut hL6 (decide (x_0.N = 0)) [0, 1] (qv2 rfl rfl) (by decide) rfl (by rw [hg7]; simp)
  ·skip
   refine ops_no 8 true 11 rfl rfl rfl rfl rfl ?_
   refine ops_no 8 true 11 rfl rfl rfl rfl rfl ?_
   refine ops_no 8 true 11 rfl rfl rfl rfl rfl ?_
   refine oy rfl rfl (y_pick (b := false) rfl rfl) ?_
   refine ops_nil ?_
   exact goes_cut hL6 false [0, 1] (qv2 rfl rfl) (by decide) rfl (by rw [hg7]; simp)
 rintro _ rfl
 refine oy rfl rfl (y_move rfl) ?_
 refine ops_cut 4 (Bool) (fun σ => [(1, boxP b1 0), (20, .bool σ)]) (fun σ => [nro x_0_Argsv NC_api_TExpr_48 x_0.Args, box b1 [.int .i64 x_0.Op, .int .i64 x_0.Type_, .int .i64 x_0.N, .int .i64 x_0.Slot, .string (bs x_0.S), x_0_Argsv]]) (fun σ => σ = (((decide (x_0.Op = 0) && decide (x_0.Type_ = 0)) && decide (x_0.N = 0)) && decide (x_0.Slot = 0))) (fun L8 hL9 => ?_) ?_
 ·refine ops_split 16 ((decide (x_0.Op = 0) && decide (x_0.Type_ = 0)) && decide (x_0.N = 0)) rfl (fun hg10 => ?_) (fun hg10 => ?_)
  ·skip
   refine ops_y (wg 13 true 16 rfl rfl rfl rfl) rfl (y_fieldAddr_box (sz := 0) Try.runUnderlying48 rfl Try.sizeOf3 rfl) ?_
   refine ops_y (wg 13 true 16 rfl rfl rfl rfl) rfl (y_load_box 1 Try.isAgg3 rfl rfl rfl) ?_
   refine ops_y (wg 13 true 16 rfl rfl rfl rfl) rfl (y_eql rfl rfl) ?_
   refine oy rfl rfl (y_pick (b := true) rfl rfl) ?_
   refine ops_nil ?_
   exact goes_cut hL9 (decide (x_0.Slot = 0)) [0, 1] (qv2 rfl rfl) (by decide) rfl (by rw [hg10]; simp)
  ·skip
   refine ops_no 13 true 16 rfl rfl rfl rfl rfl ?_
   refine ops_no 13 true 16 rfl rfl rfl rfl rfl ?_
   refine ops_no 13 true 16 rfl rfl rfl rfl rfl ?_
   refine oy rfl rfl (y_pick (b := false) rfl rfl) ?_
   refine ops_nil ?_
   exact goes_cut hL9 false [0, 1] (qv2 rfl rfl) (by decide) rfl (by rw [hg10]; simp)
 rintro _ rfl
 refine oy rfl rfl (y_move rfl) ?_
 refine ops_cut 5 (Bool) (fun σ => [(1, boxP b1 0), (26, .bool σ)]) (fun σ => [nro x_0_Argsv NC_api_TExpr_48 x_0.Args, box b1 [.int .i64 x_0.Op, .int .i64 x_0.Type_, .int .i64 x_0.N, .int .i64 x_0.Slot, .string (bs x_0.S), x_0_Argsv]]) (fun σ => σ = ((((decide (x_0.Op = 0) && decide (x_0.Type_ = 0)) && decide (x_0.N = 0)) && decide (x_0.Slot = 0)) && decide ((x_0.S.length : Int) = 0))) (fun L11 hL12 => ?_) ?_
 ·refine ops_split 21 (((decide (x_0.Op = 0) && decide (x_0.Type_ = 0)) && decide (x_0.N = 0)) && decide (x_0.Slot = 0)) rfl (fun hg13 => ?_) (fun hg13 => ?_)
  ·skip
   refine ops_y (wg 18 true 21 rfl rfl rfl rfl) rfl (y_fieldAddr_box (sz := 0) Try.runUnderlying48 rfl Try.sizeOf9 rfl) ?_
   refine ops_y (wg 18 true 21 rfl rfl rfl rfl) rfl (y_load_box 1 Try.isAgg9 rfl rfl rfl) ?_
   refine ops_y (wg 18 true 21 rfl rfl rfl rfl) rfl (y_len_str rfl Try.runUnderlying9 rfl) ?_
   refine ops_y (wg 18 true 21 rfl rfl rfl rfl) rfl (y_eql rfl rfl) ?_
   refine oy rfl rfl (y_pick (b := true) rfl rfl) ?_
   refine ops_nil ?_
   exact goes_cut hL12 (decide ((x_0.S.length : Int) = 0)) [0, 1] (qv2 rfl rfl) (by decide) rfl (by rw [hg13]; simp)
  ·skip
   refine ops_no 18 true 21 rfl rfl rfl rfl rfl ?_
   refine ops_no 18 true 21 rfl rfl rfl rfl rfl ?_
   refine ops_no 18 true 21 rfl rfl rfl rfl rfl ?_
   refine ops_no 18 true 21 rfl rfl rfl rfl rfl ?_
   refine oy rfl rfl (y_pick (b := false) rfl rfl) ?_
   refine ops_nil ?_
   exact goes_cut hL12 false [0, 1] (qv2 rfl rfl) (by decide) rfl (by rw [hg13]; simp)
 rintro _ rfl
 refine oy rfl rfl (y_move rfl) ?_
 refine ops_cut 5 (Bool) (fun σ => [(32, .bool σ)]) (fun σ => []) (fun σ => σ = (((((decide (x_0.Op = 0) && decide (x_0.Type_ = 0)) && decide (x_0.N = 0)) && decide (x_0.Slot = 0)) && decide ((x_0.S.length : Int) = 0)) && decide ((x_0.Args.length : Int) = 0))) (fun L14 hL15 => ?_) ?_
 ·refine ops_split 27 ((((decide (x_0.Op = 0) && decide (x_0.Type_ = 0)) && decide (x_0.N = 0)) && decide (x_0.Slot = 0)) && decide ((x_0.S.length : Int) = 0)) rfl (fun hg16 => ?_) (fun hg16 => ?_)
  ·skip
   refine ops_y (wg 24 true 27 rfl rfl rfl rfl) rfl (y_fieldAddr_box (sz := 0) Try.runUnderlying48 rfl Try.sizeOf46 rfl) ?_
   refine ops_y (wg 24 true 27 rfl rfl rfl rfl) rfl (y_load_box 1 Try.isAgg46 rfl rfl rfl) ?_
   refine ops_y (wg 24 true 27 rfl rfl rfl rfl) rfl (y_lenN 0 rfl Try.runUnderlying46 rfl rfl readsN_ro) ?_
   refine ops_y (wg 24 true 27 rfl rfl rfl rfl) rfl (y_eql rfl rfl) ?_
   refine oy rfl rfl (y_pick (b := true) rfl rfl) ?_
   refine ops_nil ?_
   exact goes_cut hL15 (decide ((x_0.Args.length : Int) = 0)) [] (qv1 rfl) (by decide) rfl (by rw [hg16]; simp)
  ·skip
   refine ops_no 24 true 27 rfl rfl rfl rfl rfl ?_
   refine ops_no 24 true 27 rfl rfl rfl rfl rfl ?_
   refine ops_no 24 true 27 rfl rfl rfl rfl rfl ?_
   refine ops_no 24 true 27 rfl rfl rfl rfl rfl ?_
   refine oy rfl rfl (y_pick (b := false) rfl rfl) ?_
   refine ops_nil ?_
   exact goes_cut hL15 false [] (qv1 rfl) (by decide) rfl (by rw [hg16]; simp)
 rintro _ rfl
 refine oy rfl rfl (y_assign rfl) ?_
 refine ops_nil ?_
 refine goes_code ?_
 refine run_ret ?_
 obtain rfl := some_eq h
 refine fin_slots [2] [.bool (((((decide (x_0.Op = 0) && decide (x_0.Type_ = 0)) && decide (x_0.N = 0)) && decide (x_0.Slot = 0)) && decide ((x_0.S.length : Int) = 0)) && decide ((x_0.Args.length : Int) = 0))] [] [] Try.results33 rfl (by decide) rfl ?_
 exact ⟨rfl, rfl⟩

def ref20_leaf (x_0 : S_api_TExpr) (vars_1 : (List Int)) : Option (Int) :=
 cond ((decide (x_0.Op = 1) && decide (0 ≤ x_0.N)) && decide (x_0.N < 1000000000000000000))
  (some 1)
  (cond ((decide (x_0.Op = 2) || decide (x_0.Op = 6)) && decide ((x_0.S.length : Int) ≤ 200))
   (some 2)
   (cond (decide (x_0.Op = 4) || decide (x_0.Op = 5))
    (some 3)
    (cond (decide (x_0.Op = 7))
     (some 1)
     (cond ((decide (x_0.Op = 3) && decide (0 ≤ x_0.Slot)) && decide (x_0.Slot < (vars_1.length : Int)))
      (idx vars_1 x_0.Slot fun x28 =>
      some x28)
      (some 0)))))
theorem ref20_leaf_ok (x_0 : S_api_TExpr) (vars_1 : (List Int)) (x_0_Argsv : Value) (vars_1v : Value) {r : Int} (h : ref20_leaf x_0 vars_1 = some r) :
  Meets Try.prog 58 [.agg #[.int .i64 x_0.Op, .int .i64 x_0.Type_, .int .i64 x_0.N, .int .i64 x_0.Slot, .string (bs x_0.S), x_0_Argsv], vars_1v] [nro x_0_Argsv NC_api_TExpr_48 x_0.Args, ro vars_1v 1 (vars_1.map (eInt .i64))] (fun v G => v = .int .i64 r ∧ G = []) := by
 refine fn_of_run Try.func58 rfl Try.ntmps58 rfl (fun w0 o0 => ?_)
 refine run_seq ?_
 refine run_region' ?_
 refine ot rfl rfl (t_box rfl) ?_
 rintro _ _ ⟨b1, rfl, rfl⟩
 refine oy rfl rfl (y_assign rfl) ?_
 refine ops_nil ?_
 refine goes_code ?_
 refine run_seq ?_
 refine run_seq ?_
 refine run_region' ?_
 refine oy rfl rfl (y_fieldAddr_box (sz := 0) Try.runUnderlying48 rfl Try.sizeOf3 rfl) ?_
 refine oy rfl rfl (y_load_box 2 Try.isAgg3 rfl rfl rfl) ?_
 refine oy rfl rfl (y_eql rfl rfl) ?_
 refine oy rfl rfl (y_move rfl) ?_
 refine ops_cut 4 (Bool) (fun σ => [(1, vars_1v), (2, boxP b1 0), (12, .bool σ)]) (fun σ => [nro x_0_Argsv NC_api_TExpr_48 x_0.Args, ro vars_1v 1 (vars_1.map (eInt .i64)), box b1 [.int .i64 x_0.Op, .int .i64 x_0.Type_, .int .i64 x_0.N, .int .i64 x_0.Slot, .string (bs x_0.S), x_0_Argsv]]) (fun σ => σ = (decide (x_0.Op = 1) && decide (0 ≤ x_0.N))) (fun L2 hL3 => ?_) ?_
 ·refine ops_split 8 (decide (x_0.Op = 1)) rfl (fun hg4 => ?_) (fun hg4 => ?_)
  ·skip
   refine ops_y (wg 3 true 8 rfl rfl rfl rfl) rfl (y_fieldAddr_box (sz := 0) Try.runUnderlying48 rfl Try.sizeOf3 rfl) ?_
   refine ops_y (wg 3 true 8 rfl rfl rfl rfl) rfl (y_load_box 2 Try.isAgg3 rfl rfl rfl) ?_
   refine ops_y (wg 3 true 8 rfl rfl rfl rfl) rfl (y_geq rfl rfl) ?_
   refine oy rfl rfl (y_pick (b := true) rfl rfl) ?_
   refine ops_nil ?_
   exact goes_cut hL3 (decide (0 ≤ x_0.N)) [0, 1, 2] (qv3 rfl rfl rfl) (by decide) rfl (by rw [hg4]; simp)
  ·skip
   refine ops_no 3 true 8 rfl rfl rfl rfl rfl ?_
   refine ops_no 3 true 8 rfl rfl rfl rfl rfl ?_
   refine ops_no 3 true 8 rfl rfl rfl rfl rfl ?_
   refine oy rfl rfl (y_pick (b := false) rfl rfl) ?_
   refine ops_nil ?_
   exact goes_cut hL3 false [0, 1, 2] (qv3 rfl rfl rfl) (by decide) rfl (by rw [hg4]; simp)
 rintro _ rfl
 refine oy rfl rfl (y_move rfl) ?_
 refine ops_cut 4 (Bool) (fun σ => [(1, vars_1v), (2, boxP b1 0), (17, .bool σ)]) (fun σ => [nro x_0_Argsv NC_api_TExpr_48 x_0.Args, ro vars_1v 1 (vars_1.map (eInt .i64)), box b1 [.int .i64 x_0.Op, .int .i64 x_0.Type_, .int .i64 x_0.N, .int .i64 x_0.Slot, .string (bs x_0.S), x_0_Argsv]]) (fun σ => σ = ((decide (x_0.Op = 1) && decide (0 ≤ x_0.N)) && decide (x_0.N < 1000000000000000000))) (fun L5 hL6 => ?_) ?_
 ·refine ops_split 13 (decide (x_0.Op = 1) && decide (0 ≤ x_0.N)) rfl (fun hg7 => ?_) (fun hg7 => ?_)
  ·skip
   refine ops_y (wg 8 true 13 rfl rfl rfl rfl) rfl (y_fieldAddr_box (sz := 0) Try.runUnderlying48 rfl Try.sizeOf3 rfl) ?_
   refine ops_y (wg 8 true 13 rfl rfl rfl rfl) rfl (y_load_box 2 Try.isAgg3 rfl rfl rfl) ?_
   refine ops_y (wg 8 true 13 rfl rfl rfl rfl) rfl (y_lss rfl rfl) ?_
   refine oy rfl rfl (y_pick (b := true) rfl rfl) ?_
   refine ops_nil ?_
   exact goes_cut hL6 (decide (x_0.N < 1000000000000000000)) [0, 1, 2] (qv3 rfl rfl rfl) (by decide) rfl (by rw [hg7]; simp)
  ·skip
   refine ops_no 8 true 13 rfl rfl rfl rfl rfl ?_
   refine ops_no 8 true 13 rfl rfl rfl rfl rfl ?_
   refine ops_no 8 true 13 rfl rfl rfl rfl rfl ?_
   refine oy rfl rfl (y_pick (b := false) rfl rfl) ?_
   refine ops_nil ?_
   exact goes_cut hL6 false [0, 1, 2] (qv3 rfl rfl rfl) (by decide) rfl (by rw [hg7]; simp)
 rintro _ rfl
 refine ops_nil ?_
 refine goes_code ?_
 refine run_cond ((decide (x_0.Op = 1) && decide (0 ≤ x_0.N)) && decide (x_0.N < 1000000000000000000)) rfl (fun hc8 => ?_) (fun hc8 => ?_)
 ·replace h := cond_t h hc8
  refine run_seq ?_
  refine run_region' ?_
  refine oy rfl rfl (y_assign rfl) ?_
  refine ops_nil ?_
  refine goes_code ?_
  refine run_ret ?_
  obtain rfl := some_eq h
  refine fin_slots [4] [.int .i64 1] [] [] Try.results58 rfl (by decide) rfl ?_
  exact ⟨rfl, rfl⟩
 ·replace h := cond_f h hc8
  refine run_skip ?_
  refine goes_code ?_
  refine run_seq ?_
  refine run_seq ?_
  refine run_region' ?_
  refine oy rfl rfl (y_fieldAddr_box (sz := 0) Try.runUnderlying48 rfl Try.sizeOf3 rfl) ?_
  refine oy rfl rfl (y_load_box 2 Try.isAgg3 rfl rfl rfl) ?_
  refine oy rfl rfl (y_eql rfl rfl) ?_
  refine oy rfl rfl (y_move rfl) ?_
  refine ops_cut 4 (Bool) (fun σ => [(1, vars_1v), (2, boxP b1 0), (25, .bool σ)]) (fun σ => [nro x_0_Argsv NC_api_TExpr_48 x_0.Args, ro vars_1v 1 (vars_1.map (eInt .i64)), box b1 [.int .i64 x_0.Op, .int .i64 x_0.Type_, .int .i64 x_0.N, .int .i64 x_0.Slot, .string (bs x_0.S), x_0_Argsv]]) (fun σ => σ = (decide (x_0.Op = 2) || decide (x_0.Op = 6))) (fun L9 hL10 => ?_) ?_
  ·refine ops_split 21 (decide (x_0.Op = 2)) rfl (fun hg11 => ?_) (fun hg11 => ?_)
   ·skip
    refine ops_no 3 false 21 rfl rfl rfl rfl rfl ?_
    refine ops_no 3 false 21 rfl rfl rfl rfl rfl ?_
    refine ops_no 3 false 21 rfl rfl rfl rfl rfl ?_
    refine oy rfl rfl (y_pick (b := true) rfl rfl) ?_
    refine ops_nil ?_
    exact goes_cut hL10 true [0, 1, 2] (qv3 rfl rfl rfl) (by decide) rfl (by rw [hg11]; simp)
   ·skip
    refine ops_y (wg 3 false 21 rfl rfl rfl rfl) rfl (y_fieldAddr_box (sz := 0) Try.runUnderlying48 rfl Try.sizeOf3 rfl) ?_
    refine ops_y (wg 3 false 21 rfl rfl rfl rfl) rfl (y_load_box 2 Try.isAgg3 rfl rfl rfl) ?_
    refine ops_y (wg 3 false 21 rfl rfl rfl rfl) rfl (y_eql rfl rfl) ?_
    refine oy rfl rfl (y_pick (b := false) rfl rfl) ?_
    refine ops_nil ?_
    exact goes_cut hL10 (decide (x_0.Op = 6)) [0, 1, 2] (qv3 rfl rfl rfl) (by decide) rfl (by rw [hg11]; simp)
  rintro _ rfl
  refine oy rfl rfl (y_move rfl) ?_
  refine ops_cut 5 (Bool) (fun σ => [(1, vars_1v), (2, boxP b1 0), (31, .bool σ)]) (fun σ => [nro x_0_Argsv NC_api_TExpr_48 x_0.Args, ro vars_1v 1 (vars_1.map (eInt .i64)), box b1 [.int .i64 x_0.Op, .int .i64 x_0.Type_, .int .i64 x_0.N, .int .i64 x_0.Slot, .string (bs x_0.S), x_0_Argsv]]) (fun σ => σ = ((decide (x_0.Op = 2) || decide (x_0.Op = 6)) && decide ((x_0.S.length : Int) ≤ 200))) (fun L12 hL13 => ?_) ?_
  ·refine ops_split 26 (decide (x_0.Op = 2) || decide (x_0.Op = 6)) rfl (fun hg14 => ?_) (fun hg14 => ?_)
   ·skip
    refine ops_y (wg 8 true 26 rfl rfl rfl rfl) rfl (y_fieldAddr_box (sz := 0) Try.runUnderlying48 rfl Try.sizeOf9 rfl) ?_
    refine ops_y (wg 8 true 26 rfl rfl rfl rfl) rfl (y_load_box 2 Try.isAgg9 rfl rfl rfl) ?_
    refine ops_y (wg 8 true 26 rfl rfl rfl rfl) rfl (y_len_str rfl Try.runUnderlying9 rfl) ?_
    refine ops_y (wg 8 true 26 rfl rfl rfl rfl) rfl (y_leq rfl rfl) ?_
    refine oy rfl rfl (y_pick (b := true) rfl rfl) ?_
    refine ops_nil ?_
    exact goes_cut hL13 (decide ((x_0.S.length : Int) ≤ 200)) [0, 1, 2] (qv3 rfl rfl rfl) (by decide) rfl (by rw [hg14]; simp)
   ·skip
    refine ops_no 8 true 26 rfl rfl rfl rfl rfl ?_
    refine ops_no 8 true 26 rfl rfl rfl rfl rfl ?_
    refine ops_no 8 true 26 rfl rfl rfl rfl rfl ?_
    refine ops_no 8 true 26 rfl rfl rfl rfl rfl ?_
    refine oy rfl rfl (y_pick (b := false) rfl rfl) ?_
    refine ops_nil ?_
    exact goes_cut hL13 false [0, 1, 2] (qv3 rfl rfl rfl) (by decide) rfl (by rw [hg14]; simp)
  rintro _ rfl
  refine ops_nil ?_
  refine goes_code ?_
  refine run_cond ((decide (x_0.Op = 2) || decide (x_0.Op = 6)) && decide ((x_0.S.length : Int) ≤ 200)) rfl (fun hc15 => ?_) (fun hc15 => ?_)
  ·replace h := cond_t h hc15
   refine run_seq ?_
   refine run_region' ?_
   refine oy rfl rfl (y_assign rfl) ?_
   refine ops_nil ?_
   refine goes_code ?_
   refine run_ret ?_
   obtain rfl := some_eq h
   refine fin_slots [4] [.int .i64 2] [] [] Try.results58 rfl (by decide) rfl ?_
   exact ⟨rfl, rfl⟩
  ·replace h := cond_f h hc15
   refine run_skip ?_
   refine goes_code ?_
   refine run_seq ?_
   refine run_seq ?_
   refine run_region' ?_
   refine oy rfl rfl (y_fieldAddr_box (sz := 0) Try.runUnderlying48 rfl Try.sizeOf3 rfl) ?_
   refine oy rfl rfl (y_load_box 2 Try.isAgg3 rfl rfl rfl) ?_
   refine oy rfl rfl (y_eql rfl rfl) ?_
   refine oy rfl rfl (y_move rfl) ?_
   refine ops_cut 4 (Bool) (fun σ => [(1, vars_1v), (2, boxP b1 0), (39, .bool σ)]) (fun σ => [nro x_0_Argsv NC_api_TExpr_48 x_0.Args, ro vars_1v 1 (vars_1.map (eInt .i64)), box b1 [.int .i64 x_0.Op, .int .i64 x_0.Type_, .int .i64 x_0.N, .int .i64 x_0.Slot, .string (bs x_0.S), x_0_Argsv]]) (fun σ => σ = (decide (x_0.Op = 4) || decide (x_0.Op = 5))) (fun L16 hL17 => ?_) ?_
   ·refine ops_split 35 (decide (x_0.Op = 4)) rfl (fun hg18 => ?_) (fun hg18 => ?_)
    ·skip
     refine ops_no 3 false 35 rfl rfl rfl rfl rfl ?_
     refine ops_no 3 false 35 rfl rfl rfl rfl rfl ?_
     refine ops_no 3 false 35 rfl rfl rfl rfl rfl ?_
     refine oy rfl rfl (y_pick (b := true) rfl rfl) ?_
     refine ops_nil ?_
     exact goes_cut hL17 true [0, 1, 2] (qv3 rfl rfl rfl) (by decide) rfl (by rw [hg18]; simp)
    ·skip
     refine ops_y (wg 3 false 35 rfl rfl rfl rfl) rfl (y_fieldAddr_box (sz := 0) Try.runUnderlying48 rfl Try.sizeOf3 rfl) ?_
     refine ops_y (wg 3 false 35 rfl rfl rfl rfl) rfl (y_load_box 2 Try.isAgg3 rfl rfl rfl) ?_
     refine ops_y (wg 3 false 35 rfl rfl rfl rfl) rfl (y_eql rfl rfl) ?_
     refine oy rfl rfl (y_pick (b := false) rfl rfl) ?_
     refine ops_nil ?_
     exact goes_cut hL17 (decide (x_0.Op = 5)) [0, 1, 2] (qv3 rfl rfl rfl) (by decide) rfl (by rw [hg18]; simp)
   rintro _ rfl
   refine ops_nil ?_
   refine goes_code ?_
   refine run_cond (decide (x_0.Op = 4) || decide (x_0.Op = 5)) rfl (fun hc19 => ?_) (fun hc19 => ?_)
   ·replace h := cond_t h hc19
    refine run_seq ?_
    refine run_region' ?_
    refine oy rfl rfl (y_assign rfl) ?_
    refine ops_nil ?_
    refine goes_code ?_
    refine run_ret ?_
    obtain rfl := some_eq h
    refine fin_slots [4] [.int .i64 3] [] [] Try.results58 rfl (by decide) rfl ?_
    exact ⟨rfl, rfl⟩
   ·replace h := cond_f h hc19
    refine run_skip ?_
    refine goes_code ?_
    refine run_seq ?_
    refine run_seq ?_
    refine run_region' ?_
    refine oy rfl rfl (y_fieldAddr_box (sz := 0) Try.runUnderlying48 rfl Try.sizeOf3 rfl) ?_
    refine oy rfl rfl (y_load_box 2 Try.isAgg3 rfl rfl rfl) ?_
    refine oy rfl rfl (y_eql rfl rfl) ?_
    refine ops_nil ?_
    refine goes_code ?_
    refine run_cond (decide (x_0.Op = 7)) rfl (fun hc20 => ?_) (fun hc20 => ?_)
    ·replace h := cond_t h hc20
     refine run_seq ?_
     refine run_region' ?_
     refine oy rfl rfl (y_assign rfl) ?_
     refine ops_nil ?_
     refine goes_code ?_
     refine run_ret ?_
     obtain rfl := some_eq h
     refine fin_slots [4] [.int .i64 1] [] [] Try.results58 rfl (by decide) rfl ?_
     exact ⟨rfl, rfl⟩
    ·replace h := cond_f h hc20
     refine run_skip ?_
     refine goes_code ?_
     refine run_seq ?_
     refine run_seq ?_
     refine run_region' ?_
     refine oy rfl rfl (y_fieldAddr_box (sz := 0) Try.runUnderlying48 rfl Try.sizeOf3 rfl) ?_
     refine oy rfl rfl (y_load_box 2 Try.isAgg3 rfl rfl rfl) ?_
     refine oy rfl rfl (y_eql rfl rfl) ?_
     refine oy rfl rfl (y_move rfl) ?_
     refine ops_cut 4 (Bool) (fun σ => [(1, vars_1v), (2, boxP b1 0), (50, .bool σ)]) (fun σ => [nro x_0_Argsv NC_api_TExpr_48 x_0.Args, ro vars_1v 1 (vars_1.map (eInt .i64)), box b1 [.int .i64 x_0.Op, .int .i64 x_0.Type_, .int .i64 x_0.N, .int .i64 x_0.Slot, .string (bs x_0.S), x_0_Argsv]]) (fun σ => σ = (decide (x_0.Op = 3) && decide (0 ≤ x_0.Slot))) (fun L21 hL22 => ?_) ?_
     ·refine ops_split 46 (decide (x_0.Op = 3)) rfl (fun hg23 => ?_) (fun hg23 => ?_)
      ·skip
       refine ops_y (wg 3 true 46 rfl rfl rfl rfl) rfl (y_fieldAddr_box (sz := 0) Try.runUnderlying48 rfl Try.sizeOf3 rfl) ?_
       refine ops_y (wg 3 true 46 rfl rfl rfl rfl) rfl (y_load_box 2 Try.isAgg3 rfl rfl rfl) ?_
       refine ops_y (wg 3 true 46 rfl rfl rfl rfl) rfl (y_geq rfl rfl) ?_
       refine oy rfl rfl (y_pick (b := true) rfl rfl) ?_
       refine ops_nil ?_
       exact goes_cut hL22 (decide (0 ≤ x_0.Slot)) [0, 1, 2] (qv3 rfl rfl rfl) (by decide) rfl (by rw [hg23]; simp)
      ·skip
       refine ops_no 3 true 46 rfl rfl rfl rfl rfl ?_
       refine ops_no 3 true 46 rfl rfl rfl rfl rfl ?_
       refine ops_no 3 true 46 rfl rfl rfl rfl rfl ?_
       refine oy rfl rfl (y_pick (b := false) rfl rfl) ?_
       refine ops_nil ?_
       exact goes_cut hL22 false [0, 1, 2] (qv3 rfl rfl rfl) (by decide) rfl (by rw [hg23]; simp)
     rintro _ rfl
     refine oy rfl rfl (y_move rfl) ?_
     refine ops_cut 6 (Bool) (fun σ => [(1, vars_1v), (2, boxP b1 0), (57, .bool σ)]) (fun σ => [nro x_0_Argsv NC_api_TExpr_48 x_0.Args, ro vars_1v 1 (vars_1.map (eInt .i64)), box b1 [.int .i64 x_0.Op, .int .i64 x_0.Type_, .int .i64 x_0.N, .int .i64 x_0.Slot, .string (bs x_0.S), x_0_Argsv]]) (fun σ => σ = ((decide (x_0.Op = 3) && decide (0 ≤ x_0.Slot)) && decide (x_0.Slot < (vars_1.length : Int)))) (fun L24 hL25 => ?_) ?_
     ·refine ops_split 51 (decide (x_0.Op = 3) && decide (0 ≤ x_0.Slot)) rfl (fun hg26 => ?_) (fun hg26 => ?_)
      ·skip
       refine ops_y (wg 8 true 51 rfl rfl rfl rfl) rfl (y_fieldAddr_box (sz := 0) Try.runUnderlying48 rfl Try.sizeOf3 rfl) ?_
       refine ops_y (wg 8 true 51 rfl rfl rfl rfl) rfl (y_load_box 2 Try.isAgg3 rfl rfl rfl) ?_
       refine ops_y (wg 8 true 51 rfl rfl rfl rfl) rfl (y_move rfl) ?_
       refine ops_y (wg 8 true 51 rfl rfl rfl rfl) rfl ((y_len 1 rfl Try.runUnderlying22 rfl rfl reads_ro).to (v_len (eInt .i64) _)) ?_
       refine ops_y (wg 8 true 51 rfl rfl rfl rfl) rfl (y_lss rfl rfl) ?_
       refine oy rfl rfl (y_pick (b := true) rfl rfl) ?_
       refine ops_nil ?_
       exact goes_cut hL25 (decide (x_0.Slot < (vars_1.length : Int))) [0, 1, 2] (qv3 rfl rfl rfl) (by decide) rfl (by rw [hg26]; simp)
      ·skip
       refine ops_no 8 true 51 rfl rfl rfl rfl rfl ?_
       refine ops_no 8 true 51 rfl rfl rfl rfl rfl ?_
       refine ops_no 8 true 51 rfl rfl rfl rfl rfl ?_
       refine ops_no 8 true 51 rfl rfl rfl rfl rfl ?_
       refine ops_no 8 true 51 rfl rfl rfl rfl rfl ?_
       refine oy rfl rfl (y_pick (b := false) rfl rfl) ?_
       refine ops_nil ?_
       exact goes_cut hL25 false [0, 1, 2] (qv3 rfl rfl rfl) (by decide) rfl (by rw [hg26]; simp)
     rintro _ rfl
     refine ops_nil ?_
     refine goes_code ?_
     refine run_cond ((decide (x_0.Op = 3) && decide (0 ≤ x_0.Slot)) && decide (x_0.Slot < (vars_1.length : Int))) rfl (fun hc27 => ?_) (fun hc27 => ?_)
     ·replace h := cond_t h hc27
      refine run_seq ?_
      refine run_region' ?_
      refine oy rfl rfl (y_move rfl) ?_
      refine oy rfl rfl (y_fieldAddr_box (sz := 0) Try.runUnderlying48 rfl Try.sizeOf3 rfl) ?_
      refine oy rfl rfl (y_load_box 2 Try.isAgg3 rfl rfl rfl) ?_
      obtain ⟨x28, hzx28, hlx28, hxx28, h⟩ := idx_some h
      refine oy rfl rfl (y_indexAddrI (kd := .i64) (i := x_0.Slot) 1 Try.runUnderlying22 Try.sizeOf3 rfl rfl rfl reads_ro hzx28 (map_lt hlx28)) ?_
      refine oy rfl rfl (y_load_elem (i := (x_0.Slot).toNat) 1 Try.isAgg3 rfl rfl reads_ro (map_get hxx28)) ?_
      refine oy rfl rfl (y_assign rfl) ?_
      refine ops_nil ?_
      refine goes_code ?_
      refine run_ret ?_
      obtain rfl := some_eq h
      refine fin_slots [4] [.int .i64 x28] [] [] Try.results58 rfl (by decide) rfl ?_
      exact ⟨rfl, rfl⟩
     ·replace h := cond_f h hc27
      refine run_skip ?_
      refine goes_code ?_
      refine run_seq ?_
      refine run_region' ?_
      refine oy rfl rfl (y_assign rfl) ?_
      refine ops_nil ?_
      refine goes_code ?_
      refine run_ret ?_
      obtain rfl := some_eq h
      refine fin_slots [4] [.int .i64 0] [] [] Try.results58 rfl (by decide) rfl ?_
      exact ⟨rfl, rfl⟩

def ref20_result_L1 (l_1 : (List Int)) : (Int) → Option (Lp (Int) (Lp (Unit) (Int))) :=
 fun k_5 =>
  cond (decide (k_5 < (l_1.length : Int)))
   (idx l_1 k_5 fun x11 =>
   idx l_1 0 fun x12 =>
   cond (decide (x11 ≠ x12))
    (some (.stop (.stop 0)))
    (some (.go (IntKind.i64.wrap (k_5 + 1)))))
   (some (.stop (.go ())))
def ref20_result (n : Nat) (op_0 : Int) (l_1 : (List Int)) : Option (Int) :=
 bindJ (S := Unit)
  (iter (ref20_result_L1 l_1) n 1)
 (fun _ =>
  cond (decide ((l_1.length : Int) = 0))
   (some 0)
   (idx l_1 0 fun x15 =>
   cond ((((decide (op_0 = 8) || decide (op_0 = 11)) || decide (op_0 = 12)) || decide (op_0 = 13)) || decide (op_0 = 14))
    (cond (decide (x15 = 1))
     (some 1)
     (some 0))
    (cond ((decide (op_0 = 9) || decide (op_0 = 21)) || decide (op_0 = 22))
     (cond (decide (x15 = 3))
      (some 3)
      (some 0))
     (cond (decide (op_0 = 10))
      (cond (decide (x15 = 3))
       (some 0)
       (some x15))
      (cond (((decide (op_0 = 15) || decide (op_0 = 16)) || decide (op_0 = 17)) || decide (op_0 = 18))
       (cond (decide (x15 = 3))
        (some 0)
        (some 3))
       (cond ((decide (op_0 = 19) || decide (op_0 = 20)) || decide (op_0 = 23))
        (some 3)
        (some 0)))))))
theorem ref20_result_ok (n : Nat) (op_0 : Int) (l_1 : (List Int)) (l_1v : Value) {r : Int} (h : ref20_result n op_0 l_1 = some r) :
  Meets Try.prog 59 [.int .i64 op_0, l_1v] [ro l_1v 1 (l_1.map (eInt .i64))] (fun v G => v = .int .i64 r ∧ G = []) := by
 refine fn_of_run Try.func59 rfl Try.ntmps59 rfl (fun w0 o0 => ?_)
 refine run_seq ?_
 refine run_region' ?_
 refine oy rfl rfl (y_assign rfl) ?_
 refine ops_nil ?_
 refine goes_code ?_
 obtain ⟨o1, h, ho2⟩ := bindJ_some h
 refine run_cut ((Unit) × (Unit)) (fun σ => [(0, .int .i64 op_0), (1, l_1v)]) (fun σ => [ro l_1v 1 (l_1.map (eInt .i64))]) (fun σ => o1 = .go σ.1) (fun L4 hL3 => ?_) ?_
 ·
  refine run_seq ?_
  refine run_region' ?_
  refine oy rfl rfl (y_assign rfl) ?_
  refine ops_nil ?_
  refine goes_code ?_
  refine run_block ?_
  refine run_iter (step := ref20_result_L1 l_1) (n := n) (s0 := 1) h (G := Unit) () (fun σ γ => [(5, .int .i64 σ), (0, .int .i64 op_0), (1, l_1v)]) (fun σ γ => [ro l_1v 1 (l_1.map (eInt .i64))]) [0] (qv3 rfl rfl rfl) (by decide) rfl ?_
  rintro k_5 _ o6 h L9 hgo7 hstop8
  change Run _ _ _ (VF.of [(5, .int .i64 k_5), (0, .int .i64 op_0), (1, l_1v)]) [ro l_1v 1 (l_1.map (eInt .i64))]
  refine run_seq ?_
  refine run_seq ?_
  refine run_region' ?_
  refine oy rfl rfl (y_move rfl) ?_
  refine oy rfl rfl (y_move rfl) ?_
  refine oy rfl rfl ((y_len 0 rfl Try.runUnderlying22 rfl rfl reads_ro).to (v_len (eInt .i64) _)) ?_
  refine oy rfl rfl (y_lss rfl rfl) ?_
  refine ops_nil ?_
  refine goes_code ?_
  refine run_cond (decide (k_5 < (l_1.length : Int))) rfl (fun hc10 => ?_) (fun hc10 => ?_)
  ·replace h := cond_t h hc10
   refine run_skip ?_
   refine goes_code ?_
   refine run_seq ?_
   refine run_block ?_
   refine run_seq ?_
   refine run_draw (by kernel_rfl) (by kernel_rfl) ?_
   refine sy rfl rfl (y_move rfl) ?_
   refine sy rfl rfl (y_move rfl) ?_
   obtain ⟨x11, hzx11, hlx11, hxx11, h⟩ := idx_some h
   refine sy rfl rfl (y_indexAddrI (kd := .i64) (i := k_5) 0 Try.runUnderlying22 Try.sizeOf3 rfl rfl rfl reads_ro hzx11 (map_lt hlx11)) ?_
   refine sy rfl rfl (y_load_elem (i := k_5.toNat) 0 Try.isAgg3 rfl rfl reads_ro (map_get hxx11)) ?_
   refine sy rfl rfl (y_move rfl) ?_
   obtain ⟨x12, hzx12, hlx12, hxx12, h⟩ := idx_some h
   refine sy rfl rfl (y_indexAddrI (kd := .i64) (i := 0) 0 Try.runUnderlying22 Try.sizeOf3 rfl rfl rfl reads_ro hzx12 (map_lt hlx12)) ?_
   refine sy rfl rfl (y_load_elem (i := (0 : Int).toNat) 0 Try.isAgg3 rfl rfl reads_ro (map_get hxx12)) ?_
   refine sy rfl rfl (y_neq rfl rfl) ?_
   refine still_nil ?_
   refine goes_code ?_
   refine run_cond (decide (x11 ≠ x12)) rfl (fun hc13 => ?_) (fun hc13 => ?_)
   ·replace h := cond_t h hc13
    refine run_seq ?_
    refine run_weak [] [] [] vnil (by decide) rfl ?_
    refine run_region' ?_
    refine oy rfl rfl (y_assign rfl) ?_
    refine ops_nil ?_
    refine goes_code ?_
    refine run_ret ?_
    obtain rfl := some_eq h
    obtain rfl := hstop8 _ rfl
    skip
    obtain rfl := after_stop ho2
    refine fin_slots [4] [.int .i64 0] [] [] Try.results59 rfl (by decide) rfl ?_
    exact ⟨rfl, rfl⟩
   ·replace h := cond_f h hc13
    refine run_skip ?_
    refine goes_blk ?_
    refine goes_code ?_
    refine run_weak [(5, .int .i64 k_5), (0, .int .i64 op_0), (1, l_1v)] [0] [ro l_1v 1 (l_1.map (eInt .i64))] (qv3 rfl rfl rfl) (by decide) rfl ?_
    refine run_region' ?_
    refine oy rfl rfl (y_move rfl) ?_
    refine oy rfl rfl (y_add rfl rfl) ?_
    refine oy rfl rfl (y_assign rfl) ?_
    refine ops_nil ?_
    obtain rfl := some_eq h
    exact goes_iter hgo7 (IntKind.i64.wrap (k_5 + 1)) () [0] rfl (qv3 rfl rfl rfl) (by decide) rfl
  ·replace h := cond_f h hc10
   refine run_exit _ rfl ?_
   obtain rfl := some_eq h
   obtain rfl := hstop8 _ rfl
   exact goes_cut hL3 ((), ()) [0] (qv2 rfl rfl) (by decide) rfl rfl
 rintro ⟨_, _⟩ hj
 obtain rfl : o1 = _ := hj
 replace h := after_go ho2
 clear ho2
 change Run _ _ _ (VF.of [(0, .int .i64 op_0), (1, l_1v)]) [ro l_1v 1 (l_1.map (eInt .i64))]
 refine run_seq ?_
 refine run_seq ?_
 refine run_region' ?_
 refine oy rfl rfl (y_move rfl) ?_
 refine oy rfl rfl ((y_len 0 rfl Try.runUnderlying22 rfl rfl reads_ro).to (v_len (eInt .i64) _)) ?_
 refine oy rfl rfl (y_eql rfl rfl) ?_
 refine ops_nil ?_
 refine goes_code ?_
 refine run_cond (decide ((l_1.length : Int) = 0)) rfl (fun hc14 => ?_) (fun hc14 => ?_)
 ·replace h := cond_t h hc14
  refine run_seq ?_
  refine run_region' ?_
  refine oy rfl rfl (y_assign rfl) ?_
  refine ops_nil ?_
  refine goes_code ?_
  refine run_ret ?_
  obtain rfl := some_eq h
  refine fin_slots [4] [.int .i64 0] [] [] Try.results59 rfl (by decide) rfl ?_
  exact ⟨rfl, rfl⟩
 ·replace h := cond_f h hc14
  refine run_skip ?_
  refine goes_code ?_
  refine run_seq ?_
  refine run_region' ?_
  refine oy rfl rfl (y_move rfl) ?_
  obtain ⟨x15, hzx15, hlx15, hxx15, h⟩ := idx_some h
  refine oy rfl rfl (y_indexAddrI (kd := .i64) (i := 0) 0 Try.runUnderlying22 Try.sizeOf3 rfl rfl rfl reads_ro hzx15 (map_lt hlx15)) ?_
  refine oy rfl rfl (y_load_elem (i := (0 : Int).toNat) 0 Try.isAgg3 rfl rfl reads_ro (map_get hxx15)) ?_
  refine oy rfl rfl (y_assign rfl) ?_
  refine ops_nil ?_
  refine goes_code ?_
  refine run_seq ?_
  refine run_seq ?_
  refine run_region' ?_
  refine oy rfl rfl (y_move rfl) ?_
  refine oy rfl rfl (y_eql rfl rfl) ?_
  refine oy rfl rfl (y_move rfl) ?_
  refine ops_cut 3 (Bool) (fun σ => [(0, .int .i64 op_0), (6, .int .i64 x15), (32, .bool σ)]) (fun σ => []) (fun σ => σ = (decide (op_0 = 8) || decide (op_0 = 11))) (fun L16 hL17 => ?_) ?_
  ·refine ops_split 29 (decide (op_0 = 8)) rfl (fun hg18 => ?_) (fun hg18 => ?_)
   ·skip
    refine ops_no 2 false 29 rfl rfl rfl rfl rfl ?_
    refine ops_no 2 false 29 rfl rfl rfl rfl rfl ?_
    refine oy rfl rfl (y_pick (b := true) rfl rfl) ?_
    refine ops_nil ?_
    exact goes_cut hL17 true [] (qv3 rfl rfl rfl) (by decide) rfl (by rw [hg18]; simp)
   ·skip
    refine ops_y (wg 2 false 29 rfl rfl rfl rfl) rfl (y_move rfl) ?_
    refine ops_y (wg 2 false 29 rfl rfl rfl rfl) rfl (y_eql rfl rfl) ?_
    refine oy rfl rfl (y_pick (b := false) rfl rfl) ?_
    refine ops_nil ?_
    exact goes_cut hL17 (decide (op_0 = 11)) [] (qv3 rfl rfl rfl) (by decide) rfl (by rw [hg18]; simp)
  rintro _ rfl
  refine oy rfl rfl (y_move rfl) ?_
  refine ops_cut 3 (Bool) (fun σ => [(0, .int .i64 op_0), (6, .int .i64 x15), (36, .bool σ)]) (fun σ => []) (fun σ => σ = ((decide (op_0 = 8) || decide (op_0 = 11)) || decide (op_0 = 12))) (fun L19 hL20 => ?_) ?_
  ·refine ops_split 33 (decide (op_0 = 8) || decide (op_0 = 11)) rfl (fun hg21 => ?_) (fun hg21 => ?_)
   ·skip
    refine ops_no 6 false 33 rfl rfl rfl rfl rfl ?_
    refine ops_no 6 false 33 rfl rfl rfl rfl rfl ?_
    refine oy rfl rfl (y_pick (b := true) rfl rfl) ?_
    refine ops_nil ?_
    exact goes_cut hL20 true [] (qv3 rfl rfl rfl) (by decide) rfl (by rw [hg21]; simp)
   ·skip
    refine ops_y (wg 6 false 33 rfl rfl rfl rfl) rfl (y_move rfl) ?_
    refine ops_y (wg 6 false 33 rfl rfl rfl rfl) rfl (y_eql rfl rfl) ?_
    refine oy rfl rfl (y_pick (b := false) rfl rfl) ?_
    refine ops_nil ?_
    exact goes_cut hL20 (decide (op_0 = 12)) [] (qv3 rfl rfl rfl) (by decide) rfl (by rw [hg21]; simp)
  rintro _ rfl
  refine oy rfl rfl (y_move rfl) ?_
  refine ops_cut 3 (Bool) (fun σ => [(0, .int .i64 op_0), (6, .int .i64 x15), (40, .bool σ)]) (fun σ => []) (fun σ => σ = (((decide (op_0 = 8) || decide (op_0 = 11)) || decide (op_0 = 12)) || decide (op_0 = 13))) (fun L22 hL23 => ?_) ?_
  ·refine ops_split 37 ((decide (op_0 = 8) || decide (op_0 = 11)) || decide (op_0 = 12)) rfl (fun hg24 => ?_) (fun hg24 => ?_)
   ·skip
    refine ops_no 10 false 37 rfl rfl rfl rfl rfl ?_
    refine ops_no 10 false 37 rfl rfl rfl rfl rfl ?_
    refine oy rfl rfl (y_pick (b := true) rfl rfl) ?_
    refine ops_nil ?_
    exact goes_cut hL23 true [] (qv3 rfl rfl rfl) (by decide) rfl (by rw [hg24]; simp)
   ·skip
    refine ops_y (wg 10 false 37 rfl rfl rfl rfl) rfl (y_move rfl) ?_
    refine ops_y (wg 10 false 37 rfl rfl rfl rfl) rfl (y_eql rfl rfl) ?_
    refine oy rfl rfl (y_pick (b := false) rfl rfl) ?_
    refine ops_nil ?_
    exact goes_cut hL23 (decide (op_0 = 13)) [] (qv3 rfl rfl rfl) (by decide) rfl (by rw [hg24]; simp)
  rintro _ rfl
  refine oy rfl rfl (y_move rfl) ?_
  refine ops_cut 3 (Bool) (fun σ => [(0, .int .i64 op_0), (6, .int .i64 x15), (44, .bool σ)]) (fun σ => []) (fun σ => σ = ((((decide (op_0 = 8) || decide (op_0 = 11)) || decide (op_0 = 12)) || decide (op_0 = 13)) || decide (op_0 = 14))) (fun L25 hL26 => ?_) ?_
  ·refine ops_split 41 (((decide (op_0 = 8) || decide (op_0 = 11)) || decide (op_0 = 12)) || decide (op_0 = 13)) rfl (fun hg27 => ?_) (fun hg27 => ?_)
   ·skip
    refine ops_no 14 false 41 rfl rfl rfl rfl rfl ?_
    refine ops_no 14 false 41 rfl rfl rfl rfl rfl ?_
    refine oy rfl rfl (y_pick (b := true) rfl rfl) ?_
    refine ops_nil ?_
    exact goes_cut hL26 true [] (qv3 rfl rfl rfl) (by decide) rfl (by rw [hg27]; simp)
   ·skip
    refine ops_y (wg 14 false 41 rfl rfl rfl rfl) rfl (y_move rfl) ?_
    refine ops_y (wg 14 false 41 rfl rfl rfl rfl) rfl (y_eql rfl rfl) ?_
    refine oy rfl rfl (y_pick (b := false) rfl rfl) ?_
    refine ops_nil ?_
    exact goes_cut hL26 (decide (op_0 = 14)) [] (qv3 rfl rfl rfl) (by decide) rfl (by rw [hg27]; simp)
  rintro _ rfl
  refine ops_nil ?_
  refine goes_code ?_
  refine run_cond ((((decide (op_0 = 8) || decide (op_0 = 11)) || decide (op_0 = 12)) || decide (op_0 = 13)) || decide (op_0 = 14)) rfl (fun hc28 => ?_) (fun hc28 => ?_)
  ·replace h := cond_t h hc28
   refine run_seq ?_
   refine run_seq ?_
   refine run_region' ?_
   refine oy rfl rfl (y_move rfl) ?_
   refine oy rfl rfl (y_eql rfl rfl) ?_
   refine ops_nil ?_
   refine goes_code ?_
   refine run_cond (decide (x15 = 1)) rfl (fun hc29 => ?_) (fun hc29 => ?_)
   ·replace h := cond_t h hc29
    refine run_seq ?_
    refine run_region' ?_
    refine oy rfl rfl (y_assign rfl) ?_
    refine ops_nil ?_
    refine goes_code ?_
    refine run_ret ?_
    obtain rfl := some_eq h
    refine fin_slots [4] [.int .i64 1] [] [] Try.results59 rfl (by decide) rfl ?_
    exact ⟨rfl, rfl⟩
   ·replace h := cond_f h hc29
    refine run_skip ?_
    refine goes_code ?_
    refine run_seq ?_
    refine run_region' ?_
    refine oy rfl rfl (y_assign rfl) ?_
    refine ops_nil ?_
    refine goes_code ?_
    refine run_ret ?_
    obtain rfl := some_eq h
    refine fin_slots [4] [.int .i64 0] [] [] Try.results59 rfl (by decide) rfl ?_
    exact ⟨rfl, rfl⟩
  ·replace h := cond_f h hc28
   refine run_skip ?_
   refine goes_code ?_
   refine run_seq ?_
   refine run_seq ?_
   refine run_region' ?_
   refine oy rfl rfl (y_move rfl) ?_
   refine oy rfl rfl (y_eql rfl rfl) ?_
   refine oy rfl rfl (y_move rfl) ?_
   refine ops_cut 3 (Bool) (fun σ => [(0, .int .i64 op_0), (6, .int .i64 x15), (52, .bool σ)]) (fun σ => []) (fun σ => σ = (decide (op_0 = 9) || decide (op_0 = 21))) (fun L30 hL31 => ?_) ?_
   ·refine ops_split 49 (decide (op_0 = 9)) rfl (fun hg32 => ?_) (fun hg32 => ?_)
    ·skip
     refine ops_no 2 false 49 rfl rfl rfl rfl rfl ?_
     refine ops_no 2 false 49 rfl rfl rfl rfl rfl ?_
     refine oy rfl rfl (y_pick (b := true) rfl rfl) ?_
     refine ops_nil ?_
     exact goes_cut hL31 true [] (qv3 rfl rfl rfl) (by decide) rfl (by rw [hg32]; simp)
    ·skip
     refine ops_y (wg 2 false 49 rfl rfl rfl rfl) rfl (y_move rfl) ?_
     refine ops_y (wg 2 false 49 rfl rfl rfl rfl) rfl (y_eql rfl rfl) ?_
     refine oy rfl rfl (y_pick (b := false) rfl rfl) ?_
     refine ops_nil ?_
     exact goes_cut hL31 (decide (op_0 = 21)) [] (qv3 rfl rfl rfl) (by decide) rfl (by rw [hg32]; simp)
   rintro _ rfl
   refine oy rfl rfl (y_move rfl) ?_
   refine ops_cut 3 (Bool) (fun σ => [(0, .int .i64 op_0), (6, .int .i64 x15), (56, .bool σ)]) (fun σ => []) (fun σ => σ = ((decide (op_0 = 9) || decide (op_0 = 21)) || decide (op_0 = 22))) (fun L33 hL34 => ?_) ?_
   ·refine ops_split 53 (decide (op_0 = 9) || decide (op_0 = 21)) rfl (fun hg35 => ?_) (fun hg35 => ?_)
    ·skip
     refine ops_no 6 false 53 rfl rfl rfl rfl rfl ?_
     refine ops_no 6 false 53 rfl rfl rfl rfl rfl ?_
     refine oy rfl rfl (y_pick (b := true) rfl rfl) ?_
     refine ops_nil ?_
     exact goes_cut hL34 true [] (qv3 rfl rfl rfl) (by decide) rfl (by rw [hg35]; simp)
    ·skip
     refine ops_y (wg 6 false 53 rfl rfl rfl rfl) rfl (y_move rfl) ?_
     refine ops_y (wg 6 false 53 rfl rfl rfl rfl) rfl (y_eql rfl rfl) ?_
     refine oy rfl rfl (y_pick (b := false) rfl rfl) ?_
     refine ops_nil ?_
     exact goes_cut hL34 (decide (op_0 = 22)) [] (qv3 rfl rfl rfl) (by decide) rfl (by rw [hg35]; simp)
   rintro _ rfl
   refine ops_nil ?_
   refine goes_code ?_
   refine run_cond ((decide (op_0 = 9) || decide (op_0 = 21)) || decide (op_0 = 22)) rfl (fun hc36 => ?_) (fun hc36 => ?_)
   ·replace h := cond_t h hc36
    refine run_seq ?_
    refine run_seq ?_
    refine run_region' ?_
    refine oy rfl rfl (y_move rfl) ?_
    refine oy rfl rfl (y_eql rfl rfl) ?_
    refine ops_nil ?_
    refine goes_code ?_
    refine run_cond (decide (x15 = 3)) rfl (fun hc37 => ?_) (fun hc37 => ?_)
    ·replace h := cond_t h hc37
     refine run_seq ?_
     refine run_region' ?_
     refine oy rfl rfl (y_assign rfl) ?_
     refine ops_nil ?_
     refine goes_code ?_
     refine run_ret ?_
     obtain rfl := some_eq h
     refine fin_slots [4] [.int .i64 3] [] [] Try.results59 rfl (by decide) rfl ?_
     exact ⟨rfl, rfl⟩
    ·replace h := cond_f h hc37
     refine run_skip ?_
     refine goes_code ?_
     refine run_seq ?_
     refine run_region' ?_
     refine oy rfl rfl (y_assign rfl) ?_
     refine ops_nil ?_
     refine goes_code ?_
     refine run_ret ?_
     obtain rfl := some_eq h
     refine fin_slots [4] [.int .i64 0] [] [] Try.results59 rfl (by decide) rfl ?_
     exact ⟨rfl, rfl⟩
   ·replace h := cond_f h hc36
    refine run_skip ?_
    refine goes_code ?_
    refine run_seq ?_
    refine run_seq ?_
    refine run_region' ?_
    refine oy rfl rfl (y_move rfl) ?_
    refine oy rfl rfl (y_eql rfl rfl) ?_
    refine ops_nil ?_
    refine goes_code ?_
    refine run_cond (decide (op_0 = 10)) rfl (fun hc38 => ?_) (fun hc38 => ?_)
    ·replace h := cond_t h hc38
     refine run_seq ?_
     refine run_seq ?_
     refine run_region' ?_
     refine oy rfl rfl (y_move rfl) ?_
     refine oy rfl rfl (y_eql rfl rfl) ?_
     refine ops_nil ?_
     refine goes_code ?_
     refine run_cond (decide (x15 = 3)) rfl (fun hc39 => ?_) (fun hc39 => ?_)
     ·replace h := cond_t h hc39
      refine run_seq ?_
      refine run_region' ?_
      refine oy rfl rfl (y_assign rfl) ?_
      refine ops_nil ?_
      refine goes_code ?_
      refine run_ret ?_
      obtain rfl := some_eq h
      refine fin_slots [4] [.int .i64 0] [] [] Try.results59 rfl (by decide) rfl ?_
      exact ⟨rfl, rfl⟩
     ·replace h := cond_f h hc39
      refine run_skip ?_
      refine goes_code ?_
      refine run_seq ?_
      refine run_region' ?_
      refine oy rfl rfl (y_move rfl) ?_
      refine oy rfl rfl (y_assign rfl) ?_
      refine ops_nil ?_
      refine goes_code ?_
      refine run_ret ?_
      obtain rfl := some_eq h
      refine fin_slots [4] [.int .i64 x15] [] [] Try.results59 rfl (by decide) rfl ?_
      exact ⟨rfl, rfl⟩
    ·replace h := cond_f h hc38
     refine run_skip ?_
     refine goes_code ?_
     refine run_seq ?_
     refine run_seq ?_
     refine run_region' ?_
     refine oy rfl rfl (y_move rfl) ?_
     refine oy rfl rfl (y_eql rfl rfl) ?_
     refine oy rfl rfl (y_move rfl) ?_
     refine ops_cut 3 (Bool) (fun σ => [(0, .int .i64 op_0), (6, .int .i64 x15), (69, .bool σ)]) (fun σ => []) (fun σ => σ = (decide (op_0 = 15) || decide (op_0 = 16))) (fun L40 hL41 => ?_) ?_
     ·refine ops_split 66 (decide (op_0 = 15)) rfl (fun hg42 => ?_) (fun hg42 => ?_)
      ·skip
       refine ops_no 2 false 66 rfl rfl rfl rfl rfl ?_
       refine ops_no 2 false 66 rfl rfl rfl rfl rfl ?_
       refine oy rfl rfl (y_pick (b := true) rfl rfl) ?_
       refine ops_nil ?_
       exact goes_cut hL41 true [] (qv3 rfl rfl rfl) (by decide) rfl (by rw [hg42]; simp)
      ·skip
       refine ops_y (wg 2 false 66 rfl rfl rfl rfl) rfl (y_move rfl) ?_
       refine ops_y (wg 2 false 66 rfl rfl rfl rfl) rfl (y_eql rfl rfl) ?_
       refine oy rfl rfl (y_pick (b := false) rfl rfl) ?_
       refine ops_nil ?_
       exact goes_cut hL41 (decide (op_0 = 16)) [] (qv3 rfl rfl rfl) (by decide) rfl (by rw [hg42]; simp)
     rintro _ rfl
     refine oy rfl rfl (y_move rfl) ?_
     refine ops_cut 3 (Bool) (fun σ => [(0, .int .i64 op_0), (6, .int .i64 x15), (73, .bool σ)]) (fun σ => []) (fun σ => σ = ((decide (op_0 = 15) || decide (op_0 = 16)) || decide (op_0 = 17))) (fun L43 hL44 => ?_) ?_
     ·refine ops_split 70 (decide (op_0 = 15) || decide (op_0 = 16)) rfl (fun hg45 => ?_) (fun hg45 => ?_)
      ·skip
       refine ops_no 6 false 70 rfl rfl rfl rfl rfl ?_
       refine ops_no 6 false 70 rfl rfl rfl rfl rfl ?_
       refine oy rfl rfl (y_pick (b := true) rfl rfl) ?_
       refine ops_nil ?_
       exact goes_cut hL44 true [] (qv3 rfl rfl rfl) (by decide) rfl (by rw [hg45]; simp)
      ·skip
       refine ops_y (wg 6 false 70 rfl rfl rfl rfl) rfl (y_move rfl) ?_
       refine ops_y (wg 6 false 70 rfl rfl rfl rfl) rfl (y_eql rfl rfl) ?_
       refine oy rfl rfl (y_pick (b := false) rfl rfl) ?_
       refine ops_nil ?_
       exact goes_cut hL44 (decide (op_0 = 17)) [] (qv3 rfl rfl rfl) (by decide) rfl (by rw [hg45]; simp)
     rintro _ rfl
     refine oy rfl rfl (y_move rfl) ?_
     refine ops_cut 3 (Bool) (fun σ => [(0, .int .i64 op_0), (6, .int .i64 x15), (77, .bool σ)]) (fun σ => []) (fun σ => σ = (((decide (op_0 = 15) || decide (op_0 = 16)) || decide (op_0 = 17)) || decide (op_0 = 18))) (fun L46 hL47 => ?_) ?_
     ·refine ops_split 74 ((decide (op_0 = 15) || decide (op_0 = 16)) || decide (op_0 = 17)) rfl (fun hg48 => ?_) (fun hg48 => ?_)
      ·skip
       refine ops_no 10 false 74 rfl rfl rfl rfl rfl ?_
       refine ops_no 10 false 74 rfl rfl rfl rfl rfl ?_
       refine oy rfl rfl (y_pick (b := true) rfl rfl) ?_
       refine ops_nil ?_
       exact goes_cut hL47 true [] (qv3 rfl rfl rfl) (by decide) rfl (by rw [hg48]; simp)
      ·skip
       refine ops_y (wg 10 false 74 rfl rfl rfl rfl) rfl (y_move rfl) ?_
       refine ops_y (wg 10 false 74 rfl rfl rfl rfl) rfl (y_eql rfl rfl) ?_
       refine oy rfl rfl (y_pick (b := false) rfl rfl) ?_
       refine ops_nil ?_
       exact goes_cut hL47 (decide (op_0 = 18)) [] (qv3 rfl rfl rfl) (by decide) rfl (by rw [hg48]; simp)
     rintro _ rfl
     refine ops_nil ?_
     refine goes_code ?_
     refine run_cond (((decide (op_0 = 15) || decide (op_0 = 16)) || decide (op_0 = 17)) || decide (op_0 = 18)) rfl (fun hc49 => ?_) (fun hc49 => ?_)
     ·replace h := cond_t h hc49
      refine run_seq ?_
      refine run_seq ?_
      refine run_region' ?_
      refine oy rfl rfl (y_move rfl) ?_
      refine oy rfl rfl (y_eql rfl rfl) ?_
      refine ops_nil ?_
      refine goes_code ?_
      refine run_cond (decide (x15 = 3)) rfl (fun hc50 => ?_) (fun hc50 => ?_)
      ·replace h := cond_t h hc50
       refine run_seq ?_
       refine run_region' ?_
       refine oy rfl rfl (y_assign rfl) ?_
       refine ops_nil ?_
       refine goes_code ?_
       refine run_ret ?_
       obtain rfl := some_eq h
       refine fin_slots [4] [.int .i64 0] [] [] Try.results59 rfl (by decide) rfl ?_
       exact ⟨rfl, rfl⟩
      ·replace h := cond_f h hc50
       refine run_skip ?_
       refine goes_code ?_
       refine run_seq ?_
       refine run_region' ?_
       refine oy rfl rfl (y_assign rfl) ?_
       refine ops_nil ?_
       refine goes_code ?_
       refine run_ret ?_
       obtain rfl := some_eq h
       refine fin_slots [4] [.int .i64 3] [] [] Try.results59 rfl (by decide) rfl ?_
       exact ⟨rfl, rfl⟩
     ·replace h := cond_f h hc49
      refine run_skip ?_
      refine goes_code ?_
      refine run_seq ?_
      refine run_seq ?_
      refine run_region' ?_
      refine oy rfl rfl (y_move rfl) ?_
      refine oy rfl rfl (y_eql rfl rfl) ?_
      refine oy rfl rfl (y_move rfl) ?_
      refine ops_cut 3 (Bool) (fun σ => [(0, .int .i64 op_0), (85, .bool σ)]) (fun σ => []) (fun σ => σ = (decide (op_0 = 19) || decide (op_0 = 20))) (fun L51 hL52 => ?_) ?_
      ·refine ops_split 82 (decide (op_0 = 19)) rfl (fun hg53 => ?_) (fun hg53 => ?_)
       ·skip
        refine ops_no 2 false 82 rfl rfl rfl rfl rfl ?_
        refine ops_no 2 false 82 rfl rfl rfl rfl rfl ?_
        refine oy rfl rfl (y_pick (b := true) rfl rfl) ?_
        refine ops_nil ?_
        exact goes_cut hL52 true [] (qv2 rfl rfl) (by decide) rfl (by rw [hg53]; simp)
       ·skip
        refine ops_y (wg 2 false 82 rfl rfl rfl rfl) rfl (y_move rfl) ?_
        refine ops_y (wg 2 false 82 rfl rfl rfl rfl) rfl (y_eql rfl rfl) ?_
        refine oy rfl rfl (y_pick (b := false) rfl rfl) ?_
        refine ops_nil ?_
        exact goes_cut hL52 (decide (op_0 = 20)) [] (qv2 rfl rfl) (by decide) rfl (by rw [hg53]; simp)
      rintro _ rfl
      refine oy rfl rfl (y_move rfl) ?_
      refine ops_cut 3 (Bool) (fun σ => [(89, .bool σ)]) (fun σ => []) (fun σ => σ = ((decide (op_0 = 19) || decide (op_0 = 20)) || decide (op_0 = 23))) (fun L54 hL55 => ?_) ?_
      ·refine ops_split 86 (decide (op_0 = 19) || decide (op_0 = 20)) rfl (fun hg56 => ?_) (fun hg56 => ?_)
       ·skip
        refine ops_no 6 false 86 rfl rfl rfl rfl rfl ?_
        refine ops_no 6 false 86 rfl rfl rfl rfl rfl ?_
        refine oy rfl rfl (y_pick (b := true) rfl rfl) ?_
        refine ops_nil ?_
        exact goes_cut hL55 true [] (qv1 rfl) (by decide) rfl (by rw [hg56]; simp)
       ·skip
        refine ops_y (wg 6 false 86 rfl rfl rfl rfl) rfl (y_move rfl) ?_
        refine ops_y (wg 6 false 86 rfl rfl rfl rfl) rfl (y_eql rfl rfl) ?_
        refine oy rfl rfl (y_pick (b := false) rfl rfl) ?_
        refine ops_nil ?_
        exact goes_cut hL55 (decide (op_0 = 23)) [] (qv1 rfl) (by decide) rfl (by rw [hg56]; simp)
      rintro _ rfl
      refine ops_nil ?_
      refine goes_code ?_
      refine run_cond ((decide (op_0 = 19) || decide (op_0 = 20)) || decide (op_0 = 23)) rfl (fun hc57 => ?_) (fun hc57 => ?_)
      ·replace h := cond_t h hc57
       refine run_seq ?_
       refine run_region' ?_
       refine oy rfl rfl (y_assign rfl) ?_
       refine ops_nil ?_
       refine goes_code ?_
       refine run_ret ?_
       obtain rfl := some_eq h
       refine fin_slots [4] [.int .i64 3] [] [] Try.results59 rfl (by decide) rfl ?_
       exact ⟨rfl, rfl⟩
      ·replace h := cond_f h hc57
       refine run_skip ?_
       refine goes_code ?_
       refine run_seq ?_
       refine run_region' ?_
       refine oy rfl rfl (y_assign rfl) ?_
       refine ops_nil ?_
       refine goes_code ?_
       refine run_ret ?_
       obtain rfl := some_eq h
       refine fin_slots [4] [.int .i64 0] [] [] Try.results59 rfl (by decide) rfl ?_
       exact ⟨rfl, rfl⟩

end Go.Proofs.Ytgjdaamkfpbgpaa
