/-
  Functions that the law CompileMakesAsSpecified needs, lifted.
-/
import Derived.Test.YtgjdaamkfpbgpaaG3c
namespace Go.Proofs.Ytgjdaamkfpbgpaa
open Go.Abs
set_option linter.unusedVariables false
set_option linter.unusedSimpArgs false
set_option maxRecDepth 20000
set_option maxHeartbeats 4000000

def ref28_expr_v4_L1 (x_1 : S_api_TExpr) (rec_ref28_expr_v4 : (List S_api_Instr) → S_api_TExpr → Option ((List S_api_Instr))) : ((List S_api_Instr) × Int) → Option (Lp ((List S_api_Instr) × Int) (Lp ((List S_api_Instr)) ((List S_api_Instr)))) :=
 fun (out_8, i_9) =>
  cond (decide (i_9 < (x_1.Args.length : Int)))
   (idx x_1.Args i_9 fun x16 =>
   obind (rec_ref28_expr_v4 out_8 x16) fun r18 =>
   some (.go (r18, (IntKind.i64.wrap (i_9 + 1)))))
   (some (.stop (.go out_8)))
def ref28_expr_v4_body (n : Nat) (rec_ref28_expr_v4 : (List S_api_Instr) → S_api_TExpr → Option ((List S_api_Instr))) (out_0 : (List S_api_Instr)) (x_1 : S_api_TExpr) : Option ((List S_api_Instr)) :=
 bindJ (S := (List S_api_Instr))
  (iter (ref28_expr_v4_L1 x_1 rec_ref28_expr_v4) n (out_0, 0))
 (fun out_2 =>
  bindJ (S := Int)
   (cond (decide (x_1.Op = 1))
    (some (.go x_1.N))
    (some (.go 0)))
  (fun x_22 =>
   bindJ (S := (List UInt8))
    (cond (decide (x_1.Op = 2) || decide (x_1.Op = 6))
     (some (.go x_1.S))
     (some (.go [])))
   (fun x_28 =>
    bindJ (S := Int)
     (cond (decide (x_1.Op = 3))
      (some (.go x_1.Slot))
      (some (.go x_22)))
    (fun x_37 =>
     bindJ (S := Int)
      (cond (decide (x_1.Op = 23))
       (some (.go (x_1.Args.length : Int)))
       (some (.go x_37)))
     (fun x_43 =>
      need (out_2.length + ([(S_api_Instr.mk x_1.Op x_43 x_28)] : List S_api_Instr).length ≤ 4294967296) (
      some (out_2 ++ ([(S_api_Instr.mk x_1.Op x_43 x_28)] : List S_api_Instr))))))))
theorem ref28_expr_v4_body_ok (n : Nat) (rec_ref28_expr_v4 : (List S_api_Instr) → S_api_TExpr → Option ((List S_api_Instr))) (hrec_ref28_expr_v4 : ∀ (out_0 : (List S_api_Instr)) (x_1 : S_api_TExpr) (out_0v : Value) (x_1_Argsv : Value) {r : (List S_api_Instr)}, rec_ref28_expr_v4 out_0 x_1 = some r → Meets Try.prog 61 [out_0v, .agg #[.int .i64 x_1.Op, .int .i64 x_1.Type_, .int .i64 x_1.N, .int .i64 x_1.Slot, .string (bs x_1.S), x_1_Argsv]] [row out_0v 3 (out_0.map S_api_Instr.enc), nro x_1_Argsv NC_api_TExpr_48 x_1.Args] (fun v G => ∃ v0, v = v0 ∧ G = [row v0 3 (r.map S_api_Instr.enc)])) (out_0 : (List S_api_Instr)) (x_1 : S_api_TExpr) (out_0v : Value) (x_1_Argsv : Value) {r : (List S_api_Instr)} (h : ref28_expr_v4_body n rec_ref28_expr_v4 out_0 x_1 = some r) :
  Meets Try.prog 61 [out_0v, .agg #[.int .i64 x_1.Op, .int .i64 x_1.Type_, .int .i64 x_1.N, .int .i64 x_1.Slot, .string (bs x_1.S), x_1_Argsv]] [row out_0v 3 (out_0.map S_api_Instr.enc), nro x_1_Argsv NC_api_TExpr_48 x_1.Args] (fun v G => ∃ v0, v = v0 ∧ G = [row v0 3 (r.map S_api_Instr.enc)]) := by
 refine fn_of_run Try.func61 rfl Try.ntmps61 rfl (fun w0 o0 => ?_)
 refine run_seq ?_
 refine run_region' ?_
 refine ot rfl rfl (t_box rfl) ?_
 rintro _ _ ⟨b1, rfl, rfl⟩
 refine oy rfl rfl (y_assign rfl) ?_
 refine ops_nil ?_
 refine goes_code ?_
 obtain ⟨o4, h, ho5⟩ := bindJ_some h
 refine run_cut (((List S_api_Instr)) × (Value)) (fun σ => [(0, σ.2), (3, boxP b1 0)]) (fun σ => [row σ.2 3 (σ.1.map S_api_Instr.enc), box b1 [.int .i64 x_1.Op, .int .i64 x_1.Type_, .int .i64 x_1.N, .int .i64 x_1.Slot, .string (bs x_1.S), x_1_Argsv], nro x_1_Argsv NC_api_TExpr_48 x_1.Args]) (fun σ => o4 = .go σ.1) (fun L7 hL6 => ?_) ?_
 ·
  refine run_seq ?_
  refine run_region' ?_
  refine oy rfl rfl (y_assign rfl) ?_
  refine ops_nil ?_
  refine goes_code ?_
  refine run_block ?_
  refine run_iter (step := ref28_expr_v4_L1 x_1 rec_ref28_expr_v4) (n := n) (s0 := (out_0, 0)) h (G := Value) out_0v (fun σ γ => [(0, γ), (5, .int .i64 σ.2), (3, boxP b1 0)]) (fun σ γ => [row γ 3 (σ.1.map S_api_Instr.enc), box b1 [.int .i64 x_1.Op, .int .i64 x_1.Type_, .int .i64 x_1.N, .int .i64 x_1.Slot, .string (bs x_1.S), x_1_Argsv], nro x_1_Argsv NC_api_TExpr_48 x_1.Args]) [0, 2, 1] (qv3 rfl rfl rfl) (by decide) rfl ?_
  rintro ⟨out_8, i_9⟩ v10 o11 h L14 hgo12 hstop13
  change Run _ _ _ (VF.of [(0, v10), (5, .int .i64 i_9), (3, boxP b1 0)]) [row v10 3 (out_8.map S_api_Instr.enc), box b1 [.int .i64 x_1.Op, .int .i64 x_1.Type_, .int .i64 x_1.N, .int .i64 x_1.Slot, .string (bs x_1.S), x_1_Argsv], nro x_1_Argsv NC_api_TExpr_48 x_1.Args]
  refine run_seq ?_
  refine run_seq ?_
  refine run_region' ?_
  refine oy rfl rfl (y_move rfl) ?_
  refine oy rfl rfl (y_fieldAddr_box (sz := 0) Try.runUnderlying48 rfl Try.sizeOf46 rfl) ?_
  refine oy rfl rfl (y_load_box 1 Try.isAgg46 rfl rfl rfl) ?_
  refine oy rfl rfl (y_lenN 2 rfl Try.runUnderlying46 rfl rfl readsN_ro) ?_
  refine oy rfl rfl (y_lss rfl rfl) ?_
  refine ops_nil ?_
  refine goes_code ?_
  refine run_cond (decide (i_9 < (x_1.Args.length : Int))) rfl (fun hc15 => ?_) (fun hc15 => ?_)
  ·replace h := cond_t h hc15
   refine run_skip ?_
   refine goes_code ?_
   refine run_seq ?_
   refine run_block ?_
   refine run_region' ?_
   refine oy rfl rfl (y_move rfl) ?_
   refine oy rfl rfl (y_fieldAddr_box (sz := 0) Try.runUnderlying48 rfl Try.sizeOf46 rfl) ?_
   refine oy rfl rfl (y_load_box 1 Try.isAgg46 rfl rfl rfl) ?_
   refine oy rfl rfl (y_move rfl) ?_
   obtain ⟨x16, hzx16, hlx16, hxx16, h⟩ := idx_some h
   refine oy rfl rfl (y_indexAddrN (kd := .i64) (i := i_9) 2 Try.runUnderlying46 Try.sizeOf48 rfl rfl rfl readsN_ro hzx16 hlx16) ?_
   refine ops_ex (exAtT (T := T_api_TExpr_48) (i := i_9.toNat) 2 rfl hxx16) ?_
   rintro g17
   refine oy rfl rfl (y_load_atagg (n := i_9.toNat * 6) (j := 0) (c := [.int .i64 x16.Op, .int .i64 x16.Type_, .int .i64 x16.N, .int .i64 x16.Slot, .string (bs x16.S), g17]) 3 Try.isAgg48 Try.sizeOf48 rfl rfl rfl) ?_
   obtain ⟨r18, hr19, h⟩ := obind_some h
   refine ot rfl rfl (t_callx (vs := [v10, .agg #[.int .i64 x16.Op, .int .i64 x16.Type_, .int .i64 x16.N, .int .i64 x16.Slot, .string (bs x16.S), g17]]) (cs := []) [(0, 2), (4, 0)] rfl Try.call61 rfl (hrec_ref28_expr_v4  out_8 x16 v10 g17 hr19) (showsX_lend 0 rfl (showsX_view 4 rfl views_nro showsX_nil)) rfl (.inl rfl)) ?_
   rintro v20 _ ⟨_, ⟨_, rfl, rfl⟩, rfl⟩
   refine oy rfl rfl (y_assign rfl) ?_
   refine ops_nil ?_
   refine goes_blk ?_
   refine goes_code ?_
   refine run_weak [(0, v20), (5, .int .i64 i_9), (3, boxP b1 0)] [1, 2, 5] [box b1 [.int .i64 x_1.Op, .int .i64 x_1.Type_, .int .i64 x_1.N, .int .i64 x_1.Slot, .string (bs x_1.S), x_1_Argsv], nro x_1_Argsv NC_api_TExpr_48 x_1.Args, row v20 3 (r18.map S_api_Instr.enc)] (qv3 rfl rfl rfl) (by decide) rfl ?_
   refine run_region' ?_
   refine oy rfl rfl (y_move rfl) ?_
   refine oy rfl rfl (y_add rfl rfl) ?_
   refine oy rfl rfl (y_assign rfl) ?_
   refine ops_nil ?_
   obtain rfl := some_eq h
   exact goes_iter hgo12 (r18, (IntKind.i64.wrap (i_9 + 1))) v20 [2, 0, 1] rfl (qv3 rfl rfl rfl) (by decide) rfl
  ·replace h := cond_f h hc15
   refine run_exit _ rfl ?_
   obtain rfl := some_eq h
   obtain rfl := hstop13 _ rfl
   exact goes_cut hL6 (out_8, v10) [0, 1, 2] (qv2 rfl rfl) (by decide) rfl rfl
 rintro ⟨out_2, v3⟩ hj
 obtain rfl : o4 = _ := hj
 replace h := after_go ho5
 clear ho5
 change Run _ _ _ (VF.of [(0, v3), (3, boxP b1 0)]) [row v3 3 (out_2.map S_api_Instr.enc), box b1 [.int .i64 x_1.Op, .int .i64 x_1.Type_, .int .i64 x_1.N, .int .i64 x_1.Slot, .string (bs x_1.S), x_1_Argsv], nro x_1_Argsv NC_api_TExpr_48 x_1.Args]
 refine run_seq ?_
 refine run_region' ?_
 refine oy rfl rfl (y_fieldAddr_box (sz := 0) Try.runUnderlying48 rfl Try.sizeOf3 rfl) ?_
 refine oy rfl rfl (y_load_box 1 Try.isAgg3 rfl rfl rfl) ?_
 refine oy rfl rfl (y_build_struct (cells := #[.int .i64 x_1.Op, .int .i64 0, .string (bs [])]) [(0, .int .i64 x_1.Op)] [(0, [.int .i64 x_1.Op])] Try.zeroValue55 Try.runUnderlying55 (fs_cons Try.sizeOf3 (fs_cons Try.sizeOf3 (fs_cons Try.sizeOf9 fs_nil))) rfl rfl rfl) ?_
 refine ot rfl rfl (t_alloc Try.zeroValue55) ?_
 rintro _ _ ⟨b21, rfl, rfl⟩
 refine ot rfl rfl (t_store 3 Try.sizeOf55 rfl rfl rfl rfl (by simp [Value.cells, boxP]) (by simp [Value.cells, Value.oneCell', boxP])) ?_
 rintro _ _ ⟨rfl, rfl⟩
 refine ops_turn (retell 3 (g := box b21 [.int .i64 x_1.Op, .int .i64 0, .string (bs [])]) rfl rfl) ?_
 refine ops_nil ?_
 refine goes_code ?_
 obtain ⟨o23, h, ho24⟩ := bindJ_some h
 refine run_cut ((Int) × (Unit)) (fun σ => [(0, v3), (3, boxP b1 0), (6, boxP b21 0)]) (fun σ => [row v3 3 (out_2.map S_api_Instr.enc), box b1 [.int .i64 x_1.Op, .int .i64 x_1.Type_, .int .i64 x_1.N, .int .i64 x_1.Slot, .string (bs x_1.S), x_1_Argsv], nro x_1_Argsv NC_api_TExpr_48 x_1.Args, box b21 [.int .i64 x_1.Op, .int .i64 σ.1, .string (bs [])]]) (fun σ => o23 = .go σ.1) (fun L26 hL25 => ?_) ?_
 ·
  refine run_seq ?_
  refine run_region' ?_
  refine oy rfl rfl (y_fieldAddr_box (sz := 0) Try.runUnderlying48 rfl Try.sizeOf3 rfl) ?_
  refine oy rfl rfl (y_load_box 1 Try.isAgg3 rfl rfl rfl) ?_
  refine oy rfl rfl (y_eql rfl rfl) ?_
  refine ops_nil ?_
  refine goes_code ?_
  refine run_cond (decide (x_1.Op = 1)) rfl (fun hc27 => ?_) (fun hc27 => ?_)
  ·replace h := cond_t h hc27
   refine run_weak [(0, v3), (3, boxP b1 0), (6, boxP b21 0)] [0, 1, 2, 3] [row v3 3 (out_2.map S_api_Instr.enc), box b1 [.int .i64 x_1.Op, .int .i64 x_1.Type_, .int .i64 x_1.N, .int .i64 x_1.Slot, .string (bs x_1.S), x_1_Argsv], nro x_1_Argsv NC_api_TExpr_48 x_1.Args, box b21 [.int .i64 x_1.Op, .int .i64 0, .string (bs [])]] (qv3 rfl rfl rfl) (by decide) rfl ?_
   refine run_region' ?_
   refine oy rfl rfl (y_fieldAddr_box (sz := 0) Try.runUnderlying48 rfl Try.sizeOf3 rfl) ?_
   refine oy rfl rfl (y_load_box 1 Try.isAgg3 rfl rfl rfl) ?_
   refine oy rfl rfl (y_fieldAddr_box (sz := 0) Try.runUnderlying55 rfl Try.sizeOf3 rfl) ?_
   refine ot rfl rfl (t_store 3 Try.sizeOf3 rfl rfl rfl rfl (by simp [Value.cells, boxP]) (by simp [Value.cells, Value.oneCell', boxP])) ?_
   rintro _ _ ⟨rfl, rfl⟩
   refine ops_turn (retell 3 (g := box b21 [.int .i64 x_1.Op, .int .i64 x_1.N, .string (bs [])]) rfl rfl) ?_
   refine ops_nil ?_
   obtain rfl := some_eq h
   exact goes_cut hL25 (x_1.N, ()) [0, 1, 2, 3] (qv3 rfl rfl rfl) (by decide) rfl rfl
  ·replace h := cond_f h hc27
   refine run_skip ?_
   obtain rfl := some_eq h
   exact goes_cut hL25 (0, ()) [0, 1, 2, 3] (qv3 rfl rfl rfl) (by decide) rfl rfl
 rintro ⟨x_22, _⟩ hj
 obtain rfl : o23 = _ := hj
 replace h := after_go ho24
 clear ho24
 change Run _ _ _ (VF.of [(0, v3), (3, boxP b1 0), (6, boxP b21 0)]) [row v3 3 (out_2.map S_api_Instr.enc), box b1 [.int .i64 x_1.Op, .int .i64 x_1.Type_, .int .i64 x_1.N, .int .i64 x_1.Slot, .string (bs x_1.S), x_1_Argsv], nro x_1_Argsv NC_api_TExpr_48 x_1.Args, box b21 [.int .i64 x_1.Op, .int .i64 x_22, .string (bs [])]]
 obtain ⟨o29, h, ho30⟩ := bindJ_some h
 refine run_cut (((List UInt8)) × (Unit)) (fun σ => [(0, v3), (3, boxP b1 0), (6, boxP b21 0)]) (fun σ => [row v3 3 (out_2.map S_api_Instr.enc), box b1 [.int .i64 x_1.Op, .int .i64 x_1.Type_, .int .i64 x_1.N, .int .i64 x_1.Slot, .string (bs x_1.S), x_1_Argsv], nro x_1_Argsv NC_api_TExpr_48 x_1.Args, box b21 [.int .i64 x_1.Op, .int .i64 x_22, .string (bs σ.1)]]) (fun σ => o29 = .go σ.1) (fun L32 hL31 => ?_) ?_
 ·
  refine run_seq ?_
  refine run_region' ?_
  refine oy rfl rfl (y_fieldAddr_box (sz := 0) Try.runUnderlying48 rfl Try.sizeOf3 rfl) ?_
  refine oy rfl rfl (y_load_box 1 Try.isAgg3 rfl rfl rfl) ?_
  refine oy rfl rfl (y_eql rfl rfl) ?_
  refine oy rfl rfl (y_move rfl) ?_
  refine ops_cut 4 (Bool) (fun σ => [(0, v3), (3, boxP b1 0), (6, boxP b21 0), (37, .bool σ)]) (fun σ => [row v3 3 (out_2.map S_api_Instr.enc), box b1 [.int .i64 x_1.Op, .int .i64 x_1.Type_, .int .i64 x_1.N, .int .i64 x_1.Slot, .string (bs x_1.S), x_1_Argsv], nro x_1_Argsv NC_api_TExpr_48 x_1.Args, box b21 [.int .i64 x_1.Op, .int .i64 x_22, .string (bs [])]]) (fun σ => σ = (decide (x_1.Op = 2) || decide (x_1.Op = 6))) (fun L33 hL34 => ?_) ?_
  ·refine ops_split 33 (decide (x_1.Op = 2)) rfl (fun hg35 => ?_) (fun hg35 => ?_)
   ·skip
    refine ops_no 3 false 33 rfl rfl rfl rfl rfl ?_
    refine ops_no 3 false 33 rfl rfl rfl rfl rfl ?_
    refine ops_no 3 false 33 rfl rfl rfl rfl rfl ?_
    refine oy rfl rfl (y_pick (b := true) rfl rfl) ?_
    refine ops_nil ?_
    exact goes_cut hL34 true [0, 1, 2, 3] (qv4 rfl rfl rfl rfl) (by decide) rfl (by rw [hg35]; simp)
   ·skip
    refine ops_y (wg 3 false 33 rfl rfl rfl rfl) rfl (y_fieldAddr_box (sz := 0) Try.runUnderlying48 rfl Try.sizeOf3 rfl) ?_
    refine ops_y (wg 3 false 33 rfl rfl rfl rfl) rfl (y_load_box 1 Try.isAgg3 rfl rfl rfl) ?_
    refine ops_y (wg 3 false 33 rfl rfl rfl rfl) rfl (y_eql rfl rfl) ?_
    refine oy rfl rfl (y_pick (b := false) rfl rfl) ?_
    refine ops_nil ?_
    exact goes_cut hL34 (decide (x_1.Op = 6)) [0, 1, 2, 3] (qv4 rfl rfl rfl rfl) (by decide) rfl (by rw [hg35]; simp)
  rintro _ rfl
  refine ops_nil ?_
  refine goes_code ?_
  refine run_cond (decide (x_1.Op = 2) || decide (x_1.Op = 6)) rfl (fun hc36 => ?_) (fun hc36 => ?_)
  ·replace h := cond_t h hc36
   refine run_region' ?_
   refine oy rfl rfl (y_fieldAddr_box (sz := 0) Try.runUnderlying48 rfl Try.sizeOf9 rfl) ?_
   refine oy rfl rfl (y_load_box 1 Try.isAgg9 rfl rfl rfl) ?_
   refine oy rfl rfl (y_fieldAddr_box (sz := 0) Try.runUnderlying55 rfl Try.sizeOf9 rfl) ?_
   refine ot rfl rfl (t_store 3 Try.sizeOf9 rfl rfl rfl rfl (by simp [Value.cells, boxP]) (by simp [Value.cells, Value.oneCell', boxP])) ?_
   rintro _ _ ⟨rfl, rfl⟩
   refine ops_turn (retell 3 (g := box b21 [.int .i64 x_1.Op, .int .i64 x_22, .string (bs x_1.S)]) rfl rfl) ?_
   refine ops_nil ?_
   obtain rfl := some_eq h
   exact goes_cut hL31 (x_1.S, ()) [0, 1, 2, 3] (qv3 rfl rfl rfl) (by decide) rfl rfl
  ·replace h := cond_f h hc36
   refine run_skip ?_
   obtain rfl := some_eq h
   exact goes_cut hL31 ([], ()) [0, 1, 2, 3] (qv3 rfl rfl rfl) (by decide) rfl rfl
 rintro ⟨x_28, _⟩ hj
 obtain rfl : o29 = _ := hj
 replace h := after_go ho30
 clear ho30
 change Run _ _ _ (VF.of [(0, v3), (3, boxP b1 0), (6, boxP b21 0)]) [row v3 3 (out_2.map S_api_Instr.enc), box b1 [.int .i64 x_1.Op, .int .i64 x_1.Type_, .int .i64 x_1.N, .int .i64 x_1.Slot, .string (bs x_1.S), x_1_Argsv], nro x_1_Argsv NC_api_TExpr_48 x_1.Args, box b21 [.int .i64 x_1.Op, .int .i64 x_22, .string (bs x_28)]]
 obtain ⟨o38, h, ho39⟩ := bindJ_some h
 refine run_cut ((Int) × (Unit)) (fun σ => [(0, v3), (3, boxP b1 0), (6, boxP b21 0)]) (fun σ => [row v3 3 (out_2.map S_api_Instr.enc), box b1 [.int .i64 x_1.Op, .int .i64 x_1.Type_, .int .i64 x_1.N, .int .i64 x_1.Slot, .string (bs x_1.S), x_1_Argsv], nro x_1_Argsv NC_api_TExpr_48 x_1.Args, box b21 [.int .i64 x_1.Op, .int .i64 σ.1, .string (bs x_28)]]) (fun σ => o38 = .go σ.1) (fun L41 hL40 => ?_) ?_
 ·
  refine run_seq ?_
  refine run_region' ?_
  refine oy rfl rfl (y_fieldAddr_box (sz := 0) Try.runUnderlying48 rfl Try.sizeOf3 rfl) ?_
  refine oy rfl rfl (y_load_box 1 Try.isAgg3 rfl rfl rfl) ?_
  refine oy rfl rfl (y_eql rfl rfl) ?_
  refine ops_nil ?_
  refine goes_code ?_
  refine run_cond (decide (x_1.Op = 3)) rfl (fun hc42 => ?_) (fun hc42 => ?_)
  ·replace h := cond_t h hc42
   refine run_region' ?_
   refine oy rfl rfl (y_fieldAddr_box (sz := 0) Try.runUnderlying48 rfl Try.sizeOf3 rfl) ?_
   refine oy rfl rfl (y_load_box 1 Try.isAgg3 rfl rfl rfl) ?_
   refine oy rfl rfl (y_fieldAddr_box (sz := 0) Try.runUnderlying55 rfl Try.sizeOf3 rfl) ?_
   refine ot rfl rfl (t_store 3 Try.sizeOf3 rfl rfl rfl rfl (by simp [Value.cells, boxP]) (by simp [Value.cells, Value.oneCell', boxP])) ?_
   rintro _ _ ⟨rfl, rfl⟩
   refine ops_turn (retell 3 (g := box b21 [.int .i64 x_1.Op, .int .i64 x_1.Slot, .string (bs x_28)]) rfl rfl) ?_
   refine ops_nil ?_
   obtain rfl := some_eq h
   exact goes_cut hL40 (x_1.Slot, ()) [0, 1, 2, 3] (qv3 rfl rfl rfl) (by decide) rfl rfl
  ·replace h := cond_f h hc42
   refine run_skip ?_
   obtain rfl := some_eq h
   exact goes_cut hL40 (x_22, ()) [0, 1, 2, 3] (qv3 rfl rfl rfl) (by decide) rfl rfl
 rintro ⟨x_37, _⟩ hj
 obtain rfl : o38 = _ := hj
 replace h := after_go ho39
 clear ho39
 change Run _ _ _ (VF.of [(0, v3), (3, boxP b1 0), (6, boxP b21 0)]) [row v3 3 (out_2.map S_api_Instr.enc), box b1 [.int .i64 x_1.Op, .int .i64 x_1.Type_, .int .i64 x_1.N, .int .i64 x_1.Slot, .string (bs x_1.S), x_1_Argsv], nro x_1_Argsv NC_api_TExpr_48 x_1.Args, box b21 [.int .i64 x_1.Op, .int .i64 x_37, .string (bs x_28)]]
 obtain ⟨o44, h, ho45⟩ := bindJ_some h
 refine run_cut ((Int) × (Unit)) (fun σ => [(0, v3), (6, boxP b21 0)]) (fun σ => [row v3 3 (out_2.map S_api_Instr.enc), box b21 [.int .i64 x_1.Op, .int .i64 σ.1, .string (bs x_28)]]) (fun σ => o44 = .go σ.1) (fun L47 hL46 => ?_) ?_
 ·
  refine run_seq ?_
  refine run_region' ?_
  refine oy rfl rfl (y_fieldAddr_box (sz := 0) Try.runUnderlying48 rfl Try.sizeOf3 rfl) ?_
  refine oy rfl rfl (y_load_box 1 Try.isAgg3 rfl rfl rfl) ?_
  refine oy rfl rfl (y_eql rfl rfl) ?_
  refine ops_nil ?_
  refine goes_code ?_
  refine run_cond (decide (x_1.Op = 23)) rfl (fun hc48 => ?_) (fun hc48 => ?_)
  ·replace h := cond_t h hc48
   refine run_region' ?_
   refine oy rfl rfl (y_fieldAddr_box (sz := 0) Try.runUnderlying48 rfl Try.sizeOf46 rfl) ?_
   refine oy rfl rfl (y_load_box 1 Try.isAgg46 rfl rfl rfl) ?_
   refine oy rfl rfl (y_lenN 2 rfl Try.runUnderlying46 rfl rfl readsN_ro) ?_
   refine oy rfl rfl (y_fieldAddr_box (sz := 0) Try.runUnderlying55 rfl Try.sizeOf3 rfl) ?_
   refine ot rfl rfl (t_store 3 Try.sizeOf3 rfl rfl rfl rfl (by simp [Value.cells, boxP]) (by simp [Value.cells, Value.oneCell', boxP])) ?_
   rintro _ _ ⟨rfl, rfl⟩
   refine ops_turn (retell 3 (g := box b21 [.int .i64 x_1.Op, .int .i64 (x_1.Args.length : Int), .string (bs x_28)]) rfl rfl) ?_
   refine ops_nil ?_
   obtain rfl := some_eq h
   exact goes_cut hL46 ((x_1.Args.length : Int), ()) [0, 3] (qv2 rfl rfl) (by decide) rfl rfl
  ·replace h := cond_f h hc48
   refine run_skip ?_
   obtain rfl := some_eq h
   exact goes_cut hL46 (x_37, ()) [0, 3] (qv2 rfl rfl) (by decide) rfl rfl
 rintro ⟨x_43, _⟩ hj
 obtain rfl : o44 = _ := hj
 replace h := after_go ho45
 clear ho45
 change Run _ _ _ (VF.of [(0, v3), (6, boxP b21 0)]) [row v3 3 (out_2.map S_api_Instr.enc), box b21 [.int .i64 x_1.Op, .int .i64 x_43, .string (bs x_28)]]
 refine run_seq ?_
 refine run_region' ?_
 refine oy rfl rfl (y_move rfl) ?_
 refine oy rfl rfl (y_load_boxagg (c := [.int .i64 x_1.Op, .int .i64 x_43, .string (bs x_28)]) 1 Try.isAgg55 Try.sizeOf55 rfl rfl rfl) ?_
 refine ot rfl rfl (t_lit [.agg #[.int .i64 x_1.Op, .int .i64 x_43, .string (bs x_28)]] Try.runUnderlying29 Try.sizeOf55 Try.zeroValue55 rfl (by decide) (by decide) rfl (by simp [Value.cells, boxP])) ?_
 rintro v49 _ ⟨rfl, _⟩
 refine ops_turn (retell 2 (g := row v49 3 (([(S_api_Instr.mk x_1.Op x_43 x_28)] : List S_api_Instr).map S_api_Instr.enc)) rfl rfl) ?_
 obtain ⟨hr51, h⟩ := need_some h
 refine ot rfl rfl (t_append (es := 3) 0 rfl Try.runUnderlying29 rfl Try.runUnderlying29 (.inr ⟨_, rfl⟩) Try.typeInfo55 rfl (by decide) Try.zeroValue55 rfl rfl rfl rfl (src_reads 2 rfl reads_row (map_ok S_api_Instr.enc_ok _)) (map_room hr51 (by decide)) (map_fit hr51)) ?_
 rintro v50 _ rfl
 refine ops_turn (retell 0 (g := row v50 3 ((out_2 ++ ([(S_api_Instr.mk x_1.Op x_43 x_28)] : List S_api_Instr)).map S_api_Instr.enc)) rfl (congrArg (row _ _) List.map_append.symm)) ?_
 refine oy rfl rfl (y_assign rfl) ?_
 refine ops_nil ?_
 refine goes_code ?_
 refine run_ret ?_
 obtain rfl := some_eq h
 refine fin_slots [4] [v50] [0] [row v50 3 ((out_2 ++ ([(S_api_Instr.mk x_1.Op x_43 x_28)] : List S_api_Instr)).map S_api_Instr.enc)] Try.results61 rfl (by decide) rfl ?_
 exact ⟨_, rfl, rfl⟩
def ref28_expr_v4 : Nat → (List S_api_Instr) → S_api_TExpr → Option ((List S_api_Instr))
 | 0 => fun _ _ => none
 | n + 1 => ref28_expr_v4_body n  (ref28_expr_v4 n )
theorem ref28_expr_v4_ok (n : Nat)  : ∀ (out_0 : (List S_api_Instr)) (x_1 : S_api_TExpr) (out_0v : Value) (x_1_Argsv : Value) {r : (List S_api_Instr)}, ref28_expr_v4 n  out_0 x_1 = some r → Meets Try.prog 61 [out_0v, .agg #[.int .i64 x_1.Op, .int .i64 x_1.Type_, .int .i64 x_1.N, .int .i64 x_1.Slot, .string (bs x_1.S), x_1_Argsv]] [row out_0v 3 (out_0.map S_api_Instr.enc), nro x_1_Argsv NC_api_TExpr_48 x_1.Args] (fun v G => ∃ v0, v = v0 ∧ G = [row v0 3 (r.map S_api_Instr.enc)]) := by
 induction n with
 | zero => intro out_0 x_1 out_0v x_1_Argsv r h; cases h
 | succ n ih => intro out_0 x_1 out_0v x_1_Argsv r h; exact ref28_expr_v4_body_ok n   (ref28_expr_v4 n ) (fun out_0 x_1 out_0v x_1_Argsv r h => ih out_0 x_1 out_0v x_1_Argsv h) out_0 x_1 out_0v x_1_Argsv h

def ref28_last (s_0 : S_api_TStmt) : Option (S_api_Instr) :=
 bindJ (S := Bool)
  (cond (decide (s_0.Kind = 1))
   (some (.go (decide (s_0.Kind = 1))))
   (some (.go (decide (s_0.Kind = 2)))))
 (fun s_3 =>
  cond s_3
   (some (S_api_Instr.mk 31 s_0.Slot []))
   (cond (decide (s_0.Kind = 3))
    (some (S_api_Instr.mk 32 0 s_0.Name))
    (cond (decide (s_0.Kind = 4))
     (some (S_api_Instr.mk 33 0 []))
     (cond (decide (s_0.Kind = 7))
      (some (S_api_Instr.mk 34 0 []))
      (cond (decide (s_0.Kind = 8))
       (some (S_api_Instr.mk 35 0 []))
       (some (S_api_Instr.mk 36 0 [])))))))
theorem ref28_last_ok (s_0 : S_api_TStmt) (s_0_X_Argsv : Value) (s_0_Bodyv : Value) (s_0_Elsev : Value) {r : S_api_Instr} (h : ref28_last s_0 = some r) :
  Meets Try.prog 62 [.agg #[.int .i64 s_0.Kind, .int .i64 s_0.Slot, .int .i64 s_0.N, .string (bs s_0.Name), .int .i64 s_0.X.Op, .int .i64 s_0.X.Type_, .int .i64 s_0.X.N, .int .i64 s_0.X.Slot, .string (bs s_0.X.S), s_0_X_Argsv, s_0_Bodyv, s_0_Elsev]] [nro s_0_X_Argsv NC_api_TExpr_48 s_0.X.Args, nro s_0_Bodyv NC_api_TStmt_50 s_0.Body, nro s_0_Elsev NC_api_TStmt_50 s_0.Else] (fun v G => v = .agg #[.int .i64 r.Op, .int .i64 r.A, .string (bs r.S)] ∧ G = []) := by
 refine fn_of_run Try.func62 rfl Try.ntmps62 rfl (fun w0 o0 => ?_)
 refine run_seq ?_
 refine run_region' ?_
 refine ot rfl rfl (t_box rfl) ?_
 rintro _ _ ⟨b1, rfl, rfl⟩
 refine ot rfl rfl (t_alloc Try.zeroValue55) ?_
 rintro _ _ ⟨b2, rfl, rfl⟩
 refine ops_nil ?_
 refine goes_code ?_
 refine run_seq ?_
 refine run_seq ?_
 refine run_region' ?_
 refine oy rfl rfl (y_fieldAddr_box (sz := 0) Try.runUnderlying50 rfl Try.sizeOf3 rfl) ?_
 refine oy rfl rfl (y_load_box 3 Try.isAgg3 rfl rfl rfl) ?_
 refine ops_nil ?_
 refine goes_code ?_
 refine run_block ?_
 obtain ⟨o4, h, ho5⟩ := bindJ_some h
 refine run_cut ((Bool) × (Unit)) (fun σ => [(5, .bool σ.1), (1, boxP b1 0), (2, boxP b2 0), (4, .int .i64 s_0.Kind)]) (fun σ => [box b1 [.int .i64 s_0.Kind, .int .i64 s_0.Slot, .int .i64 s_0.N, .string (bs s_0.Name), .int .i64 s_0.X.Op, .int .i64 s_0.X.Type_, .int .i64 s_0.X.N, .int .i64 s_0.X.Slot, .string (bs s_0.X.S), s_0_X_Argsv, s_0_Bodyv, s_0_Elsev], nro s_0_X_Argsv NC_api_TExpr_48 s_0.X.Args, nro s_0_Bodyv NC_api_TStmt_50 s_0.Body, nro s_0_Elsev NC_api_TStmt_50 s_0.Else, box b2 [.int .i64 0, .int .i64 0, .string (bs [])]]) (fun σ => o4 = .go σ.1) (fun L7 hL6 => ?_) ?_
 ·
  refine run_seq ?_
  refine run_region' ?_
  refine oy rfl rfl (y_eql rfl rfl) ?_
  refine oy rfl rfl (y_assign rfl) ?_
  refine ops_nil ?_
  refine goes_code ?_
  refine run_cond (decide (s_0.Kind = 1)) rfl (fun hc8 => ?_) (fun hc8 => ?_)
  ·replace h := cond_t h hc8
   refine run_skip ?_
   obtain rfl := some_eq h
   exact goes_cut hL6 (decide (s_0.Kind = 1), ()) [3, 0, 1, 2, 4] (qv4 rfl rfl rfl rfl) (by decide) rfl rfl
  ·replace h := cond_f h hc8
   refine run_region' ?_
   refine oy rfl rfl (y_eql rfl rfl) ?_
   refine oy rfl rfl (y_assign rfl) ?_
   refine ops_nil ?_
   obtain rfl := some_eq h
   exact goes_cut hL6 (decide (s_0.Kind = 2), ()) [3, 0, 1, 2, 4] (qv4 rfl rfl rfl rfl) (by decide) rfl rfl
 rintro ⟨s_3, _⟩ hj
 obtain rfl : o4 = _ := hj
 replace h := after_go ho5
 clear ho5
 change Run _ _ _ (VF.of [(5, .bool s_3), (1, boxP b1 0), (2, boxP b2 0), (4, .int .i64 s_0.Kind)]) [box b1 [.int .i64 s_0.Kind, .int .i64 s_0.Slot, .int .i64 s_0.N, .string (bs s_0.Name), .int .i64 s_0.X.Op, .int .i64 s_0.X.Type_, .int .i64 s_0.X.N, .int .i64 s_0.X.Slot, .string (bs s_0.X.S), s_0_X_Argsv, s_0_Bodyv, s_0_Elsev], nro s_0_X_Argsv NC_api_TExpr_48 s_0.X.Args, nro s_0_Bodyv NC_api_TStmt_50 s_0.Body, nro s_0_Elsev NC_api_TStmt_50 s_0.Else, box b2 [.int .i64 0, .int .i64 0, .string (bs [])]]
 refine run_cond s_3 rfl (fun hc9 => ?_) (fun hc9 => ?_)
 ·replace h := cond_t h hc9
  refine run_seq ?_
  refine run_region' ?_
  refine oy rfl rfl (y_fieldAddr_box (sz := 0) Try.runUnderlying50 rfl Try.sizeOf3 rfl) ?_
  refine oy rfl rfl (y_load_box 0 Try.isAgg3 rfl rfl rfl) ?_
  refine oy rfl rfl (y_build_struct (cells := #[.int .i64 31, .int .i64 s_0.Slot, .string (bs [])]) [(0, .int .i64 31), (1, .int .i64 s_0.Slot)] [(0, [.int .i64 31]), (1, [.int .i64 s_0.Slot])] Try.zeroValue55 Try.runUnderlying55 (fs_cons Try.sizeOf3 (fs_cons Try.sizeOf3 (fs_cons Try.sizeOf9 fs_nil))) rfl rfl rfl) ?_
  refine ot rfl rfl (t_store 4 Try.sizeOf55 rfl rfl rfl rfl (by simp [Value.cells, boxP]) (by simp [Value.cells, Value.oneCell', boxP])) ?_
  rintro _ _ ⟨rfl, rfl⟩
  refine ops_turn (retell 4 (g := box b2 [.int .i64 31, .int .i64 s_0.Slot, .string (bs [])]) rfl rfl) ?_
  refine ops_nil ?_
  refine goes_code ?_
  refine run_ret ?_
  obtain rfl := some_eq h
  refine fin_res [.cell 2 55] [.agg #[.int .i64 31, .int .i64 s_0.Slot, .string (bs [])]] [] [] Try.results62 rfl (rescons (res_box 4 Try.isAgg55 Try.sizeOf55 rfl rfl rfl) resnil) (by decide) rfl ?_
  exact ⟨rfl, rfl⟩
 ·replace h := cond_f h hc9
  refine run_seq ?_
  refine run_region' ?_
  refine oy rfl rfl (y_eql rfl rfl) ?_
  refine oy rfl rfl (y_assign rfl) ?_
  refine ops_nil ?_
  refine goes_code ?_
  refine run_cond (decide (s_0.Kind = 3)) rfl (fun hc10 => ?_) (fun hc10 => ?_)
  ·replace h := cond_t h hc10
   refine run_seq ?_
   refine run_region' ?_
   refine oy rfl rfl (y_fieldAddr_box (sz := 0) Try.runUnderlying50 rfl Try.sizeOf9 rfl) ?_
   refine oy rfl rfl (y_load_box 0 Try.isAgg9 rfl rfl rfl) ?_
   refine oy rfl rfl (y_build_struct (cells := #[.int .i64 32, .int .i64 0, .string (bs s_0.Name)]) [(0, .int .i64 32), (2, .string (bs s_0.Name))] [(0, [.int .i64 32]), (2, [.string (bs s_0.Name)])] Try.zeroValue55 Try.runUnderlying55 (fs_cons Try.sizeOf3 (fs_cons Try.sizeOf3 (fs_cons Try.sizeOf9 fs_nil))) rfl rfl rfl) ?_
   refine ot rfl rfl (t_store 4 Try.sizeOf55 rfl rfl rfl rfl (by simp [Value.cells, boxP]) (by simp [Value.cells, Value.oneCell', boxP])) ?_
   rintro _ _ ⟨rfl, rfl⟩
   refine ops_turn (retell 4 (g := box b2 [.int .i64 32, .int .i64 0, .string (bs s_0.Name)]) rfl rfl) ?_
   refine ops_nil ?_
   refine goes_code ?_
   refine run_ret ?_
   obtain rfl := some_eq h
   refine fin_res [.cell 2 55] [.agg #[.int .i64 32, .int .i64 0, .string (bs s_0.Name)]] [] [] Try.results62 rfl (rescons (res_box 4 Try.isAgg55 Try.sizeOf55 rfl rfl rfl) resnil) (by decide) rfl ?_
   exact ⟨rfl, rfl⟩
  ·replace h := cond_f h hc10
   refine run_seq ?_
   refine run_region' ?_
   refine oy rfl rfl (y_eql rfl rfl) ?_
   refine oy rfl rfl (y_assign rfl) ?_
   refine ops_nil ?_
   refine goes_code ?_
   refine run_cond (decide (s_0.Kind = 4)) rfl (fun hc11 => ?_) (fun hc11 => ?_)
   ·replace h := cond_t h hc11
    refine run_seq ?_
    refine run_region' ?_
    refine oy rfl rfl (y_build_struct (cells := #[.int .i64 33, .int .i64 0, .string (bs [])]) [(0, .int .i64 33)] [(0, [.int .i64 33])] Try.zeroValue55 Try.runUnderlying55 (fs_cons Try.sizeOf3 (fs_cons Try.sizeOf3 (fs_cons Try.sizeOf9 fs_nil))) rfl rfl rfl) ?_
    refine ot rfl rfl (t_store 4 Try.sizeOf55 rfl rfl rfl rfl (by simp [Value.cells, boxP]) (by simp [Value.cells, Value.oneCell', boxP])) ?_
    rintro _ _ ⟨rfl, rfl⟩
    refine ops_turn (retell 4 (g := box b2 [.int .i64 33, .int .i64 0, .string (bs [])]) rfl rfl) ?_
    refine ops_nil ?_
    refine goes_code ?_
    refine run_ret ?_
    obtain rfl := some_eq h
    refine fin_res [.cell 2 55] [.agg #[.int .i64 33, .int .i64 0, .string (bs [])]] [] [] Try.results62 rfl (rescons (res_box 4 Try.isAgg55 Try.sizeOf55 rfl rfl rfl) resnil) (by decide) rfl ?_
    exact ⟨rfl, rfl⟩
   ·replace h := cond_f h hc11
    refine run_seq ?_
    refine run_region' ?_
    refine oy rfl rfl (y_eql rfl rfl) ?_
    refine oy rfl rfl (y_assign rfl) ?_
    refine ops_nil ?_
    refine goes_code ?_
    refine run_cond (decide (s_0.Kind = 7)) rfl (fun hc12 => ?_) (fun hc12 => ?_)
    ·replace h := cond_t h hc12
     refine run_seq ?_
     refine run_region' ?_
     refine oy rfl rfl (y_build_struct (cells := #[.int .i64 34, .int .i64 0, .string (bs [])]) [(0, .int .i64 34)] [(0, [.int .i64 34])] Try.zeroValue55 Try.runUnderlying55 (fs_cons Try.sizeOf3 (fs_cons Try.sizeOf3 (fs_cons Try.sizeOf9 fs_nil))) rfl rfl rfl) ?_
     refine ot rfl rfl (t_store 4 Try.sizeOf55 rfl rfl rfl rfl (by simp [Value.cells, boxP]) (by simp [Value.cells, Value.oneCell', boxP])) ?_
     rintro _ _ ⟨rfl, rfl⟩
     refine ops_turn (retell 4 (g := box b2 [.int .i64 34, .int .i64 0, .string (bs [])]) rfl rfl) ?_
     refine ops_nil ?_
     refine goes_code ?_
     refine run_ret ?_
     obtain rfl := some_eq h
     refine fin_res [.cell 2 55] [.agg #[.int .i64 34, .int .i64 0, .string (bs [])]] [] [] Try.results62 rfl (rescons (res_box 4 Try.isAgg55 Try.sizeOf55 rfl rfl rfl) resnil) (by decide) rfl ?_
     exact ⟨rfl, rfl⟩
    ·replace h := cond_f h hc12
     refine run_seq ?_
     refine run_region' ?_
     refine oy rfl rfl (y_eql rfl rfl) ?_
     refine oy rfl rfl (y_assign rfl) ?_
     refine ops_nil ?_
     refine goes_code ?_
     refine run_cond (decide (s_0.Kind = 8)) rfl (fun hc13 => ?_) (fun hc13 => ?_)
     ·replace h := cond_t h hc13
      refine run_seq ?_
      refine run_weak [(2, boxP b2 0)] [4] [box b2 [.int .i64 0, .int .i64 0, .string (bs [])]] (qv1 rfl) (by decide) rfl ?_
      refine run_region' ?_
      refine oy rfl rfl (y_build_struct (cells := #[.int .i64 35, .int .i64 0, .string (bs [])]) [(0, .int .i64 35)] [(0, [.int .i64 35])] Try.zeroValue55 Try.runUnderlying55 (fs_cons Try.sizeOf3 (fs_cons Try.sizeOf3 (fs_cons Try.sizeOf9 fs_nil))) rfl rfl rfl) ?_
      refine ot rfl rfl (t_store 0 Try.sizeOf55 rfl rfl rfl rfl (by simp [Value.cells, boxP]) (by simp [Value.cells, Value.oneCell', boxP])) ?_
      rintro _ _ ⟨rfl, rfl⟩
      refine ops_turn (retell 0 (g := box b2 [.int .i64 35, .int .i64 0, .string (bs [])]) rfl rfl) ?_
      refine ops_nil ?_
      refine goes_code ?_
      refine run_ret ?_
      obtain rfl := some_eq h
      refine fin_res [.cell 2 55] [.agg #[.int .i64 35, .int .i64 0, .string (bs [])]] [] [] Try.results62 rfl (rescons (res_box 0 Try.isAgg55 Try.sizeOf55 rfl rfl rfl) resnil) (by decide) rfl ?_
      exact ⟨rfl, rfl⟩
     ·replace h := cond_f h hc13
      refine run_skip ?_
      refine goes_blk ?_
      refine goes_code ?_
      refine run_seq ?_
      refine run_weak [(2, boxP b2 0)] [4] [box b2 [.int .i64 0, .int .i64 0, .string (bs [])]] (qv1 rfl) (by decide) rfl ?_
      refine run_region' ?_
      refine oy rfl rfl (y_build_struct (cells := #[.int .i64 36, .int .i64 0, .string (bs [])]) [(0, .int .i64 36)] [(0, [.int .i64 36])] Try.zeroValue55 Try.runUnderlying55 (fs_cons Try.sizeOf3 (fs_cons Try.sizeOf3 (fs_cons Try.sizeOf9 fs_nil))) rfl rfl rfl) ?_
      refine ot rfl rfl (t_store 0 Try.sizeOf55 rfl rfl rfl rfl (by simp [Value.cells, boxP]) (by simp [Value.cells, Value.oneCell', boxP])) ?_
      rintro _ _ ⟨rfl, rfl⟩
      refine ops_turn (retell 0 (g := box b2 [.int .i64 36, .int .i64 0, .string (bs [])]) rfl rfl) ?_
      refine ops_nil ?_
      refine goes_code ?_
      refine run_ret ?_
      obtain rfl := some_eq h
      refine fin_res [.cell 2 55] [.agg #[.int .i64 36, .int .i64 0, .string (bs [])]] [] [] Try.results62 rfl (rescons (res_box 0 Try.isAgg55 Try.sizeOf55 rfl rfl rfl) resnil) (by decide) rfl ?_
      exact ⟨rfl, rfl⟩

def ref28_stmt_v8 (n : Nat) (rec_ref28_block_v1 : (List S_api_Instr) → (List S_api_TStmt) → Int → Option ((List S_api_Instr))) (out_0 : (List S_api_Instr)) (s_1 : S_api_TStmt) (d_2 : Int) : Option ((List S_api_Instr)) :=
 need (out_0.length + ([(S_api_Instr.mk 30 0 [])] : List S_api_Instr).length ≤ 4294967296) (
 cond (decide (s_1.Kind = 6))
  (need ((out_0 ++ ([(S_api_Instr.mk 30 0 [])] : List S_api_Instr)).length + ([(S_api_Instr.mk 39 s_1.N [])] : List S_api_Instr).length ≤ 4294967296) (
  need (((out_0 ++ ([(S_api_Instr.mk 30 0 [])] : List S_api_Instr)) ++ ([(S_api_Instr.mk 39 s_1.N [])] : List S_api_Instr)).length + ([(S_api_Instr.mk 40 0 [])] : List S_api_Instr).length ≤ 4294967296) (
  obind (rec_ref28_block_v1 (((out_0 ++ ([(S_api_Instr.mk 30 0 [])] : List S_api_Instr)) ++ ([(S_api_Instr.mk 39 s_1.N [])] : List S_api_Instr)) ++ ([(S_api_Instr.mk 40 0 [])] : List S_api_Instr)) s_1.Body d_2) fun r12 =>
  need (r12.length + ([(S_api_Instr.mk 41 d_2 []), (S_api_Instr.mk 37 (((out_0 ++ ([(S_api_Instr.mk 30 0 [])] : List S_api_Instr)) ++ ([(S_api_Instr.mk 39 s_1.N [])] : List S_api_Instr)).length : Int) [])] : List S_api_Instr).length ≤ 4294967296) (
  idx (r12 ++ ([(S_api_Instr.mk 41 d_2 []), (S_api_Instr.mk 37 (((out_0 ++ ([(S_api_Instr.mk 30 0 [])] : List S_api_Instr)) ++ ([(S_api_Instr.mk 39 s_1.N [])] : List S_api_Instr)).length : Int) [])] : List S_api_Instr)) (((out_0 ++ ([(S_api_Instr.mk 30 0 [])] : List S_api_Instr)) ++ ([(S_api_Instr.mk 39 s_1.N [])] : List S_api_Instr)).length : Int) fun x18 =>
  some ((r12 ++ ([(S_api_Instr.mk 41 d_2 []), (S_api_Instr.mk 37 (((out_0 ++ ([(S_api_Instr.mk 30 0 [])] : List S_api_Instr)) ++ ([(S_api_Instr.mk 39 s_1.N [])] : List S_api_Instr)).length : Int) [])] : List S_api_Instr)).set (((((out_0 ++ ([(S_api_Instr.mk 30 0 [])] : List S_api_Instr)) ++ ([(S_api_Instr.mk 39 s_1.N [])] : List S_api_Instr)).length : Int)).toNat) (S_api_Instr.mk x18.Op ((r12 ++ ([(S_api_Instr.mk 41 d_2 []), (S_api_Instr.mk 37 (((out_0 ++ ([(S_api_Instr.mk 30 0 [])] : List S_api_Instr)) ++ ([(S_api_Instr.mk 39 s_1.N [])] : List S_api_Instr)).length : Int) [])] : List S_api_Instr)).length : Int) x18.S))))))
  (obind (ref28_expr_v4 n (out_0 ++ ([(S_api_Instr.mk 30 0 [])] : List S_api_Instr)) s_1.X) fun r20 =>
  cond (decide (s_1.Kind ≠ 5))
   (obind (ref28_last s_1) fun r24 =>
   need (r20.length + ([r24] : List S_api_Instr).length ≤ 4294967296) (
   some (r20 ++ ([r24] : List S_api_Instr))))
   (need (r20.length + ([(S_api_Instr.mk 38 0 [])] : List S_api_Instr).length ≤ 4294967296) (
   obind (rec_ref28_block_v1 (r20 ++ ([(S_api_Instr.mk 38 0 [])] : List S_api_Instr)) s_1.Body d_2) fun r32 =>
   need (r32.length + ([(S_api_Instr.mk 41 d_2 [])] : List S_api_Instr).length ≤ 4294967296) (
   need ((r32 ++ ([(S_api_Instr.mk 41 d_2 [])] : List S_api_Instr)).length + ([(S_api_Instr.mk 37 0 [])] : List S_api_Instr).length ≤ 4294967296) (
   idx ((r32 ++ ([(S_api_Instr.mk 41 d_2 [])] : List S_api_Instr)) ++ ([(S_api_Instr.mk 37 0 [])] : List S_api_Instr)) (r20.length : Int) fun x41 =>
   obind (rec_ref28_block_v1 (((r32 ++ ([(S_api_Instr.mk 41 d_2 [])] : List S_api_Instr)) ++ ([(S_api_Instr.mk 37 0 [])] : List S_api_Instr)).set (((r20.length : Int)).toNat) (S_api_Instr.mk x41.Op (((r32 ++ ([(S_api_Instr.mk 41 d_2 [])] : List S_api_Instr)) ++ ([(S_api_Instr.mk 37 0 [])] : List S_api_Instr)).length : Int) x41.S)) s_1.Else d_2) fun r43 =>
   need (r43.length + ([(S_api_Instr.mk 41 d_2 [])] : List S_api_Instr).length ≤ 4294967296) (
   idx (r43 ++ ([(S_api_Instr.mk 41 d_2 [])] : List S_api_Instr)) ((r32 ++ ([(S_api_Instr.mk 41 d_2 [])] : List S_api_Instr)).length : Int) fun x49 =>
   some ((r43 ++ ([(S_api_Instr.mk 41 d_2 [])] : List S_api_Instr)).set ((((r32 ++ ([(S_api_Instr.mk 41 d_2 [])] : List S_api_Instr)).length : Int)).toNat) (S_api_Instr.mk x49.Op ((r43 ++ ([(S_api_Instr.mk 41 d_2 [])] : List S_api_Instr)).length : Int) x49.S)))))))))
theorem ref28_stmt_v8_ok (n : Nat) (rec_ref28_block_v1 : (List S_api_Instr) → (List S_api_TStmt) → Int → Option ((List S_api_Instr))) (hrec_ref28_block_v1 : ∀ (out_0 : (List S_api_Instr)) (l_1 : (List S_api_TStmt)) (d_2 : Int) (out_0v : Value) (l_1v : Value) {r : (List S_api_Instr)}, rec_ref28_block_v1 out_0 l_1 d_2 = some r → Meets Try.prog 22 [out_0v, l_1v, .int .i64 d_2] [row out_0v 3 (out_0.map S_api_Instr.enc), nro l_1v NC_api_TStmt_50 l_1] (fun v G => ∃ v0, v = v0 ∧ G = [row v0 3 (r.map S_api_Instr.enc)])) (out_0 : (List S_api_Instr)) (s_1 : S_api_TStmt) (d_2 : Int) (out_0v : Value) (s_1_X_Argsv : Value) (s_1_Bodyv : Value) (s_1_Elsev : Value) {r : (List S_api_Instr)} (h : ref28_stmt_v8 n rec_ref28_block_v1 out_0 s_1 d_2 = some r) :
  Meets Try.prog 43 [out_0v, .agg #[.int .i64 s_1.Kind, .int .i64 s_1.Slot, .int .i64 s_1.N, .string (bs s_1.Name), .int .i64 s_1.X.Op, .int .i64 s_1.X.Type_, .int .i64 s_1.X.N, .int .i64 s_1.X.Slot, .string (bs s_1.X.S), s_1_X_Argsv, s_1_Bodyv, s_1_Elsev], .int .i64 d_2] [row out_0v 3 (out_0.map S_api_Instr.enc), nro s_1_X_Argsv NC_api_TExpr_48 s_1.X.Args, nro s_1_Bodyv NC_api_TStmt_50 s_1.Body, nro s_1_Elsev NC_api_TStmt_50 s_1.Else] (fun v G => ∃ v0, v = v0 ∧ G = [row v0 3 (r.map S_api_Instr.enc)]) := by
 refine fn_of_run Try.func43 rfl Try.ntmps43 rfl (fun w0 o0 => ?_)
 refine run_seq ?_
 refine run_region' ?_
 refine ot rfl rfl (t_box rfl) ?_
 rintro _ _ ⟨b1, rfl, rfl⟩
 refine oy rfl rfl (y_assign rfl) ?_
 refine ops_nil ?_
 refine goes_code ?_
 refine run_seq ?_
 refine run_region' ?_
 refine oy rfl rfl (y_move rfl) ?_
 refine oy rfl rfl (y_build_struct (cells := #[.int .i64 30, .int .i64 0, .string (bs [])]) [(0, .int .i64 30)] [(0, [.int .i64 30])] Try.zeroValue55 Try.runUnderlying55 (fs_cons Try.sizeOf3 (fs_cons Try.sizeOf3 (fs_cons Try.sizeOf9 fs_nil))) rfl rfl rfl) ?_
 refine ot rfl rfl (t_lit [.agg #[.int .i64 30, .int .i64 0, .string (bs [])]] Try.runUnderlying29 Try.sizeOf55 Try.zeroValue55 rfl (by decide) (by decide) rfl (by simp [Value.cells, boxP])) ?_
 rintro v2 _ ⟨rfl, _⟩
 refine ops_turn (retell 5 (g := row v2 3 (([(S_api_Instr.mk 30 0 [])] : List S_api_Instr).map S_api_Instr.enc)) rfl rfl) ?_
 obtain ⟨hr4, h⟩ := need_some h
 refine ot rfl rfl (t_append (es := 3) 0 rfl Try.runUnderlying29 rfl Try.runUnderlying29 (.inr ⟨_, rfl⟩) Try.typeInfo55 rfl (by decide) Try.zeroValue55 rfl rfl rfl rfl (src_reads 5 rfl reads_row (map_ok S_api_Instr.enc_ok _)) (map_room hr4 (by decide)) (map_fit hr4)) ?_
 rintro v3 _ rfl
 refine ops_turn (retell 0 (g := row v3 3 ((out_0 ++ ([(S_api_Instr.mk 30 0 [])] : List S_api_Instr)).map S_api_Instr.enc)) rfl (congrArg (row _ _) List.map_append.symm)) ?_
 refine oy rfl rfl (y_assign rfl) ?_
 refine ops_nil ?_
 refine goes_code ?_
 refine run_seq ?_
 refine run_seq ?_
 refine run_region' ?_
 refine oy rfl rfl (y_fieldAddr_box (sz := 0) Try.runUnderlying50 rfl Try.sizeOf3 rfl) ?_
 refine oy rfl rfl (y_load_box 4 Try.isAgg3 rfl rfl rfl) ?_
 refine oy rfl rfl (y_eql rfl rfl) ?_
 refine ops_nil ?_
 refine goes_code ?_
 refine run_cond (decide (s_1.Kind = 6)) rfl (fun hc5 => ?_) (fun hc5 => ?_)
 ·replace h := cond_t h hc5
  refine run_seq ?_
  refine run_weak [(0, v3), (2, .int .i64 d_2), (4, boxP b1 0)] [0, 1, 2, 3, 4] [row v3 3 ((out_0 ++ ([(S_api_Instr.mk 30 0 [])] : List S_api_Instr)).map S_api_Instr.enc), nro s_1_X_Argsv NC_api_TExpr_48 s_1.X.Args, nro s_1_Bodyv NC_api_TStmt_50 s_1.Body, nro s_1_Elsev NC_api_TStmt_50 s_1.Else, box b1 [.int .i64 s_1.Kind, .int .i64 s_1.Slot, .int .i64 s_1.N, .string (bs s_1.Name), .int .i64 s_1.X.Op, .int .i64 s_1.X.Type_, .int .i64 s_1.X.N, .int .i64 s_1.X.Slot, .string (bs s_1.X.S), s_1_X_Argsv, s_1_Bodyv, s_1_Elsev]] (qv3 rfl rfl rfl) (by decide) rfl ?_
  refine run_region' ?_
  refine oy rfl rfl (y_move rfl) ?_
  refine oy rfl rfl (y_fieldAddr_box (sz := 0) Try.runUnderlying50 rfl Try.sizeOf3 rfl) ?_
  refine oy rfl rfl (y_load_box 4 Try.isAgg3 rfl rfl rfl) ?_
  refine oy rfl rfl (y_build_struct (cells := #[.int .i64 39, .int .i64 s_1.N, .string (bs [])]) [(0, .int .i64 39), (1, .int .i64 s_1.N)] [(0, [.int .i64 39]), (1, [.int .i64 s_1.N])] Try.zeroValue55 Try.runUnderlying55 (fs_cons Try.sizeOf3 (fs_cons Try.sizeOf3 (fs_cons Try.sizeOf9 fs_nil))) rfl rfl rfl) ?_
  refine ot rfl rfl (t_lit [.agg #[.int .i64 39, .int .i64 s_1.N, .string (bs [])]] Try.runUnderlying29 Try.sizeOf55 Try.zeroValue55 rfl (by decide) (by decide) rfl (by simp [Value.cells, boxP])) ?_
  rintro v6 _ ⟨rfl, _⟩
  refine ops_turn (retell 5 (g := row v6 3 (([(S_api_Instr.mk 39 s_1.N [])] : List S_api_Instr).map S_api_Instr.enc)) rfl rfl) ?_
  obtain ⟨hr8, h⟩ := need_some h
  refine ot rfl rfl (t_append (es := 3) 0 rfl Try.runUnderlying29 rfl Try.runUnderlying29 (.inr ⟨_, rfl⟩) Try.typeInfo55 rfl (by decide) Try.zeroValue55 rfl rfl rfl rfl (src_reads 5 rfl reads_row (map_ok S_api_Instr.enc_ok _)) (map_room hr8 (by decide)) (map_fit hr8)) ?_
  rintro v7 _ rfl
  refine ops_turn (retell 0 (g := row v7 3 (((out_0 ++ ([(S_api_Instr.mk 30 0 [])] : List S_api_Instr)) ++ ([(S_api_Instr.mk 39 s_1.N [])] : List S_api_Instr)).map S_api_Instr.enc)) rfl (congrArg (row _ _) List.map_append.symm)) ?_
  refine oy rfl rfl (y_assign rfl) ?_
  refine ops_nil ?_
  refine goes_code ?_
  refine run_seq ?_
  refine run_region' ?_
  refine oy rfl rfl (y_move rfl) ?_
  refine oy rfl rfl ((y_len 0 rfl Try.runUnderlying29 rfl rfl reads_row).to (v_len S_api_Instr.enc _)) ?_
  refine oy rfl rfl (y_assign rfl) ?_
  refine ops_nil ?_
  refine goes_code ?_
  refine run_seq ?_
  refine run_weak [(0, v7), (2, .int .i64 d_2), (4, boxP b1 0), (7, .int .i64 (((out_0 ++ ([(S_api_Instr.mk 30 0 [])] : List S_api_Instr)) ++ ([(S_api_Instr.mk 39 s_1.N [])] : List S_api_Instr)).length : Int))] [0, 1, 2, 3, 4] [row v7 3 (((out_0 ++ ([(S_api_Instr.mk 30 0 [])] : List S_api_Instr)) ++ ([(S_api_Instr.mk 39 s_1.N [])] : List S_api_Instr)).map S_api_Instr.enc), nro s_1_X_Argsv NC_api_TExpr_48 s_1.X.Args, nro s_1_Bodyv NC_api_TStmt_50 s_1.Body, nro s_1_Elsev NC_api_TStmt_50 s_1.Else, box b1 [.int .i64 s_1.Kind, .int .i64 s_1.Slot, .int .i64 s_1.N, .string (bs s_1.Name), .int .i64 s_1.X.Op, .int .i64 s_1.X.Type_, .int .i64 s_1.X.N, .int .i64 s_1.X.Slot, .string (bs s_1.X.S), s_1_X_Argsv, s_1_Bodyv, s_1_Elsev]] (qv4 rfl rfl rfl rfl) (by decide) rfl ?_
  refine run_region' ?_
  refine oy rfl rfl (y_move rfl) ?_
  refine oy rfl rfl (y_build_struct (cells := #[.int .i64 40, .int .i64 0, .string (bs [])]) [(0, .int .i64 40)] [(0, [.int .i64 40])] Try.zeroValue55 Try.runUnderlying55 (fs_cons Try.sizeOf3 (fs_cons Try.sizeOf3 (fs_cons Try.sizeOf9 fs_nil))) rfl rfl rfl) ?_
  refine ot rfl rfl (t_lit [.agg #[.int .i64 40, .int .i64 0, .string (bs [])]] Try.runUnderlying29 Try.sizeOf55 Try.zeroValue55 rfl (by decide) (by decide) rfl (by simp [Value.cells, boxP])) ?_
  rintro v9 _ ⟨rfl, _⟩
  refine ops_turn (retell 5 (g := row v9 3 (([(S_api_Instr.mk 40 0 [])] : List S_api_Instr).map S_api_Instr.enc)) rfl rfl) ?_
  obtain ⟨hr11, h⟩ := need_some h
  refine ot rfl rfl (t_append (es := 3) 0 rfl Try.runUnderlying29 rfl Try.runUnderlying29 (.inr ⟨_, rfl⟩) Try.typeInfo55 rfl (by decide) Try.zeroValue55 rfl rfl rfl rfl (src_reads 5 rfl reads_row (map_ok S_api_Instr.enc_ok _)) (map_room hr11 (by decide)) (map_fit hr11)) ?_
  rintro v10 _ rfl
  refine ops_turn (retell 0 (g := row v10 3 ((((out_0 ++ ([(S_api_Instr.mk 30 0 [])] : List S_api_Instr)) ++ ([(S_api_Instr.mk 39 s_1.N [])] : List S_api_Instr)) ++ ([(S_api_Instr.mk 40 0 [])] : List S_api_Instr)).map S_api_Instr.enc)) rfl (congrArg (row _ _) List.map_append.symm)) ?_
  refine oy rfl rfl (y_assign rfl) ?_
  refine ops_nil ?_
  refine goes_code ?_
  refine run_seq ?_
  refine run_region' ?_
  refine oy rfl rfl (y_move rfl) ?_
  refine oy rfl rfl (y_fieldAddr_box (sz := 0) Try.runUnderlying50 rfl Try.sizeOf23 rfl) ?_
  refine oy rfl rfl (y_load_box 4 Try.isAgg23 rfl rfl rfl) ?_
  refine oy rfl rfl (y_move rfl) ?_
  obtain ⟨r12, hr13, h⟩ := obind_some h
  refine ot rfl rfl (t_callx (vs := [v10, s_1_Bodyv, .int .i64 d_2]) (cs := []) [(0, 2), (2, 0)] rfl Try.call22 rfl (hrec_ref28_block_v1  (((out_0 ++ ([(S_api_Instr.mk 30 0 [])] : List S_api_Instr)) ++ ([(S_api_Instr.mk 39 s_1.N [])] : List S_api_Instr)) ++ ([(S_api_Instr.mk 40 0 [])] : List S_api_Instr)) s_1.Body d_2 v10 s_1_Bodyv hr13) (showsX_lend 0 rfl (showsX_view 2 rfl views_nro showsX_nil)) rfl (.inl rfl)) ?_
  rintro v14 _ ⟨_, ⟨_, rfl, rfl⟩, rfl⟩
  refine oy rfl rfl (y_assign rfl) ?_
  refine ops_nil ?_
  refine goes_code ?_
  refine run_seq ?_
  refine run_weak [(0, v14), (2, .int .i64 d_2), (7, .int .i64 (((out_0 ++ ([(S_api_Instr.mk 30 0 [])] : List S_api_Instr)) ++ ([(S_api_Instr.mk 39 s_1.N [])] : List S_api_Instr)).length : Int))] [6] [row v14 3 (r12.map S_api_Instr.enc)] (qv3 rfl rfl rfl) (by decide) rfl ?_
  refine run_region' ?_
  refine oy rfl rfl (y_move rfl) ?_
  refine oy rfl rfl (y_move rfl) ?_
  refine oy rfl rfl (y_build_struct (cells := #[.int .i64 41, .int .i64 d_2, .string (bs [])]) [(0, .int .i64 41), (1, .int .i64 d_2)] [(0, [.int .i64 41]), (1, [.int .i64 d_2])] Try.zeroValue55 Try.runUnderlying55 (fs_cons Try.sizeOf3 (fs_cons Try.sizeOf3 (fs_cons Try.sizeOf9 fs_nil))) rfl rfl rfl) ?_
  refine oy rfl rfl (y_move rfl) ?_
  refine oy rfl rfl (y_build_struct (cells := #[.int .i64 37, .int .i64 (((out_0 ++ ([(S_api_Instr.mk 30 0 [])] : List S_api_Instr)) ++ ([(S_api_Instr.mk 39 s_1.N [])] : List S_api_Instr)).length : Int), .string (bs [])]) [(0, .int .i64 37), (1, .int .i64 (((out_0 ++ ([(S_api_Instr.mk 30 0 [])] : List S_api_Instr)) ++ ([(S_api_Instr.mk 39 s_1.N [])] : List S_api_Instr)).length : Int))] [(0, [.int .i64 37]), (1, [.int .i64 (((out_0 ++ ([(S_api_Instr.mk 30 0 [])] : List S_api_Instr)) ++ ([(S_api_Instr.mk 39 s_1.N [])] : List S_api_Instr)).length : Int)])] Try.zeroValue55 Try.runUnderlying55 (fs_cons Try.sizeOf3 (fs_cons Try.sizeOf3 (fs_cons Try.sizeOf9 fs_nil))) rfl rfl rfl) ?_
  refine ot rfl rfl (t_lit [.agg #[.int .i64 41, .int .i64 d_2, .string (bs [])], .agg #[.int .i64 37, .int .i64 (((out_0 ++ ([(S_api_Instr.mk 30 0 [])] : List S_api_Instr)) ++ ([(S_api_Instr.mk 39 s_1.N [])] : List S_api_Instr)).length : Int), .string (bs [])]] Try.runUnderlying29 Try.sizeOf55 Try.zeroValue55 rfl (by decide) (by decide) rfl (by simp [Value.cells, boxP])) ?_
  rintro v15 _ ⟨rfl, _⟩
  refine ops_turn (retell 1 (g := row v15 3 (([(S_api_Instr.mk 41 d_2 []), (S_api_Instr.mk 37 (((out_0 ++ ([(S_api_Instr.mk 30 0 [])] : List S_api_Instr)) ++ ([(S_api_Instr.mk 39 s_1.N [])] : List S_api_Instr)).length : Int) [])] : List S_api_Instr).map S_api_Instr.enc)) rfl rfl) ?_
  obtain ⟨hr17, h⟩ := need_some h
  refine ot rfl rfl (t_append (es := 3) 0 rfl Try.runUnderlying29 rfl Try.runUnderlying29 (.inr ⟨_, rfl⟩) Try.typeInfo55 rfl (by decide) Try.zeroValue55 rfl rfl rfl rfl (src_reads 1 rfl reads_row (map_ok S_api_Instr.enc_ok _)) (map_room hr17 (by decide)) (map_fit hr17)) ?_
  rintro v16 _ rfl
  refine ops_turn (retell 0 (g := row v16 3 ((r12 ++ ([(S_api_Instr.mk 41 d_2 []), (S_api_Instr.mk 37 (((out_0 ++ ([(S_api_Instr.mk 30 0 [])] : List S_api_Instr)) ++ ([(S_api_Instr.mk 39 s_1.N [])] : List S_api_Instr)).length : Int) [])] : List S_api_Instr)).map S_api_Instr.enc)) rfl (congrArg (row _ _) List.map_append.symm)) ?_
  refine oy rfl rfl (y_assign rfl) ?_
  refine ops_nil ?_
  refine goes_code ?_
  refine run_seq ?_
  refine run_weak [(0, v16), (7, .int .i64 (((out_0 ++ ([(S_api_Instr.mk 30 0 [])] : List S_api_Instr)) ++ ([(S_api_Instr.mk 39 s_1.N [])] : List S_api_Instr)).length : Int))] [0] [row v16 3 ((r12 ++ ([(S_api_Instr.mk 41 d_2 []), (S_api_Instr.mk 37 (((out_0 ++ ([(S_api_Instr.mk 30 0 [])] : List S_api_Instr)) ++ ([(S_api_Instr.mk 39 s_1.N [])] : List S_api_Instr)).length : Int) [])] : List S_api_Instr)).map S_api_Instr.enc)] (qv2 rfl rfl) (by decide) rfl ?_
  refine run_region' ?_
  refine oy rfl rfl (y_move rfl) ?_
  refine oy rfl rfl (y_move rfl) ?_
  refine oy rfl rfl (y_move rfl) ?_
  refine oy rfl rfl ((y_len 0 rfl Try.runUnderlying29 rfl rfl reads_row).to (v_len S_api_Instr.enc _)) ?_
  obtain ⟨x18, hzx18, hlx18, hxx18, h⟩ := idx_some h
  refine oy rfl rfl (y_indexAddrI (kd := .i64) (i := (((out_0 ++ ([(S_api_Instr.mk 30 0 [])] : List S_api_Instr)) ++ ([(S_api_Instr.mk 39 s_1.N [])] : List S_api_Instr)).length : Int)) 0 Try.runUnderlying29 Try.sizeOf55 rfl rfl rfl reads_row hzx18 (map_lt hlx18)) ?_
  refine oy rfl rfl (y_fieldAddr_elem (sz := 0) Try.runUnderlying55 rfl Try.sizeOf3 rfl) ?_
  refine ot rfl rfl (t_store_row (i := ((((out_0 ++ ([(S_api_Instr.mk 30 0 [])] : List S_api_Instr)) ++ ([(S_api_Instr.mk 39 s_1.N [])] : List S_api_Instr)).length : Int)).toNat) (j := 1) (c := S_api_Instr.enc x18) 0 Try.sizeOf3 rfl rfl rfl rfl (map_get hxx18) (by decide) (by simp [Value.cells, Value.oneCell', boxP])) ?_
  rintro _ _ ⟨rfl, rfl⟩
  obtain hxx19 : (((r12 ++ ([(S_api_Instr.mk 41 d_2 []), (S_api_Instr.mk 37 (((out_0 ++ ([(S_api_Instr.mk 30 0 [])] : List S_api_Instr)) ++ ([(S_api_Instr.mk 39 s_1.N [])] : List S_api_Instr)).length : Int) [])] : List S_api_Instr)).set (((((out_0 ++ ([(S_api_Instr.mk 30 0 [])] : List S_api_Instr)) ++ ([(S_api_Instr.mk 39 s_1.N [])] : List S_api_Instr)).length : Int)).toNat) (S_api_Instr.mk x18.Op ((r12 ++ ([(S_api_Instr.mk 41 d_2 []), (S_api_Instr.mk 37 (((out_0 ++ ([(S_api_Instr.mk 30 0 [])] : List S_api_Instr)) ++ ([(S_api_Instr.mk 39 s_1.N [])] : List S_api_Instr)).length : Int) [])] : List S_api_Instr)).length : Int) x18.S)) : List S_api_Instr)[((((out_0 ++ ([(S_api_Instr.mk 30 0 [])] : List S_api_Instr)) ++ ([(S_api_Instr.mk 39 s_1.N [])] : List S_api_Instr)).length : Int)).toNat]? = some (S_api_Instr.mk x18.Op ((r12 ++ ([(S_api_Instr.mk 41 d_2 []), (S_api_Instr.mk 37 (((out_0 ++ ([(S_api_Instr.mk 30 0 [])] : List S_api_Instr)) ++ ([(S_api_Instr.mk 39 s_1.N [])] : List S_api_Instr)).length : Int) [])] : List S_api_Instr)).length : Int) x18.S) := set_at hlx18
  obtain hlx19 : ((((out_0 ++ ([(S_api_Instr.mk 30 0 [])] : List S_api_Instr)) ++ ([(S_api_Instr.mk 39 s_1.N [])] : List S_api_Instr)).length : Int)).toNat < (((r12 ++ ([(S_api_Instr.mk 41 d_2 []), (S_api_Instr.mk 37 (((out_0 ++ ([(S_api_Instr.mk 30 0 [])] : List S_api_Instr)) ++ ([(S_api_Instr.mk 39 s_1.N [])] : List S_api_Instr)).length : Int) [])] : List S_api_Instr)).set (((((out_0 ++ ([(S_api_Instr.mk 30 0 [])] : List S_api_Instr)) ++ ([(S_api_Instr.mk 39 s_1.N [])] : List S_api_Instr)).length : Int)).toNat) (S_api_Instr.mk x18.Op ((r12 ++ ([(S_api_Instr.mk 41 d_2 []), (S_api_Instr.mk 37 (((out_0 ++ ([(S_api_Instr.mk 30 0 [])] : List S_api_Instr)) ++ ([(S_api_Instr.mk 39 s_1.N [])] : List S_api_Instr)).length : Int) [])] : List S_api_Instr)).length : Int) x18.S)) : List S_api_Instr).length := set_lt hlx18
  obtain hzx19 : (0 : Int) ≤ (((out_0 ++ ([(S_api_Instr.mk 30 0 [])] : List S_api_Instr)) ++ ([(S_api_Instr.mk 39 s_1.N [])] : List S_api_Instr)).length : Int) := id hzx18
  refine ops_turn (retell 0 (g := row v16 3 (((r12 ++ ([(S_api_Instr.mk 41 d_2 []), (S_api_Instr.mk 37 (((out_0 ++ ([(S_api_Instr.mk 30 0 [])] : List S_api_Instr)) ++ ([(S_api_Instr.mk 39 s_1.N [])] : List S_api_Instr)).length : Int) [])] : List S_api_Instr)).set (((((out_0 ++ ([(S_api_Instr.mk 30 0 [])] : List S_api_Instr)) ++ ([(S_api_Instr.mk 39 s_1.N [])] : List S_api_Instr)).length : Int)).toNat) (S_api_Instr.mk x18.Op ((r12 ++ ([(S_api_Instr.mk 41 d_2 []), (S_api_Instr.mk 37 (((out_0 ++ ([(S_api_Instr.mk 30 0 [])] : List S_api_Instr)) ++ ([(S_api_Instr.mk 39 s_1.N [])] : List S_api_Instr)).length : Int) [])] : List S_api_Instr)).length : Int) x18.S)).map S_api_Instr.enc)) rfl (congrArg (row _ _) (map_set_at rfl))) ?_
  refine ops_nil ?_
  refine goes_code ?_
  refine run_seq ?_
  refine run_region' ?_
  refine oy rfl rfl (y_move rfl) ?_
  refine oy rfl rfl (y_assign rfl) ?_
  refine ops_nil ?_
  refine goes_code ?_
  refine run_ret ?_
  obtain rfl := some_eq h
  refine fin_slots [6] [v16] [0] [row v16 3 (((r12 ++ ([(S_api_Instr.mk 41 d_2 []), (S_api_Instr.mk 37 (((out_0 ++ ([(S_api_Instr.mk 30 0 [])] : List S_api_Instr)) ++ ([(S_api_Instr.mk 39 s_1.N [])] : List S_api_Instr)).length : Int) [])] : List S_api_Instr)).set (((((out_0 ++ ([(S_api_Instr.mk 30 0 [])] : List S_api_Instr)) ++ ([(S_api_Instr.mk 39 s_1.N [])] : List S_api_Instr)).length : Int)).toNat) (S_api_Instr.mk x18.Op ((r12 ++ ([(S_api_Instr.mk 41 d_2 []), (S_api_Instr.mk 37 (((out_0 ++ ([(S_api_Instr.mk 30 0 [])] : List S_api_Instr)) ++ ([(S_api_Instr.mk 39 s_1.N [])] : List S_api_Instr)).length : Int) [])] : List S_api_Instr)).length : Int) x18.S)).map S_api_Instr.enc)] Try.results43 rfl (by decide) rfl ?_
  exact ⟨_, rfl, rfl⟩
 ·replace h := cond_f h hc5
  refine run_skip ?_
  refine goes_code ?_
  refine run_seq ?_
  refine run_weak [(0, v3), (2, .int .i64 d_2), (4, boxP b1 0)] [0, 1, 2, 3, 4] [row v3 3 ((out_0 ++ ([(S_api_Instr.mk 30 0 [])] : List S_api_Instr)).map S_api_Instr.enc), nro s_1_X_Argsv NC_api_TExpr_48 s_1.X.Args, nro s_1_Bodyv NC_api_TStmt_50 s_1.Body, nro s_1_Elsev NC_api_TStmt_50 s_1.Else, box b1 [.int .i64 s_1.Kind, .int .i64 s_1.Slot, .int .i64 s_1.N, .string (bs s_1.Name), .int .i64 s_1.X.Op, .int .i64 s_1.X.Type_, .int .i64 s_1.X.N, .int .i64 s_1.X.Slot, .string (bs s_1.X.S), s_1_X_Argsv, s_1_Bodyv, s_1_Elsev]] (qv3 rfl rfl rfl) (by decide) rfl ?_
  refine run_region' ?_
  refine oy rfl rfl (y_move rfl) ?_
  refine oy rfl rfl (y_fieldAddr_box (sz := 5) Try.runUnderlying50 rfl Try.sizeOf48 rfl) ?_
  refine oy rfl rfl (y_load_boxagg (c := [.int .i64 s_1.X.Op, .int .i64 s_1.X.Type_, .int .i64 s_1.X.N, .int .i64 s_1.X.Slot, .string (bs s_1.X.S), s_1_X_Argsv]) 4 Try.isAgg48 Try.sizeOf48 rfl rfl rfl) ?_
  obtain ⟨r20, hr21, h⟩ := obind_some h
  refine ot rfl rfl (t_callx (vs := [v3, .agg #[.int .i64 s_1.X.Op, .int .i64 s_1.X.Type_, .int .i64 s_1.X.N, .int .i64 s_1.X.Slot, .string (bs s_1.X.S), s_1_X_Argsv]]) (cs := []) [(0, 2), (1, 0)] rfl Try.call61 rfl (ref28_expr_v4_ok n  (out_0 ++ ([(S_api_Instr.mk 30 0 [])] : List S_api_Instr)) s_1.X v3 s_1_X_Argsv hr21) (showsX_lend 0 rfl (showsX_view 1 rfl views_nro showsX_nil)) rfl (.inl rfl)) ?_
  rintro v22 _ ⟨_, ⟨_, rfl, rfl⟩, rfl⟩
  refine oy rfl rfl (y_assign rfl) ?_
  refine ops_nil ?_
  refine goes_code ?_
  refine run_seq ?_
  refine run_seq ?_
  refine run_region' ?_
  refine oy rfl rfl (y_fieldAddr_box (sz := 0) Try.runUnderlying50 rfl Try.sizeOf3 rfl) ?_
  refine oy rfl rfl (y_load_box 4 Try.isAgg3 rfl rfl rfl) ?_
  refine oy rfl rfl (y_neq rfl rfl) ?_
  refine ops_nil ?_
  refine goes_code ?_
  refine run_cond (decide (s_1.Kind ≠ 5)) rfl (fun hc23 => ?_) (fun hc23 => ?_)
  ·replace h := cond_t h hc23
   refine run_seq ?_
   refine run_weak [(0, v22), (4, boxP b1 0)] [1, 2, 3, 4, 5] [nro s_1_X_Argsv NC_api_TExpr_48 s_1.X.Args, nro s_1_Bodyv NC_api_TStmt_50 s_1.Body, nro s_1_Elsev NC_api_TStmt_50 s_1.Else, box b1 [.int .i64 s_1.Kind, .int .i64 s_1.Slot, .int .i64 s_1.N, .string (bs s_1.Name), .int .i64 s_1.X.Op, .int .i64 s_1.X.Type_, .int .i64 s_1.X.N, .int .i64 s_1.X.Slot, .string (bs s_1.X.S), s_1_X_Argsv, s_1_Bodyv, s_1_Elsev], row v22 3 (r20.map S_api_Instr.enc)] (qv2 rfl rfl) (by decide) rfl ?_
   refine run_region' ?_
   refine oy rfl rfl (y_move rfl) ?_
   refine oy rfl rfl (y_load_boxagg (c := [.int .i64 s_1.Kind, .int .i64 s_1.Slot, .int .i64 s_1.N, .string (bs s_1.Name), .int .i64 s_1.X.Op, .int .i64 s_1.X.Type_, .int .i64 s_1.X.N, .int .i64 s_1.X.Slot, .string (bs s_1.X.S), s_1_X_Argsv, s_1_Bodyv, s_1_Elsev]) 3 Try.isAgg50 Try.sizeOf50 rfl rfl rfl) ?_
   obtain ⟨r24, hr25, h⟩ := obind_some h
   refine ot rfl rfl (t_callx (vs := [.agg #[.int .i64 s_1.Kind, .int .i64 s_1.Slot, .int .i64 s_1.N, .string (bs s_1.Name), .int .i64 s_1.X.Op, .int .i64 s_1.X.Type_, .int .i64 s_1.X.N, .int .i64 s_1.X.Slot, .string (bs s_1.X.S), s_1_X_Argsv, s_1_Bodyv, s_1_Elsev]]) (cs := []) [(0, 0), (1, 0), (2, 0)] rfl Try.call62 rfl (ref28_last_ok  s_1 s_1_X_Argsv s_1_Bodyv s_1_Elsev hr25) (showsX_view 0 rfl views_nro (showsX_view 1 rfl views_nro (showsX_view 2 rfl views_nro showsX_nil))) rfl (.inl rfl)) ?_
   rintro _ _ ⟨_, ⟨rfl, rfl⟩, rfl⟩
   refine ot rfl rfl (t_lit [.agg #[.int .i64 r24.Op, .int .i64 r24.A, .string (bs r24.S)]] Try.runUnderlying29 Try.sizeOf55 Try.zeroValue55 rfl (by decide) (by decide) rfl (by simp [Value.cells, boxP])) ?_
   rintro v26 _ ⟨rfl, _⟩
   refine ops_turn (retell 5 (g := row v26 3 (([r24] : List S_api_Instr).map S_api_Instr.enc)) rfl rfl) ?_
   obtain ⟨hr28, h⟩ := need_some h
   refine ot rfl rfl (t_append (es := 3) 4 rfl Try.runUnderlying29 rfl Try.runUnderlying29 (.inr ⟨_, rfl⟩) Try.typeInfo55 rfl (by decide) Try.zeroValue55 rfl rfl rfl rfl (src_reads 5 rfl reads_row (map_ok S_api_Instr.enc_ok _)) (map_room hr28 (by decide)) (map_fit hr28)) ?_
   rintro v27 _ rfl
   refine ops_turn (retell 4 (g := row v27 3 ((r20 ++ ([r24] : List S_api_Instr)).map S_api_Instr.enc)) rfl (congrArg (row _ _) List.map_append.symm)) ?_
   refine oy rfl rfl (y_assign rfl) ?_
   refine ops_nil ?_
   refine goes_code ?_
   refine run_ret ?_
   obtain rfl := some_eq h
   refine fin_slots [6] [v27] [4] [row v27 3 ((r20 ++ ([r24] : List S_api_Instr)).map S_api_Instr.enc)] Try.results43 rfl (by decide) rfl ?_
   exact ⟨_, rfl, rfl⟩
  ·replace h := cond_f h hc23
   refine run_skip ?_
   refine goes_code ?_
   refine run_seq ?_
   refine run_weak [(0, v22), (2, .int .i64 d_2), (4, boxP b1 0)] [1, 2, 3, 4, 5] [nro s_1_X_Argsv NC_api_TExpr_48 s_1.X.Args, nro s_1_Bodyv NC_api_TStmt_50 s_1.Body, nro s_1_Elsev NC_api_TStmt_50 s_1.Else, box b1 [.int .i64 s_1.Kind, .int .i64 s_1.Slot, .int .i64 s_1.N, .string (bs s_1.Name), .int .i64 s_1.X.Op, .int .i64 s_1.X.Type_, .int .i64 s_1.X.N, .int .i64 s_1.X.Slot, .string (bs s_1.X.S), s_1_X_Argsv, s_1_Bodyv, s_1_Elsev], row v22 3 (r20.map S_api_Instr.enc)] (qv3 rfl rfl rfl) (by decide) rfl ?_
   refine run_region' ?_
   refine oy rfl rfl (y_move rfl) ?_
   refine oy rfl rfl ((y_len 4 rfl Try.runUnderlying29 rfl rfl reads_row).to (v_len S_api_Instr.enc _)) ?_
   refine oy rfl rfl (y_assign rfl) ?_
   refine ops_nil ?_
   refine goes_code ?_
   refine run_seq ?_
   refine run_region' ?_
   refine oy rfl rfl (y_move rfl) ?_
   refine oy rfl rfl (y_build_struct (cells := #[.int .i64 38, .int .i64 0, .string (bs [])]) [(0, .int .i64 38)] [(0, [.int .i64 38])] Try.zeroValue55 Try.runUnderlying55 (fs_cons Try.sizeOf3 (fs_cons Try.sizeOf3 (fs_cons Try.sizeOf9 fs_nil))) rfl rfl rfl) ?_
   refine ot rfl rfl (t_lit [.agg #[.int .i64 38, .int .i64 0, .string (bs [])]] Try.runUnderlying29 Try.sizeOf55 Try.zeroValue55 rfl (by decide) (by decide) rfl (by simp [Value.cells, boxP])) ?_
   rintro v29 _ ⟨rfl, _⟩
   refine ops_turn (retell 5 (g := row v29 3 (([(S_api_Instr.mk 38 0 [])] : List S_api_Instr).map S_api_Instr.enc)) rfl rfl) ?_
   obtain ⟨hr31, h⟩ := need_some h
   refine ot rfl rfl (t_append (es := 3) 4 rfl Try.runUnderlying29 rfl Try.runUnderlying29 (.inr ⟨_, rfl⟩) Try.typeInfo55 rfl (by decide) Try.zeroValue55 rfl rfl rfl rfl (src_reads 5 rfl reads_row (map_ok S_api_Instr.enc_ok _)) (map_room hr31 (by decide)) (map_fit hr31)) ?_
   rintro v30 _ rfl
   refine ops_turn (retell 4 (g := row v30 3 ((r20 ++ ([(S_api_Instr.mk 38 0 [])] : List S_api_Instr)).map S_api_Instr.enc)) rfl (congrArg (row _ _) List.map_append.symm)) ?_
   refine oy rfl rfl (y_assign rfl) ?_
   refine ops_nil ?_
   refine goes_code ?_
   refine run_seq ?_
   refine run_weak [(0, v30), (2, .int .i64 d_2), (4, boxP b1 0), (8, .int .i64 (r20.length : Int))] [0, 1, 2, 3, 4] [nro s_1_X_Argsv NC_api_TExpr_48 s_1.X.Args, nro s_1_Bodyv NC_api_TStmt_50 s_1.Body, nro s_1_Elsev NC_api_TStmt_50 s_1.Else, box b1 [.int .i64 s_1.Kind, .int .i64 s_1.Slot, .int .i64 s_1.N, .string (bs s_1.Name), .int .i64 s_1.X.Op, .int .i64 s_1.X.Type_, .int .i64 s_1.X.N, .int .i64 s_1.X.Slot, .string (bs s_1.X.S), s_1_X_Argsv, s_1_Bodyv, s_1_Elsev], row v30 3 ((r20 ++ ([(S_api_Instr.mk 38 0 [])] : List S_api_Instr)).map S_api_Instr.enc)] (qv4 rfl rfl rfl rfl) (by decide) rfl ?_
   refine run_region' ?_
   refine oy rfl rfl (y_move rfl) ?_
   refine oy rfl rfl (y_fieldAddr_box (sz := 0) Try.runUnderlying50 rfl Try.sizeOf23 rfl) ?_
   refine oy rfl rfl (y_load_box 3 Try.isAgg23 rfl rfl rfl) ?_
   refine oy rfl rfl (y_move rfl) ?_
   obtain ⟨r32, hr33, h⟩ := obind_some h
   refine ot rfl rfl (t_callx (vs := [v30, s_1_Bodyv, .int .i64 d_2]) (cs := []) [(4, 2), (1, 0)] rfl Try.call22 rfl (hrec_ref28_block_v1  (r20 ++ ([(S_api_Instr.mk 38 0 [])] : List S_api_Instr)) s_1.Body d_2 v30 s_1_Bodyv hr33) (showsX_lend 4 rfl (showsX_view 1 rfl views_nro showsX_nil)) rfl (.inl rfl)) ?_
   rintro v34 _ ⟨_, ⟨_, rfl, rfl⟩, rfl⟩
   refine oy rfl rfl (y_assign rfl) ?_
   refine ops_nil ?_
   refine goes_code ?_
   refine run_seq ?_
   refine run_region' ?_
   refine oy rfl rfl (y_move rfl) ?_
   refine oy rfl rfl (y_move rfl) ?_
   refine oy rfl rfl (y_build_struct (cells := #[.int .i64 41, .int .i64 d_2, .string (bs [])]) [(0, .int .i64 41), (1, .int .i64 d_2)] [(0, [.int .i64 41]), (1, [.int .i64 d_2])] Try.zeroValue55 Try.runUnderlying55 (fs_cons Try.sizeOf3 (fs_cons Try.sizeOf3 (fs_cons Try.sizeOf9 fs_nil))) rfl rfl rfl) ?_
   refine ot rfl rfl (t_lit [.agg #[.int .i64 41, .int .i64 d_2, .string (bs [])]] Try.runUnderlying29 Try.sizeOf55 Try.zeroValue55 rfl (by decide) (by decide) rfl (by simp [Value.cells, boxP])) ?_
   rintro v35 _ ⟨rfl, _⟩
   refine ops_turn (retell 6 (g := row v35 3 (([(S_api_Instr.mk 41 d_2 [])] : List S_api_Instr).map S_api_Instr.enc)) rfl rfl) ?_
   obtain ⟨hr37, h⟩ := need_some h
   refine ot rfl rfl (t_append (es := 3) 5 rfl Try.runUnderlying29 rfl Try.runUnderlying29 (.inr ⟨_, rfl⟩) Try.typeInfo55 rfl (by decide) Try.zeroValue55 rfl rfl rfl rfl (src_reads 6 rfl reads_row (map_ok S_api_Instr.enc_ok _)) (map_room hr37 (by decide)) (map_fit hr37)) ?_
   rintro v36 _ rfl
   refine ops_turn (retell 5 (g := row v36 3 ((r32 ++ ([(S_api_Instr.mk 41 d_2 [])] : List S_api_Instr)).map S_api_Instr.enc)) rfl (congrArg (row _ _) List.map_append.symm)) ?_
   refine oy rfl rfl (y_assign rfl) ?_
   refine ops_nil ?_
   refine goes_code ?_
   refine run_seq ?_
   refine run_weak [(0, v36), (2, .int .i64 d_2), (4, boxP b1 0), (8, .int .i64 (r20.length : Int))] [0, 1, 2, 3, 5] [nro s_1_X_Argsv NC_api_TExpr_48 s_1.X.Args, nro s_1_Bodyv NC_api_TStmt_50 s_1.Body, nro s_1_Elsev NC_api_TStmt_50 s_1.Else, box b1 [.int .i64 s_1.Kind, .int .i64 s_1.Slot, .int .i64 s_1.N, .string (bs s_1.Name), .int .i64 s_1.X.Op, .int .i64 s_1.X.Type_, .int .i64 s_1.X.N, .int .i64 s_1.X.Slot, .string (bs s_1.X.S), s_1_X_Argsv, s_1_Bodyv, s_1_Elsev], row v36 3 ((r32 ++ ([(S_api_Instr.mk 41 d_2 [])] : List S_api_Instr)).map S_api_Instr.enc)] (qv4 rfl rfl rfl rfl) (by decide) rfl ?_
   refine run_region' ?_
   refine oy rfl rfl (y_move rfl) ?_
   refine oy rfl rfl ((y_len 4 rfl Try.runUnderlying29 rfl rfl reads_row).to (v_len S_api_Instr.enc _)) ?_
   refine oy rfl rfl (y_assign rfl) ?_
   refine ops_nil ?_
   refine goes_code ?_
   refine run_seq ?_
   refine run_region' ?_
   refine oy rfl rfl (y_move rfl) ?_
   refine oy rfl rfl (y_build_struct (cells := #[.int .i64 37, .int .i64 0, .string (bs [])]) [(0, .int .i64 37)] [(0, [.int .i64 37])] Try.zeroValue55 Try.runUnderlying55 (fs_cons Try.sizeOf3 (fs_cons Try.sizeOf3 (fs_cons Try.sizeOf9 fs_nil))) rfl rfl rfl) ?_
   refine ot rfl rfl (t_lit [.agg #[.int .i64 37, .int .i64 0, .string (bs [])]] Try.runUnderlying29 Try.sizeOf55 Try.zeroValue55 rfl (by decide) (by decide) rfl (by simp [Value.cells, boxP])) ?_
   rintro v38 _ ⟨rfl, _⟩
   refine ops_turn (retell 5 (g := row v38 3 (([(S_api_Instr.mk 37 0 [])] : List S_api_Instr).map S_api_Instr.enc)) rfl rfl) ?_
   obtain ⟨hr40, h⟩ := need_some h
   refine ot rfl rfl (t_append (es := 3) 4 rfl Try.runUnderlying29 rfl Try.runUnderlying29 (.inr ⟨_, rfl⟩) Try.typeInfo55 rfl (by decide) Try.zeroValue55 rfl rfl rfl rfl (src_reads 5 rfl reads_row (map_ok S_api_Instr.enc_ok _)) (map_room hr40 (by decide)) (map_fit hr40)) ?_
   rintro v39 _ rfl
   refine ops_turn (retell 4 (g := row v39 3 (((r32 ++ ([(S_api_Instr.mk 41 d_2 [])] : List S_api_Instr)) ++ ([(S_api_Instr.mk 37 0 [])] : List S_api_Instr)).map S_api_Instr.enc)) rfl (congrArg (row _ _) List.map_append.symm)) ?_
   refine oy rfl rfl (y_assign rfl) ?_
   refine ops_nil ?_
   refine goes_code ?_
   refine run_seq ?_
   refine run_weak [(0, v39), (2, .int .i64 d_2), (4, boxP b1 0), (8, .int .i64 (r20.length : Int)), (9, .int .i64 ((r32 ++ ([(S_api_Instr.mk 41 d_2 [])] : List S_api_Instr)).length : Int))] [0, 1, 2, 3, 4] [nro s_1_X_Argsv NC_api_TExpr_48 s_1.X.Args, nro s_1_Bodyv NC_api_TStmt_50 s_1.Body, nro s_1_Elsev NC_api_TStmt_50 s_1.Else, box b1 [.int .i64 s_1.Kind, .int .i64 s_1.Slot, .int .i64 s_1.N, .string (bs s_1.Name), .int .i64 s_1.X.Op, .int .i64 s_1.X.Type_, .int .i64 s_1.X.N, .int .i64 s_1.X.Slot, .string (bs s_1.X.S), s_1_X_Argsv, s_1_Bodyv, s_1_Elsev], row v39 3 (((r32 ++ ([(S_api_Instr.mk 41 d_2 [])] : List S_api_Instr)) ++ ([(S_api_Instr.mk 37 0 [])] : List S_api_Instr)).map S_api_Instr.enc)] (qv5 rfl rfl rfl rfl rfl) (by decide) rfl ?_
   refine run_region' ?_
   refine oy rfl rfl (y_move rfl) ?_
   refine oy rfl rfl (y_move rfl) ?_
   refine oy rfl rfl (y_move rfl) ?_
   refine oy rfl rfl ((y_len 4 rfl Try.runUnderlying29 rfl rfl reads_row).to (v_len S_api_Instr.enc _)) ?_
   obtain ⟨x41, hzx41, hlx41, hxx41, h⟩ := idx_some h
   refine oy rfl rfl (y_indexAddrI (kd := .i64) (i := (r20.length : Int)) 4 Try.runUnderlying29 Try.sizeOf55 rfl rfl rfl reads_row hzx41 (map_lt hlx41)) ?_
   refine oy rfl rfl (y_fieldAddr_elem (sz := 0) Try.runUnderlying55 rfl Try.sizeOf3 rfl) ?_
   refine ot rfl rfl (t_store_row (i := ((r20.length : Int)).toNat) (j := 1) (c := S_api_Instr.enc x41) 4 Try.sizeOf3 rfl rfl rfl rfl (map_get hxx41) (by decide) (by simp [Value.cells, Value.oneCell', boxP])) ?_
   rintro _ _ ⟨rfl, rfl⟩
   obtain hxx42 : ((((r32 ++ ([(S_api_Instr.mk 41 d_2 [])] : List S_api_Instr)) ++ ([(S_api_Instr.mk 37 0 [])] : List S_api_Instr)).set (((r20.length : Int)).toNat) (S_api_Instr.mk x41.Op (((r32 ++ ([(S_api_Instr.mk 41 d_2 [])] : List S_api_Instr)) ++ ([(S_api_Instr.mk 37 0 [])] : List S_api_Instr)).length : Int) x41.S)) : List S_api_Instr)[((r20.length : Int)).toNat]? = some (S_api_Instr.mk x41.Op (((r32 ++ ([(S_api_Instr.mk 41 d_2 [])] : List S_api_Instr)) ++ ([(S_api_Instr.mk 37 0 [])] : List S_api_Instr)).length : Int) x41.S) := set_at hlx41
   obtain hlx42 : ((r20.length : Int)).toNat < ((((r32 ++ ([(S_api_Instr.mk 41 d_2 [])] : List S_api_Instr)) ++ ([(S_api_Instr.mk 37 0 [])] : List S_api_Instr)).set (((r20.length : Int)).toNat) (S_api_Instr.mk x41.Op (((r32 ++ ([(S_api_Instr.mk 41 d_2 [])] : List S_api_Instr)) ++ ([(S_api_Instr.mk 37 0 [])] : List S_api_Instr)).length : Int) x41.S)) : List S_api_Instr).length := set_lt hlx41
   obtain hzx42 : (0 : Int) ≤ (r20.length : Int) := id hzx41
   refine ops_turn (retell 4 (g := row v39 3 ((((r32 ++ ([(S_api_Instr.mk 41 d_2 [])] : List S_api_Instr)) ++ ([(S_api_Instr.mk 37 0 [])] : List S_api_Instr)).set (((r20.length : Int)).toNat) (S_api_Instr.mk x41.Op (((r32 ++ ([(S_api_Instr.mk 41 d_2 [])] : List S_api_Instr)) ++ ([(S_api_Instr.mk 37 0 [])] : List S_api_Instr)).length : Int) x41.S)).map S_api_Instr.enc)) rfl (congrArg (row _ _) (map_set_at rfl))) ?_
   refine ops_nil ?_
   refine goes_code ?_
   refine run_seq ?_
   refine run_region' ?_
   refine oy rfl rfl (y_move rfl) ?_
   refine oy rfl rfl (y_fieldAddr_box (sz := 0) Try.runUnderlying50 rfl Try.sizeOf23 rfl) ?_
   refine oy rfl rfl (y_load_box 3 Try.isAgg23 rfl rfl rfl) ?_
   refine oy rfl rfl (y_move rfl) ?_
   obtain ⟨r43, hr44, h⟩ := obind_some h
   refine ot rfl rfl (t_callx (vs := [v39, s_1_Elsev, .int .i64 d_2]) (cs := []) [(4, 2), (2, 0)] rfl Try.call22 rfl (hrec_ref28_block_v1  (((r32 ++ ([(S_api_Instr.mk 41 d_2 [])] : List S_api_Instr)) ++ ([(S_api_Instr.mk 37 0 [])] : List S_api_Instr)).set (((r20.length : Int)).toNat) (S_api_Instr.mk x41.Op (((r32 ++ ([(S_api_Instr.mk 41 d_2 [])] : List S_api_Instr)) ++ ([(S_api_Instr.mk 37 0 [])] : List S_api_Instr)).length : Int) x41.S)) s_1.Else d_2 v39 s_1_Elsev hr44) (showsX_lend 4 rfl (showsX_view 2 rfl views_nro showsX_nil)) rfl (.inl rfl)) ?_
   rintro v45 _ ⟨_, ⟨_, rfl, rfl⟩, rfl⟩
   refine oy rfl rfl (y_assign rfl) ?_
   refine ops_nil ?_
   refine goes_code ?_
   refine run_seq ?_
   refine run_weak [(0, v45), (2, .int .i64 d_2), (9, .int .i64 ((r32 ++ ([(S_api_Instr.mk 41 d_2 [])] : List S_api_Instr)).length : Int))] [5] [row v45 3 (r43.map S_api_Instr.enc)] (qv3 rfl rfl rfl) (by decide) rfl ?_
   refine run_region' ?_
   refine oy rfl rfl (y_move rfl) ?_
   refine oy rfl rfl (y_move rfl) ?_
   refine oy rfl rfl (y_build_struct (cells := #[.int .i64 41, .int .i64 d_2, .string (bs [])]) [(0, .int .i64 41), (1, .int .i64 d_2)] [(0, [.int .i64 41]), (1, [.int .i64 d_2])] Try.zeroValue55 Try.runUnderlying55 (fs_cons Try.sizeOf3 (fs_cons Try.sizeOf3 (fs_cons Try.sizeOf9 fs_nil))) rfl rfl rfl) ?_
   refine ot rfl rfl (t_lit [.agg #[.int .i64 41, .int .i64 d_2, .string (bs [])]] Try.runUnderlying29 Try.sizeOf55 Try.zeroValue55 rfl (by decide) (by decide) rfl (by simp [Value.cells, boxP])) ?_
   rintro v46 _ ⟨rfl, _⟩
   refine ops_turn (retell 1 (g := row v46 3 (([(S_api_Instr.mk 41 d_2 [])] : List S_api_Instr).map S_api_Instr.enc)) rfl rfl) ?_
   obtain ⟨hr48, h⟩ := need_some h
   refine ot rfl rfl (t_append (es := 3) 0 rfl Try.runUnderlying29 rfl Try.runUnderlying29 (.inr ⟨_, rfl⟩) Try.typeInfo55 rfl (by decide) Try.zeroValue55 rfl rfl rfl rfl (src_reads 1 rfl reads_row (map_ok S_api_Instr.enc_ok _)) (map_room hr48 (by decide)) (map_fit hr48)) ?_
   rintro v47 _ rfl
   refine ops_turn (retell 0 (g := row v47 3 ((r43 ++ ([(S_api_Instr.mk 41 d_2 [])] : List S_api_Instr)).map S_api_Instr.enc)) rfl (congrArg (row _ _) List.map_append.symm)) ?_
   refine oy rfl rfl (y_assign rfl) ?_
   refine ops_nil ?_
   refine goes_code ?_
   refine run_seq ?_
   refine run_region' ?_
   refine oy rfl rfl (y_move rfl) ?_
   refine oy rfl rfl (y_move rfl) ?_
   refine oy rfl rfl (y_move rfl) ?_
   refine oy rfl rfl ((y_len 0 rfl Try.runUnderlying29 rfl rfl reads_row).to (v_len S_api_Instr.enc _)) ?_
   obtain ⟨x49, hzx49, hlx49, hxx49, h⟩ := idx_some h
   refine oy rfl rfl (y_indexAddrI (kd := .i64) (i := ((r32 ++ ([(S_api_Instr.mk 41 d_2 [])] : List S_api_Instr)).length : Int)) 0 Try.runUnderlying29 Try.sizeOf55 rfl rfl rfl reads_row hzx49 (map_lt hlx49)) ?_
   refine oy rfl rfl (y_fieldAddr_elem (sz := 0) Try.runUnderlying55 rfl Try.sizeOf3 rfl) ?_
   refine ot rfl rfl (t_store_row (i := (((r32 ++ ([(S_api_Instr.mk 41 d_2 [])] : List S_api_Instr)).length : Int)).toNat) (j := 1) (c := S_api_Instr.enc x49) 0 Try.sizeOf3 rfl rfl rfl rfl (map_get hxx49) (by decide) (by simp [Value.cells, Value.oneCell', boxP])) ?_
   rintro _ _ ⟨rfl, rfl⟩
   obtain hxx50 : (((r43 ++ ([(S_api_Instr.mk 41 d_2 [])] : List S_api_Instr)).set ((((r32 ++ ([(S_api_Instr.mk 41 d_2 [])] : List S_api_Instr)).length : Int)).toNat) (S_api_Instr.mk x49.Op ((r43 ++ ([(S_api_Instr.mk 41 d_2 [])] : List S_api_Instr)).length : Int) x49.S)) : List S_api_Instr)[(((r32 ++ ([(S_api_Instr.mk 41 d_2 [])] : List S_api_Instr)).length : Int)).toNat]? = some (S_api_Instr.mk x49.Op ((r43 ++ ([(S_api_Instr.mk 41 d_2 [])] : List S_api_Instr)).length : Int) x49.S) := set_at hlx49
   obtain hlx50 : (((r32 ++ ([(S_api_Instr.mk 41 d_2 [])] : List S_api_Instr)).length : Int)).toNat < (((r43 ++ ([(S_api_Instr.mk 41 d_2 [])] : List S_api_Instr)).set ((((r32 ++ ([(S_api_Instr.mk 41 d_2 [])] : List S_api_Instr)).length : Int)).toNat) (S_api_Instr.mk x49.Op ((r43 ++ ([(S_api_Instr.mk 41 d_2 [])] : List S_api_Instr)).length : Int) x49.S)) : List S_api_Instr).length := set_lt hlx49
   obtain hzx50 : (0 : Int) ≤ ((r32 ++ ([(S_api_Instr.mk 41 d_2 [])] : List S_api_Instr)).length : Int) := id hzx49
   refine ops_turn (retell 0 (g := row v47 3 (((r43 ++ ([(S_api_Instr.mk 41 d_2 [])] : List S_api_Instr)).set ((((r32 ++ ([(S_api_Instr.mk 41 d_2 [])] : List S_api_Instr)).length : Int)).toNat) (S_api_Instr.mk x49.Op ((r43 ++ ([(S_api_Instr.mk 41 d_2 [])] : List S_api_Instr)).length : Int) x49.S)).map S_api_Instr.enc)) rfl (congrArg (row _ _) (map_set_at rfl))) ?_
   refine ops_nil ?_
   refine goes_code ?_
   refine run_seq ?_
   refine run_weak [(0, v47)] [0] [row v47 3 (((r43 ++ ([(S_api_Instr.mk 41 d_2 [])] : List S_api_Instr)).set ((((r32 ++ ([(S_api_Instr.mk 41 d_2 [])] : List S_api_Instr)).length : Int)).toNat) (S_api_Instr.mk x49.Op ((r43 ++ ([(S_api_Instr.mk 41 d_2 [])] : List S_api_Instr)).length : Int) x49.S)).map S_api_Instr.enc)] (qv1 rfl) (by decide) rfl ?_
   refine run_region' ?_
   refine oy rfl rfl (y_move rfl) ?_
   refine oy rfl rfl (y_assign rfl) ?_
   refine ops_nil ?_
   refine goes_code ?_
   refine run_ret ?_
   obtain rfl := some_eq h
   refine fin_slots [6] [v47] [0] [row v47 3 (((r43 ++ ([(S_api_Instr.mk 41 d_2 [])] : List S_api_Instr)).set ((((r32 ++ ([(S_api_Instr.mk 41 d_2 [])] : List S_api_Instr)).length : Int)).toNat) (S_api_Instr.mk x49.Op ((r43 ++ ([(S_api_Instr.mk 41 d_2 [])] : List S_api_Instr)).length : Int) x49.S)).map S_api_Instr.enc)] Try.results43 rfl (by decide) rfl ?_
   exact ⟨_, rfl, rfl⟩

def ref28_block_v1_L1 (n : Nat) (l_1 : (List S_api_TStmt)) (rec_ref28_block_v1 : (List S_api_Instr) → (List S_api_TStmt) → Int → Option ((List S_api_Instr))) : ((List S_api_Instr) × Int × Int) → Option (Lp ((List S_api_Instr) × Int × Int) (Lp ((List S_api_Instr)) ((List S_api_Instr)))) :=
 fun (out_7, d_8, i_9) =>
  cond (decide (i_9 < (l_1.length : Int)))
   (bindJ (S := (List S_api_Instr) × Int)
    (idx l_1 i_9 fun x23 =>
    obind (ref28_stmt_v8 n rec_ref28_block_v1 out_7 x23 d_8) fun r27 =>
    cond (decide (x23.Kind = 1))
     (some (.go (r27, (IntKind.i64.wrap (d_8 + 1)))))
     (some (.go (r27, d_8))))
   (fun (out_16, d_17) =>
    some (.go (out_16, d_17, (IntKind.i64.wrap (i_9 + 1))))))
   (some (.stop (.go out_7)))
def ref28_block_v1_body (n : Nat) (rec_ref28_block_v1 : (List S_api_Instr) → (List S_api_TStmt) → Int → Option ((List S_api_Instr))) (out_0 : (List S_api_Instr)) (l_1 : (List S_api_TStmt)) (d_2 : Int) : Option ((List S_api_Instr)) :=
 bindJ (S := (List S_api_Instr))
  (iter (ref28_block_v1_L1 n l_1 rec_ref28_block_v1) n (out_0, d_2, 0))
 (fun out_1 =>
  some out_1)
theorem ref28_block_v1_body_ok (n : Nat) (rec_ref28_block_v1 : (List S_api_Instr) → (List S_api_TStmt) → Int → Option ((List S_api_Instr))) (hrec_ref28_block_v1 : ∀ (out_0 : (List S_api_Instr)) (l_1 : (List S_api_TStmt)) (d_2 : Int) (out_0v : Value) (l_1v : Value) {r : (List S_api_Instr)}, rec_ref28_block_v1 out_0 l_1 d_2 = some r → Meets Try.prog 22 [out_0v, l_1v, .int .i64 d_2] [row out_0v 3 (out_0.map S_api_Instr.enc), nro l_1v NC_api_TStmt_50 l_1] (fun v G => ∃ v0, v = v0 ∧ G = [row v0 3 (r.map S_api_Instr.enc)])) (out_0 : (List S_api_Instr)) (l_1 : (List S_api_TStmt)) (d_2 : Int) (out_0v : Value) (l_1v : Value) {r : (List S_api_Instr)} (h : ref28_block_v1_body n rec_ref28_block_v1 out_0 l_1 d_2 = some r) :
  Meets Try.prog 22 [out_0v, l_1v, .int .i64 d_2] [row out_0v 3 (out_0.map S_api_Instr.enc), nro l_1v NC_api_TStmt_50 l_1] (fun v G => ∃ v0, v = v0 ∧ G = [row v0 3 (r.map S_api_Instr.enc)]) := by
 refine fn_of_run Try.func22 rfl Try.ntmps22 rfl (fun w0 o0 => ?_)
 refine run_seq ?_
 refine run_region' ?_
 refine oy rfl rfl (y_assign rfl) ?_
 refine ops_nil ?_
 refine goes_code ?_
 obtain ⟨o3, h, ho4⟩ := bindJ_some h
 refine run_cut (((List S_api_Instr)) × (Value)) (fun σ => [(0, σ.2)]) (fun σ => [row σ.2 3 (σ.1.map S_api_Instr.enc)]) (fun σ => o3 = .go σ.1) (fun L6 hL5 => ?_) ?_
 ·
  refine run_seq ?_
  refine run_region' ?_
  refine oy rfl rfl (y_assign rfl) ?_
  refine ops_nil ?_
  refine goes_code ?_
  refine run_block ?_
  refine run_iter (step := ref28_block_v1_L1 n l_1 rec_ref28_block_v1) (n := n) (s0 := (out_0, d_2, 0)) h (G := Value) out_0v (fun σ γ => [(0, γ), (2, .int .i64 σ.2.1), (7, .int .i64 σ.2.2), (1, l_1v)]) (fun σ γ => [row γ 3 (σ.1.map S_api_Instr.enc), nro l_1v NC_api_TStmt_50 l_1]) [0, 1] (qv4 rfl rfl rfl rfl) (by decide) rfl ?_
  rintro ⟨out_7, d_8, i_9⟩ v10 o11 h L14 hgo12 hstop13
  change Run _ _ _ (VF.of [(0, v10), (2, .int .i64 d_8), (7, .int .i64 i_9), (1, l_1v)]) [row v10 3 (out_7.map S_api_Instr.enc), nro l_1v NC_api_TStmt_50 l_1]
  refine run_seq ?_
  refine run_seq ?_
  refine run_region' ?_
  refine oy rfl rfl (y_move rfl) ?_
  refine oy rfl rfl (y_move rfl) ?_
  refine oy rfl rfl (y_lenN 1 rfl Try.runUnderlying23 rfl rfl readsN_ro) ?_
  refine oy rfl rfl (y_lss rfl rfl) ?_
  refine ops_nil ?_
  refine goes_code ?_
  refine run_cond (decide (i_9 < (l_1.length : Int))) rfl (fun hc15 => ?_) (fun hc15 => ?_)
  ·replace h := cond_t h hc15
   refine run_skip ?_
   refine goes_code ?_
   obtain ⟨o19, h, ho20⟩ := bindJ_some h
   refine run_cut (((List S_api_Instr) × Int) × (Value)) (fun σ => [(0, σ.2), (2, .int .i64 σ.1.2), (1, l_1v), (7, .int .i64 i_9)]) (fun σ => [row σ.2 3 (σ.1.1.map S_api_Instr.enc), nro l_1v NC_api_TStmt_50 l_1]) (fun σ => o19 = .go σ.1) (fun L22 hL21 => ?_) ?_
   ·
    refine run_block ?_
    refine run_seq ?_
    refine run_region' ?_
    refine oy rfl rfl (y_move rfl) ?_
    refine oy rfl rfl (y_move rfl) ?_
    refine oy rfl rfl (y_move rfl) ?_
    obtain ⟨x23, hzx23, hlx23, hxx23, h⟩ := idx_some h
    refine oy rfl rfl (y_indexAddrN (kd := .i64) (i := i_9) 1 Try.runUnderlying23 Try.sizeOf50 rfl rfl rfl readsN_ro hzx23 hlx23) ?_
    refine ops_ex (exAtT (T := T_api_TStmt_50) (i := i_9.toNat) 1 rfl hxx23) ?_
    rintro ⟨g24, g25, g26⟩
    refine oy rfl rfl (y_load_atagg (n := i_9.toNat * 12) (j := 0) (c := [.int .i64 x23.Kind, .int .i64 x23.Slot, .int .i64 x23.N, .string (bs x23.Name), .int .i64 x23.X.Op, .int .i64 x23.X.Type_, .int .i64 x23.X.N, .int .i64 x23.X.Slot, .string (bs x23.X.S), g24, g25, g26]) 2 Try.isAgg50 Try.sizeOf50 rfl rfl rfl) ?_
    refine oy rfl rfl (y_move rfl) ?_
    obtain ⟨r27, hr28, h⟩ := obind_some h
    refine ot rfl rfl (t_callx (vs := [v10, .agg #[.int .i64 x23.Kind, .int .i64 x23.Slot, .int .i64 x23.N, .string (bs x23.Name), .int .i64 x23.X.Op, .int .i64 x23.X.Type_, .int .i64 x23.X.N, .int .i64 x23.X.Slot, .string (bs x23.X.S), g24, g25, g26], .int .i64 d_8]) (cs := []) [(0, 2), (3, 0), (4, 0), (5, 0)] rfl Try.call43 rfl (ref28_stmt_v8_ok n rec_ref28_block_v1 hrec_ref28_block_v1 out_7 x23 d_8 v10 g24 g25 g26 hr28) (showsX_lend 0 rfl (showsX_view 3 rfl views_nro (showsX_view 4 rfl views_nro (showsX_view 5 rfl views_nro showsX_nil)))) rfl (.inl rfl)) ?_
    rintro v29 _ ⟨_, ⟨_, rfl, rfl⟩, rfl⟩
    refine oy rfl rfl (y_assign rfl) ?_
    refine ops_nil ?_
    refine goes_code ?_
    refine run_seq ?_
    refine run_weak [(0, v29), (2, .int .i64 d_8), (7, .int .i64 i_9), (1, l_1v)] [1, 6] [nro l_1v NC_api_TStmt_50 l_1, row v29 3 (r27.map S_api_Instr.enc)] (qv4 rfl rfl rfl rfl) (by decide) rfl ?_
    refine run_region' ?_
    refine oy rfl rfl (y_move rfl) ?_
    refine oy rfl rfl (y_move rfl) ?_
    refine oy rfl rfl (y_indexAddrN (kd := .i64) (i := i_9) 0 Try.runUnderlying23 Try.sizeOf50 rfl rfl rfl readsN_ro hzx23 hlx23) ?_
    refine ops_ex (exAtT (T := T_api_TStmt_50) (i := i_9.toNat) 0 rfl hxx23) ?_
    rintro ⟨g30, g31, g32⟩
    refine oy rfl rfl (y_fieldAddr_elem (sz := 0) Try.runUnderlying50 rfl Try.sizeOf3 rfl) ?_
    refine oy rfl rfl (y_load_at (n := i_9.toNat * 12) (j := 0) 2 Try.isAgg3 rfl rfl rfl) ?_
    refine oy rfl rfl (y_eql rfl rfl) ?_
    refine ops_nil ?_
    refine goes_code ?_
    refine run_cond (decide (x23.Kind = 1)) rfl (fun hc33 => ?_) (fun hc33 => ?_)
    ·replace h := cond_t h hc33
     refine run_region' ?_
     refine oy rfl rfl (y_move rfl) ?_
     refine oy rfl rfl (y_add rfl rfl) ?_
     refine oy rfl rfl (y_assign rfl) ?_
     refine ops_nil ?_
     refine goes_blk ?_
     obtain rfl := some_eq h
     exact goes_cut hL21 ((r27, (IntKind.i64.wrap (d_8 + 1))), v29) [1, 0] (qv4 rfl rfl rfl rfl) (by decide) rfl rfl
    ·replace h := cond_f h hc33
     refine run_skip ?_
     refine goes_blk ?_
     obtain rfl := some_eq h
     exact goes_cut hL21 ((r27, d_8), v29) [1, 0] (qv4 rfl rfl rfl rfl) (by decide) rfl rfl
   rintro ⟨⟨out_16, d_17⟩, v18⟩ hj
   obtain rfl : o19 = _ := hj
   replace h := after_go ho20
   clear ho20
   change Run _ _ _ (VF.of [(0, v18), (2, .int .i64 d_17), (1, l_1v), (7, .int .i64 i_9)]) [row v18 3 (out_16.map S_api_Instr.enc), nro l_1v NC_api_TStmt_50 l_1]
   refine run_region' ?_
   refine oy rfl rfl (y_move rfl) ?_
   refine oy rfl rfl (y_add rfl rfl) ?_
   refine oy rfl rfl (y_assign rfl) ?_
   refine ops_nil ?_
   obtain rfl := some_eq h
   exact goes_iter hgo12 (out_16, d_17, (IntKind.i64.wrap (i_9 + 1))) v18 [0, 1] rfl (qv4 rfl rfl rfl rfl) (by decide) rfl
  ·replace h := cond_f h hc15
   refine run_exit _ rfl ?_
   obtain rfl := some_eq h
   obtain rfl := hstop13 _ rfl
   exact goes_cut hL5 (out_7, v10) [0] (qv1 rfl) (by decide) rfl rfl
 rintro ⟨out_1, v2⟩ hj
 obtain rfl : o3 = _ := hj
 replace h := after_go ho4
 clear ho4
 change Run _ _ _ (VF.of [(0, v2)]) [row v2 3 (out_1.map S_api_Instr.enc)]
 refine run_seq ?_
 refine run_region' ?_
 refine oy rfl rfl (y_move rfl) ?_
 refine oy rfl rfl (y_assign rfl) ?_
 refine ops_nil ?_
 refine goes_code ?_
 refine run_ret ?_
 obtain rfl := some_eq h
 refine fin_slots [6] [v2] [0] [row v2 3 (out_1.map S_api_Instr.enc)] Try.results22 rfl (by decide) rfl ?_
 exact ⟨_, rfl, rfl⟩
def ref28_block_v1 : Nat → (List S_api_Instr) → (List S_api_TStmt) → Int → Option ((List S_api_Instr))
 | 0 => fun _ _ _ => none
 | n + 1 => ref28_block_v1_body n  (ref28_block_v1 n )
theorem ref28_block_v1_ok (n : Nat)  : ∀ (out_0 : (List S_api_Instr)) (l_1 : (List S_api_TStmt)) (d_2 : Int) (out_0v : Value) (l_1v : Value) {r : (List S_api_Instr)}, ref28_block_v1 n  out_0 l_1 d_2 = some r → Meets Try.prog 22 [out_0v, l_1v, .int .i64 d_2] [row out_0v 3 (out_0.map S_api_Instr.enc), nro l_1v NC_api_TStmt_50 l_1] (fun v G => ∃ v0, v = v0 ∧ G = [row v0 3 (r.map S_api_Instr.enc)]) := by
 induction n with
 | zero => intro out_0 l_1 d_2 out_0v l_1v r h; cases h
 | succ n ih => intro out_0 l_1 d_2 out_0v l_1v r h; exact ref28_block_v1_body_ok n   (ref28_block_v1 n ) (fun out_0 l_1 d_2 out_0v l_1v r h => ih out_0 l_1 d_2 out_0v l_1v h) out_0 l_1 d_2 out_0v l_1v h

def ref28_Compile (n : Nat) (p_0 : S_api_Program) : Option (S_ref28_Made) :=
 need (([] : List Int).length + p_0.Effects.length ≤ 4294967296) (
 obind (ref28_block_v1 n ([] : List S_api_Instr) p_0.Code 0) fun r6 =>
 cond (decide (65536 < (r6.length : Int)))
  (some (S_ref28_Made.mk (S_api_Module.mk [] ([] : List Int) ([] : List S_api_Instr)) 2))
  (some (S_ref28_Made.mk (S_api_Module.mk p_0.Name (([] : List Int) ++ p_0.Effects) r6) 0)))
theorem ref28_Compile_ok (n : Nat) (p_0 : S_api_Program) (p_0_Effectsv : Value) (p_0_Codev : Value) {r : S_ref28_Made} (h : ref28_Compile n p_0 = some r) :
  Meets Try.prog 10 [.agg #[.string (bs p_0.Name), p_0_Effectsv, p_0_Codev]] [ro p_0_Effectsv 1 (p_0.Effects.map (eInt .i64)), nro p_0_Codev NC_api_TStmt_50 p_0.Code] (fun v G => ∃ v0 v1, v = .agg #[.string (bs r.M.Name), v0, v1, .int .i64 r.E] ∧ G = [row v0 1 (r.M.Effects.map (eInt .i64)), row v1 3 (r.M.Code.map S_api_Instr.enc)]) := by
 refine fn_of_run Try.func10 rfl Try.ntmps10 rfl (fun w0 o0 => ?_)
 refine run_seq ?_
 refine run_region' ?_
 refine ot rfl rfl (t_box rfl) ?_
 rintro _ _ ⟨b1, rfl, rfl⟩
 refine ot rfl rfl (t_alloc Try.zeroValue36) ?_
 rintro _ _ ⟨b2, rfl, rfl⟩
 refine ops_nil ?_
 refine goes_code ?_
 refine run_seq ?_
 obtain ⟨hr5, h⟩ := need_some h
 obtain ⟨r6, hr7, h⟩ := obind_some h
 refine run_drawany [ro p_0_Effectsv 1 (p_0.Effects.map (eInt .i64)), nro p_0_Codev NC_api_TStmt_50 p_0.Code, box b1 [.string (bs p_0.Name), p_0_Effectsv, p_0_Codev], box b2 [.string (bs []), .slice none 0 0, .slice none 0 0, .int .i64 0]] (by kernel_rfl) ?_
 refine any_y 0 rfl (by kernel_rfl) (by kernel_rfl) (by kernel_rfl) (ss (ss (ss (ss (sn))))) (wn rfl) rfl (y_fieldAddr_box (sz := 0) Try.runUnderlying25 rfl Try.sizeOf9 rfl) ?_
 refine any_y 1 rfl (by kernel_rfl) (by kernel_rfl) (by kernel_rfl) (ss (ss (ss (ss (sn))))) (wn rfl) rfl (y_load_box 2 Try.isAgg9 rfl rfl rfl) ?_
 refine any_y 3 rfl (by kernel_rfl) (by kernel_rfl) (by kernel_rfl) (ss (ss (ss (ss (sn))))) (wn rfl) rfl (y_fieldAddr_box (sz := 0) Try.runUnderlying25 rfl Try.sizeOf22 rfl) ?_
 refine any_y 4 rfl (by kernel_rfl) (by kernel_rfl) (by kernel_rfl) (ss (ss (ss (ss (sn))))) (wn rfl) rfl (y_load_box 2 Try.isAgg22 rfl rfl rfl) ?_
 refine any_y 6 rfl (by kernel_rfl) (by kernel_rfl) (by kernel_rfl) (ss (ss (ss (ss (sn))))) (wn rfl) rfl (y_fieldAddr_box (sz := 0) Try.runUnderlying25 rfl Try.sizeOf23 rfl) ?_
 refine any_y 7 rfl (by kernel_rfl) (by kernel_rfl) (by kernel_rfl) (ss (ss (ss (ss (sn))))) (wn rfl) rfl (y_load_box 2 Try.isAgg23 rfl rfl rfl) ?_
 refine any_cut2 #[true, true, true, true, true, true, true, true, true, true, true, true] 0 (Nat × Value × Value) (fun σ => [(2, boxP b2 0), (3, boxP σ.1 0)]) (fun σ => [ro p_0_Effectsv 1 (p_0.Effects.map (eInt .i64)), nro p_0_Codev NC_api_TStmt_50 p_0.Code, box b1 [.string (bs p_0.Name), p_0_Effectsv, p_0_Codev], box b2 [.string (bs []), .slice none 0 0, .slice none 0 0, .int .i64 0], row σ.2.1 1 ((([] : List Int) ++ p_0.Effects).map (eInt .i64)), HA.emp, row σ.2.2 3 (r6.map S_api_Instr.enc), box σ.1 [.string (bs p_0.Name), σ.2.1, σ.2.2]]) ?_ (fun hK26 => ?_)
 ·rintro ⟨b23, v16, v18⟩
  change AnyL _ _ _ _ _ (VF.of [(2, boxP b2 0), (3, boxP b23 0)]) [ro p_0_Effectsv 1 (p_0.Effects.map (eInt .i64)), nro p_0_Codev NC_api_TStmt_50 p_0.Code, box b1 [.string (bs p_0.Name), p_0_Effectsv, p_0_Codev], box b2 [.string (bs []), .slice none 0 0, .slice none 0 0, .int .i64 0], row v16 1 ((([] : List Int) ++ p_0.Effects).map (eInt .i64)), HA.emp, row v18 3 (r6.map S_api_Instr.enc), box b23 [.string (bs p_0.Name), v16, v18]] _
  refine any_nil (by kernel_rfl) ?_
  refine goes_code ?_
  refine run_seq ?_
  refine run_seq ?_
  refine run_region' ?_
  refine oy rfl rfl (y_fieldAddr_box (sz := 0) Try.runUnderlying31 rfl Try.sizeOf29 rfl) ?_
  refine oy rfl rfl (y_load_box 7 Try.isAgg29 rfl rfl rfl) ?_
  refine oy rfl rfl ((y_len 6 rfl Try.runUnderlying29 rfl rfl reads_row).to (v_len S_api_Instr.enc _)) ?_
  refine oy rfl rfl (y_gtr rfl rfl) ?_
  refine ops_nil ?_
  refine goes_code ?_
  refine run_cond (decide (65536 < (r6.length : Int))) rfl (fun hc27 => ?_) (fun hc27 => ?_)
  ·replace h := cond_t h hc27
   refine run_seq ?_
   refine run_region' ?_
   refine oy rfl rfl (y_build_struct (cells := #[.string (bs []), .slice none 0 0, .slice none 0 0, .int .i64 2]) [(1, .int .i64 2)] [(1, [.int .i64 2])] Try.zeroValue36 Try.runUnderlying36 (fs_cons Try.sizeOf31 (fs_cons Try.sizeOf32 fs_nil)) rfl rfl rfl) ?_
   refine ot rfl rfl (t_store 3 Try.sizeOf36 rfl rfl rfl rfl (by simp [Value.cells, boxP]) (by simp [Value.cells, Value.oneCell', boxP])) ?_
   rintro _ _ ⟨rfl, rfl⟩
   refine ops_turn (retell 3 (g := box b2 [.string (bs []), .slice none 0 0, .slice none 0 0, .int .i64 2]) rfl rfl) ?_
   refine ops_nil ?_
   refine goes_code ?_
   refine run_ret ?_
   refine fin_turn (nilrow 1) ?_
   refine fin_turn (retell 8 (g := row (.slice none 0 0) 1 (([] : List Int).map (eInt .i64))) rfl rfl) ?_
   refine fin_turn (nilrow 3) ?_
   refine fin_turn (retell 9 (g := row (.slice none 0 0) 3 (([] : List S_api_Instr).map S_api_Instr.enc)) rfl rfl) ?_
   obtain rfl := some_eq h
   refine fin_res [.cell 2 36] [.agg #[.string (bs []), (.slice none 0 0), (.slice none 0 0), .int .i64 2]] [8, 9] [row (.slice none 0 0) 1 (([] : List Int).map (eInt .i64)), row (.slice none 0 0) 3 (([] : List S_api_Instr).map S_api_Instr.enc)] Try.results10 rfl (rescons (res_box 3 Try.isAgg36 Try.sizeOf36 rfl rfl rfl) resnil) (by decide) rfl ?_
   exact ⟨_, _, rfl, rfl⟩
  ·replace h := cond_f h hc27
   refine run_skip ?_
   refine goes_code ?_
   refine run_seq ?_
   refine run_region' ?_
   refine oy rfl rfl (y_load_boxagg (c := [.string (bs p_0.Name), v16, v18]) 7 Try.isAgg31 Try.sizeOf31 rfl rfl rfl) ?_
   refine ops_slc 4 rfl reads_row (fun hs28 hs28o => ?_)
   refine ops_slc 6 rfl reads_row (fun hs29 hs29o => ?_)
   refine oy rfl rfl (y_build_struct (cells := #[.string (bs p_0.Name), v16, v18, .int .i64 0]) [(0, .agg #[.string (bs p_0.Name), v16, v18])] [(0, [.string (bs p_0.Name), v16, v18])] Try.zeroValue36 Try.runUnderlying36 (fs_cons Try.sizeOf31 (fs_cons Try.sizeOf32 fs_nil)) rfl (by first | (simp only [List.map_cons, List.map_nil, hs28, hs29]; done) | (simp only [List.map_cons, List.map_nil, hs28, hs29]; rfl)) rfl) ?_
   refine ops_slc 4 rfl reads_row (fun hs30 hs30o => ?_)
   refine ops_slc 6 rfl reads_row (fun hs31 hs31o => ?_)
   refine ot rfl rfl (t_store 3 Try.sizeOf36 rfl rfl rfl rfl (by simp [Value.cells, boxP]) (allL_cons rfl (allL_cons hs30o (allL_cons hs31o (allL_cons rfl (allL_nil)))))) ?_
   rintro _ _ ⟨rfl, rfl⟩
   refine ops_turn (retell 3 (g := box b2 [.string (bs p_0.Name), v16, v18, .int .i64 0]) rfl rfl) ?_
   refine ops_nil ?_
   refine goes_code ?_
   refine run_ret ?_
   obtain rfl := some_eq h
   refine fin_res [.cell 2 36] [.agg #[.string (bs p_0.Name), v16, v18, .int .i64 0]] [4, 6] [row v16 1 ((([] : List Int) ++ p_0.Effects).map (eInt .i64)), row v18 3 (r6.map S_api_Instr.enc)] Try.results10 rfl (rescons (res_box 3 Try.isAgg36 Try.sizeOf36 rfl rfl rfl) resnil) (by decide) rfl ?_
   exact ⟨_, _, rfl, rfl⟩
 refine any_cut2 #[true, true, true, true, true, true, true, true, true, true, true, false] 1 (Value × Value × Nat) (fun σ => [(2, boxP b2 0), (13, .agg #[.string (bs p_0.Name), σ.1, σ.2.1]), (3, boxP σ.2.2 0)]) (fun σ => [ro p_0_Effectsv 1 (p_0.Effects.map (eInt .i64)), nro p_0_Codev NC_api_TStmt_50 p_0.Code, box b1 [.string (bs p_0.Name), p_0_Effectsv, p_0_Codev], box b2 [.string (bs []), .slice none 0 0, .slice none 0 0, .int .i64 0], row σ.1 1 ((([] : List Int) ++ p_0.Effects).map (eInt .i64)), HA.emp, row σ.2.1 3 (r6.map S_api_Instr.enc), box σ.2.2 [.string (bs []), .slice none 0 0, .slice none 0 0]]) ?_ (fun hK32 => ?_)
 ·rintro ⟨v16, v18, b23⟩
  change AnyL _ _ _ _ _ (VF.of [(2, boxP b2 0), (13, .agg #[.string (bs p_0.Name), v16, v18]), (3, boxP b23 0)]) [ro p_0_Effectsv 1 (p_0.Effects.map (eInt .i64)), nro p_0_Codev NC_api_TStmt_50 p_0.Code, box b1 [.string (bs p_0.Name), p_0_Effectsv, p_0_Codev], box b2 [.string (bs []), .slice none 0 0, .slice none 0 0, .int .i64 0], row v16 1 ((([] : List Int) ++ p_0.Effects).map (eInt .i64)), HA.emp, row v18 3 (r6.map S_api_Instr.enc), box b23 [.string (bs []), .slice none 0 0, .slice none 0 0]] _
  refine any_all [11] (by kernel_rfl) rfl ?_
  refine anyo_cons ?_ ?_
  ·
   refine anyo_slc 4 rfl reads_row (fun hs33 hs33o => ?_)
   refine anyo_slc 6 rfl reads_row (fun hs34 hs34o => ?_)
   refine any_t rfl (wn rfl) rfl (t_store 7 Try.sizeOf31 rfl rfl rfl rfl (by simp [Value.cells, boxP]) (allL_cons rfl (allL_cons hs33o (allL_cons hs34o (allL_nil))))) ?_
   rintro _ _ ⟨rfl, rfl⟩
   refine ⟨(ss (ss (ss (ss (sn))))), ?_⟩
   refine any_turn (retell 7 (g := box b23 [.string (bs p_0.Name), v16, v18]) rfl rfl) ?_
   exact any_weak2 (hK26 (b23, v16, v18)) [0, 1, 2, 3, 4, 5, 6, 7] (by kernel_rfl) (qv2 rfl rfl) (by decide) rfl
  exact anyo_nil
 refine any_cut2 #[true, true, true, true, true, true, true, true, true, true, false, false] 2 (Value × Value) (fun σ => [(2, boxP b2 0), (13, .agg #[.string (bs p_0.Name), σ.1, σ.2])]) (fun σ => [ro p_0_Effectsv 1 (p_0.Effects.map (eInt .i64)), nro p_0_Codev NC_api_TStmt_50 p_0.Code, box b1 [.string (bs p_0.Name), p_0_Effectsv, p_0_Codev], box b2 [.string (bs []), .slice none 0 0, .slice none 0 0, .int .i64 0], row σ.1 1 ((([] : List Int) ++ p_0.Effects).map (eInt .i64)), HA.emp, row σ.2 3 (r6.map S_api_Instr.enc)]) ?_ (fun hK35 => ?_)
 ·rintro ⟨v16, v18⟩
  change AnyL _ _ _ _ _ (VF.of [(2, boxP b2 0), (13, .agg #[.string (bs p_0.Name), v16, v18])]) [ro p_0_Effectsv 1 (p_0.Effects.map (eInt .i64)), nro p_0_Codev NC_api_TStmt_50 p_0.Code, box b1 [.string (bs p_0.Name), p_0_Effectsv, p_0_Codev], box b2 [.string (bs []), .slice none 0 0, .slice none 0 0, .int .i64 0], row v16 1 ((([] : List Int) ++ p_0.Effects).map (eInt .i64)), HA.emp, row v18 3 (r6.map S_api_Instr.enc)] _
  refine any_all [10] (by kernel_rfl) rfl ?_
  refine anyo_cons ?_ ?_
  ·
   refine any_t rfl (wn rfl) rfl (t_alloc Try.zeroValue31) ?_
   rintro _ _ ⟨b36, rfl, rfl⟩
   refine ⟨(ss (ss (ss (ss (sn))))), ?_⟩
   exact any_weak2 (hK32 (v16, v18, b36)) [0, 1, 2, 3, 4, 5, 6, 7] (by kernel_rfl) (qv3 rfl rfl rfl) (by decide) rfl
  exact anyo_nil
 refine any_cut2 #[true, true, true, true, true, true, true, true, true, false, true, false] 2 (Value × Value × Nat) (fun σ => [(2, boxP b2 0), (5, .string (bs p_0.Name)), (9, σ.1), (12, σ.2.1), (3, boxP σ.2.2 0)]) (fun σ => [ro p_0_Effectsv 1 (p_0.Effects.map (eInt .i64)), nro p_0_Codev NC_api_TStmt_50 p_0.Code, box b1 [.string (bs p_0.Name), p_0_Effectsv, p_0_Codev], box b2 [.string (bs []), .slice none 0 0, .slice none 0 0, .int .i64 0], row σ.1 1 ((([] : List Int) ++ p_0.Effects).map (eInt .i64)), HA.emp, row σ.2.1 3 (r6.map S_api_Instr.enc), box σ.2.2 [.string (bs []), .slice none 0 0, .slice none 0 0]]) ?_ (fun hK37 => ?_)
 ·rintro ⟨v16, v18, b22⟩
  change AnyL _ _ _ _ _ (VF.of [(2, boxP b2 0), (5, .string (bs p_0.Name)), (9, v16), (12, v18), (3, boxP b22 0)]) [ro p_0_Effectsv 1 (p_0.Effects.map (eInt .i64)), nro p_0_Codev NC_api_TStmt_50 p_0.Code, box b1 [.string (bs p_0.Name), p_0_Effectsv, p_0_Codev], box b2 [.string (bs []), .slice none 0 0, .slice none 0 0, .int .i64 0], row v16 1 ((([] : List Int) ++ p_0.Effects).map (eInt .i64)), HA.emp, row v18 3 (r6.map S_api_Instr.enc), box b22 [.string (bs []), .slice none 0 0, .slice none 0 0]] _
  refine any_all [9] (by kernel_rfl) rfl ?_
  refine anyo_cons ?_ ?_
  ·
   refine anyo_slc 4 rfl reads_row (fun hs38 hs38o => ?_)
   refine anyo_slc 6 rfl reads_row (fun hs39 hs39o => ?_)
   refine any_ty rfl (wn rfl) rfl (y_build_struct (cells := #[.string (bs p_0.Name), v16, v18]) [(0, .string (bs p_0.Name)), (1, v16), (2, v18)] [(0, [.string (bs p_0.Name)]), (1, [v16]), (2, [v18])] Try.zeroValue31 Try.runUnderlying31 (fs_cons Try.sizeOf9 (fs_cons Try.sizeOf22 (fs_cons Try.sizeOf29 fs_nil))) rfl (by first | (simp only [List.map_cons, List.map_nil, hs38, hs39]; done) | (simp only [List.map_cons, List.map_nil, hs38, hs39]; rfl)) rfl) ⟨(ss (ss (ss (ss (sn))))), ?_⟩
   exact any_weak2 (hK32 (v16, v18, b22)) [0, 1, 2, 3, 4, 5, 6, 7] (by kernel_rfl) (qv3 rfl rfl rfl) (by decide) rfl
  exact anyo_nil
 refine any_cut2 #[true, true, true, true, true, true, true, true, true, false, false, false] 3 (Value × Value) (fun σ => [(2, boxP b2 0), (5, .string (bs p_0.Name)), (9, σ.1), (12, σ.2)]) (fun σ => [ro p_0_Effectsv 1 (p_0.Effects.map (eInt .i64)), nro p_0_Codev NC_api_TStmt_50 p_0.Code, box b1 [.string (bs p_0.Name), p_0_Effectsv, p_0_Codev], box b2 [.string (bs []), .slice none 0 0, .slice none 0 0, .int .i64 0], row σ.1 1 ((([] : List Int) ++ p_0.Effects).map (eInt .i64)), HA.emp, row σ.2 3 (r6.map S_api_Instr.enc)]) ?_ (fun hK40 => ?_)
 ·rintro ⟨v16, v18⟩
  change AnyL _ _ _ _ _ (VF.of [(2, boxP b2 0), (5, .string (bs p_0.Name)), (9, v16), (12, v18)]) [ro p_0_Effectsv 1 (p_0.Effects.map (eInt .i64)), nro p_0_Codev NC_api_TStmt_50 p_0.Code, box b1 [.string (bs p_0.Name), p_0_Effectsv, p_0_Codev], box b2 [.string (bs []), .slice none 0 0, .slice none 0 0, .int .i64 0], row v16 1 ((([] : List Int) ++ p_0.Effects).map (eInt .i64)), HA.emp, row v18 3 (r6.map S_api_Instr.enc)] _
  refine any_all [9, 10] (by kernel_rfl) rfl ?_
  refine anyo_cons ?_ ?_
  ·
   refine anyo_slc 4 rfl reads_row (fun hs41 hs41o => ?_)
   refine anyo_slc 6 rfl reads_row (fun hs42 hs42o => ?_)
   refine any_ty rfl (wn rfl) rfl (y_build_struct (cells := #[.string (bs p_0.Name), v16, v18]) [(0, .string (bs p_0.Name)), (1, v16), (2, v18)] [(0, [.string (bs p_0.Name)]), (1, [v16]), (2, [v18])] Try.zeroValue31 Try.runUnderlying31 (fs_cons Try.sizeOf9 (fs_cons Try.sizeOf22 (fs_cons Try.sizeOf29 fs_nil))) rfl (by first | (simp only [List.map_cons, List.map_nil, hs41, hs42]; done) | (simp only [List.map_cons, List.map_nil, hs41, hs42]; rfl)) rfl) ⟨(ss (ss (ss (ss (sn))))), ?_⟩
   exact any_weak2 (hK35 (v16, v18)) [0, 1, 2, 3, 4, 5, 6] (by kernel_rfl) (qv2 rfl rfl) (by decide) rfl
  refine anyo_cons ?_ ?_
  ·
   refine any_t rfl (wn rfl) rfl (t_alloc Try.zeroValue31) ?_
   rintro _ _ ⟨b43, rfl, rfl⟩
   refine ⟨(ss (ss (ss (ss (sn))))), ?_⟩
   exact any_weak2 (hK37 (v16, v18, b43)) [0, 1, 2, 3, 4, 5, 6, 7] (by kernel_rfl) (qv5 rfl rfl rfl rfl rfl) (by decide) rfl
  exact anyo_nil
 refine any_cut2 #[true, true, true, true, true, true, true, true, false, false, true, false] 3 (Value × Nat) (fun σ => [(2, boxP b2 0), (5, .string (bs p_0.Name)), (11, p_0_Codev), (9, σ.1), (3, boxP σ.2 0)]) (fun σ => [ro p_0_Effectsv 1 (p_0.Effects.map (eInt .i64)), nro p_0_Codev NC_api_TStmt_50 p_0.Code, box b1 [.string (bs p_0.Name), p_0_Effectsv, p_0_Codev], box b2 [.string (bs []), .slice none 0 0, .slice none 0 0, .int .i64 0], row σ.1 1 ((([] : List Int) ++ p_0.Effects).map (eInt .i64)), box σ.2 [.string (bs []), .slice none 0 0, .slice none 0 0]]) ?_ (fun hK44 => ?_)
 ·rintro ⟨v16, b19⟩
  change AnyL _ _ _ _ _ (VF.of [(2, boxP b2 0), (5, .string (bs p_0.Name)), (11, p_0_Codev), (9, v16), (3, boxP b19 0)]) [ro p_0_Effectsv 1 (p_0.Effects.map (eInt .i64)), nro p_0_Codev NC_api_TStmt_50 p_0.Code, box b1 [.string (bs p_0.Name), p_0_Effectsv, p_0_Codev], box b2 [.string (bs []), .slice none 0 0, .slice none 0 0, .int .i64 0], row v16 1 ((([] : List Int) ++ p_0.Effects).map (eInt .i64)), box b19 [.string (bs []), .slice none 0 0, .slice none 0 0]] _
  refine any_all [8] (by kernel_rfl) rfl ?_
  refine anyo_cons ?_ ?_
  ·
   refine anyo_turn (nilrow 3) ?_
   refine anyo_turn (retell 6 (g := row (.slice none 0 0) 3 (([] : List S_api_Instr).map S_api_Instr.enc)) rfl rfl) ?_
   refine any_t rfl (wn rfl) rfl (t_callx (vs := [(.slice none 0 0), p_0_Codev, .int .i64 0]) (cs := []) [(6, 2), (1, 0)] rfl Try.call22 rfl (ref28_block_v1_ok n  ([] : List S_api_Instr) p_0.Code 0 (.slice none 0 0) p_0_Codev hr7) (showsX_lend 6 rfl (showsX_view 1 rfl views_nro showsX_nil)) rfl (.inl rfl)) ?_
   rintro v45 _ ⟨_, ⟨_, rfl, rfl⟩, rfl⟩
   refine ⟨(ss (ss (ss (ss (sn))))), ?_⟩
   exact any_weak2 (hK37 (v16, v45, b19)) [0, 1, 2, 3, 4, 6, 7, 5] (by kernel_rfl) (qv5 rfl rfl rfl rfl rfl) (by decide) rfl
  exact anyo_nil
 refine any_cut2 #[true, true, true, true, true, true, true, true, false, false, false, false] 4 (Value) (fun σ => [(2, boxP b2 0), (5, .string (bs p_0.Name)), (11, p_0_Codev), (9, σ)]) (fun σ => [ro p_0_Effectsv 1 (p_0.Effects.map (eInt .i64)), nro p_0_Codev NC_api_TStmt_50 p_0.Code, box b1 [.string (bs p_0.Name), p_0_Effectsv, p_0_Codev], box b2 [.string (bs []), .slice none 0 0, .slice none 0 0, .int .i64 0], row σ 1 ((([] : List Int) ++ p_0.Effects).map (eInt .i64))]) ?_ (fun hK46 => ?_)
 ·rintro v16
  change AnyL _ _ _ _ _ (VF.of [(2, boxP b2 0), (5, .string (bs p_0.Name)), (11, p_0_Codev), (9, v16)]) [ro p_0_Effectsv 1 (p_0.Effects.map (eInt .i64)), nro p_0_Codev NC_api_TStmt_50 p_0.Code, box b1 [.string (bs p_0.Name), p_0_Effectsv, p_0_Codev], box b2 [.string (bs []), .slice none 0 0, .slice none 0 0, .int .i64 0], row v16 1 ((([] : List Int) ++ p_0.Effects).map (eInt .i64))] _
  refine any_all [8, 10] (by kernel_rfl) rfl ?_
  refine anyo_cons ?_ ?_
  ·
   refine anyo_turn (nilrow 3) ?_
   refine anyo_turn (retell 5 (g := row (.slice none 0 0) 3 (([] : List S_api_Instr).map S_api_Instr.enc)) rfl rfl) ?_
   refine any_t rfl (wn rfl) rfl (t_callx (vs := [(.slice none 0 0), p_0_Codev, .int .i64 0]) (cs := []) [(5, 2), (1, 0)] rfl Try.call22 rfl (ref28_block_v1_ok n  ([] : List S_api_Instr) p_0.Code 0 (.slice none 0 0) p_0_Codev hr7) (showsX_lend 5 rfl (showsX_view 1 rfl views_nro showsX_nil)) rfl (.inl rfl)) ?_
   rintro v47 _ ⟨_, ⟨_, rfl, rfl⟩, rfl⟩
   refine ⟨(ss (ss (ss (ss (sn))))), ?_⟩
   exact any_weak2 (hK40 (v16, v47)) [0, 1, 2, 3, 4, 5, 6] (by kernel_rfl) (qv4 rfl rfl rfl rfl) (by decide) rfl
  refine anyo_cons ?_ ?_
  ·
   refine any_t rfl (wn rfl) rfl (t_alloc Try.zeroValue31) ?_
   rintro _ _ ⟨b48, rfl, rfl⟩
   refine ⟨(ss (ss (ss (ss (sn))))), ?_⟩
   exact any_weak2 (hK44 (v16, b48)) [0, 1, 2, 3, 4, 5] (by kernel_rfl) (qv5 rfl rfl rfl rfl rfl) (by decide) rfl
  exact anyo_nil
 refine any_cut2 #[true, true, true, true, true, false, true, true, false, false, true, false] 4 (Value × Nat) (fun σ => [(2, boxP b2 0), (5, .string (bs p_0.Name)), (8, p_0_Effectsv), (11, p_0_Codev), (6, σ.1), (3, boxP σ.2 0)]) (fun σ => [ro p_0_Effectsv 1 (p_0.Effects.map (eInt .i64)), nro p_0_Codev NC_api_TStmt_50 p_0.Code, box b1 [.string (bs p_0.Name), p_0_Effectsv, p_0_Codev], box b2 [.string (bs []), .slice none 0 0, .slice none 0 0, .int .i64 0], row σ.1 1 (([] : List Int).map (eInt .i64)), box σ.2 [.string (bs []), .slice none 0 0, .slice none 0 0]]) ?_ (fun hK49 => ?_)
 ·rintro ⟨v14, b17⟩
  change AnyL _ _ _ _ _ (VF.of [(2, boxP b2 0), (5, .string (bs p_0.Name)), (8, p_0_Effectsv), (11, p_0_Codev), (6, v14), (3, boxP b17 0)]) [ro p_0_Effectsv 1 (p_0.Effects.map (eInt .i64)), nro p_0_Codev NC_api_TStmt_50 p_0.Code, box b1 [.string (bs p_0.Name), p_0_Effectsv, p_0_Codev], box b2 [.string (bs []), .slice none 0 0, .slice none 0 0, .int .i64 0], row v14 1 (([] : List Int).map (eInt .i64)), box b17 [.string (bs []), .slice none 0 0, .slice none 0 0]] _
  refine any_all [5] (by kernel_rfl) rfl ?_
  refine anyo_cons ?_ ?_
  ·
   refine any_t rfl (wn rfl) rfl (t_append (es := 1) 4 rfl Try.runUnderlying22 rfl Try.runUnderlying22 (.inr ⟨_, rfl⟩) Try.typeInfo3 rfl (by decide) Try.zeroValue3 rfl rfl rfl rfl (src_reads 0 rfl reads_ro (map_ok (eInt_ok _) _)) (map_room hr5 (by decide)) (map_fit hr5)) ?_
   rintro v50 _ rfl
   refine ⟨(ss (ss (ss (ss (sn))))), ?_⟩
   refine any_turn (retell 4 (g := row v50 1 ((([] : List Int) ++ p_0.Effects).map (eInt .i64))) rfl (congrArg (row _ _) List.map_append.symm)) ?_
   exact any_weak2 (hK44 (v50, b17)) [0, 1, 2, 3, 4, 5] (by kernel_rfl) (qv5 rfl rfl rfl rfl rfl) (by decide) rfl
  exact anyo_nil
 refine any_cut2 #[true, true, true, true, true, false, true, true, false, false, false, false] 5 (Value) (fun σ => [(2, boxP b2 0), (5, .string (bs p_0.Name)), (8, p_0_Effectsv), (11, p_0_Codev), (6, σ)]) (fun σ => [ro p_0_Effectsv 1 (p_0.Effects.map (eInt .i64)), nro p_0_Codev NC_api_TStmt_50 p_0.Code, box b1 [.string (bs p_0.Name), p_0_Effectsv, p_0_Codev], box b2 [.string (bs []), .slice none 0 0, .slice none 0 0, .int .i64 0], row σ 1 (([] : List Int).map (eInt .i64))]) ?_ (fun hK51 => ?_)
 ·rintro v14
  change AnyL _ _ _ _ _ (VF.of [(2, boxP b2 0), (5, .string (bs p_0.Name)), (8, p_0_Effectsv), (11, p_0_Codev), (6, v14)]) [ro p_0_Effectsv 1 (p_0.Effects.map (eInt .i64)), nro p_0_Codev NC_api_TStmt_50 p_0.Code, box b1 [.string (bs p_0.Name), p_0_Effectsv, p_0_Codev], box b2 [.string (bs []), .slice none 0 0, .slice none 0 0, .int .i64 0], row v14 1 (([] : List Int).map (eInt .i64))] _
  refine any_all [5, 10] (by kernel_rfl) rfl ?_
  refine anyo_cons ?_ ?_
  ·
   refine any_t rfl (wn rfl) rfl (t_append (es := 1) 4 rfl Try.runUnderlying22 rfl Try.runUnderlying22 (.inr ⟨_, rfl⟩) Try.typeInfo3 rfl (by decide) Try.zeroValue3 rfl rfl rfl rfl (src_reads 0 rfl reads_ro (map_ok (eInt_ok _) _)) (map_room hr5 (by decide)) (map_fit hr5)) ?_
   rintro v52 _ rfl
   refine ⟨(ss (ss (ss (ss (sn))))), ?_⟩
   refine any_turn (retell 4 (g := row v52 1 ((([] : List Int) ++ p_0.Effects).map (eInt .i64))) rfl (congrArg (row _ _) List.map_append.symm)) ?_
   exact any_weak2 (hK46 v52) [0, 1, 2, 3, 4] (by kernel_rfl) (qv4 rfl rfl rfl rfl) (by decide) rfl
  refine anyo_cons ?_ ?_
  ·
   refine any_t rfl (wn rfl) rfl (t_alloc Try.zeroValue31) ?_
   rintro _ _ ⟨b53, rfl, rfl⟩
   refine ⟨(ss (ss (ss (ss (sn))))), ?_⟩
   exact any_weak2 (hK49 (v14, b53)) [0, 1, 2, 3, 4, 5] (by kernel_rfl) (qv6 rfl rfl rfl rfl rfl rfl) (by decide) rfl
  exact anyo_nil
 refine any_cut2 #[true, true, false, true, true, false, true, true, false, false, true, false] 5 (Nat) (fun σ => [(2, boxP b2 0), (5, .string (bs p_0.Name)), (8, p_0_Effectsv), (11, p_0_Codev), (3, boxP σ 0)]) (fun σ => [ro p_0_Effectsv 1 (p_0.Effects.map (eInt .i64)), nro p_0_Codev NC_api_TStmt_50 p_0.Code, box b1 [.string (bs p_0.Name), p_0_Effectsv, p_0_Codev], box b2 [.string (bs []), .slice none 0 0, .slice none 0 0, .int .i64 0], box σ [.string (bs []), .slice none 0 0, .slice none 0 0]]) ?_ (fun hK54 => ?_)
 ·rintro b15
  change AnyL _ _ _ _ _ (VF.of [(2, boxP b2 0), (5, .string (bs p_0.Name)), (8, p_0_Effectsv), (11, p_0_Codev), (3, boxP b15 0)]) [ro p_0_Effectsv 1 (p_0.Effects.map (eInt .i64)), nro p_0_Codev NC_api_TStmt_50 p_0.Code, box b1 [.string (bs p_0.Name), p_0_Effectsv, p_0_Codev], box b2 [.string (bs []), .slice none 0 0, .slice none 0 0, .int .i64 0], box b15 [.string (bs []), .slice none 0 0, .slice none 0 0]] _
  refine any_all [2] (by kernel_rfl) rfl ?_
  refine anyo_cons ?_ ?_
  ·
   refine any_t rfl (wn rfl) rfl (t_lit [] Try.runUnderlying22 Try.sizeOf3 Try.zeroValue3 rfl (by decide) (by decide) rfl (by simp [Value.cells, boxP])) ?_
   rintro v55 _ ⟨rfl, _⟩
   refine ⟨(ss (ss (ss (ss (sn))))), ?_⟩
   refine any_turn (retell 5 (g := row v55 1 (([] : List Int).map (eInt .i64))) rfl rfl) ?_
   exact any_weak2 (hK49 (v55, b15)) [0, 1, 2, 3, 5, 4] (by kernel_rfl) (qv6 rfl rfl rfl rfl rfl rfl) (by decide) rfl
  exact anyo_nil
 refine any_all [2, 10] (by kernel_rfl) rfl ?_
 refine anyo_cons ?_ ?_
 ·
  refine any_t rfl (wn rfl) rfl (t_lit [] Try.runUnderlying22 Try.sizeOf3 Try.zeroValue3 rfl (by decide) (by decide) rfl (by simp [Value.cells, boxP])) ?_
  rintro v56 _ ⟨rfl, _⟩
  refine ⟨(ss (ss (ss (ss (sn))))), ?_⟩
  refine any_turn (retell 4 (g := row v56 1 (([] : List Int).map (eInt .i64))) rfl rfl) ?_
  exact any_weak2 (hK51 v56) [0, 1, 2, 3, 4] (by kernel_rfl) (qv5 rfl rfl rfl rfl rfl) (by decide) rfl
 refine anyo_cons ?_ ?_
 ·
  refine any_t rfl (wn rfl) rfl (t_alloc Try.zeroValue31) ?_
  rintro _ _ ⟨b57, rfl, rfl⟩
  refine ⟨(ss (ss (ss (ss (sn))))), ?_⟩
  exact any_weak2 (hK54 b57) [0, 1, 2, 3, 4] (by kernel_rfl) (qv5 rfl rfl rfl rfl rfl) (by decide) rfl
 exact anyo_nil

end Go.Proofs.Ytgjdaamkfpbgpaa
