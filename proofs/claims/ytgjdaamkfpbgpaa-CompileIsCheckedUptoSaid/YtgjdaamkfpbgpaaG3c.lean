/-
  Functions that the law CompileMakesAsSpecified needs, lifted.
-/
import Derived.Test.YtgjdaamkfpbgpaaG3b
namespace Go.Proofs.Ytgjdaamkfpbgpaa
open Go.Abs
set_option linter.unusedVariables false
set_option linter.unusedSimpArgs false
set_option maxRecDepth 20000
set_option maxHeartbeats 4000000

def ref20_RightBlock_L1 (n : Nat) (l_0 : (List S_api_TStmt)) (deep_2 : Int) (rec_ref20_RightBlock : (List S_api_TStmt) → (List Int) → Int → Option (Bool)) : ((List Int) × Int) → Option (Lp ((List Int) × Int) (Lp (Unit) (Bool))) :=
 fun (vars_5, k_6) =>
  cond (decide (k_6 < (l_0.length : Int)))
   (bindJ (S := (List Int))
    (idx l_0 k_6 fun x19 =>
    cond ((decide (200 < deep_2) || decide (x19.Kind < 1)) || decide (9 < x19.Kind))
     (some (.stop (.stop (.stop false))))
     (cond ((((decide (x19.Kind ≠ 3) && decide (0 < (x19.Name.length : Int))) || decide (200 < (x19.Name.length : Int))) || (decide (x19.Kind ≠ 6) && decide (x19.N ≠ 0))) || ((decide (x19.Kind ≠ 1) && decide (x19.Kind ≠ 2)) && decide (x19.Slot ≠ 0)))
      (some (.stop (.stop (.stop false))))
      (cond ((decide (x19.Kind ≠ 5) && decide (0 < (x19.Else.length : Int))) || ((decide (x19.Kind ≠ 5) && decide (x19.Kind ≠ 6)) && decide (0 < (x19.Body.length : Int))))
       (some (.stop (.stop (.stop false))))
       (bindJ (S := Unit)
        (cond (decide (x19.Kind = 6))
         (obind (ref20_zero x19.X) fun r74 =>
         cond (((!r74) || decide (x19.N < 0)) || decide (1000 < x19.N))
          (some (.stop (.stop (.stop (.stop false)))))
          (some (.go ())))
         (obind (ref20_RightExpr n x19.X vars_5 (IntKind.i64.wrap (deep_2 + 1))) fun r83 =>
         cond (!r83)
          (some (.stop (.stop (.stop (.stop false)))))
          (some (.go ()))))
       (fun _ =>
        obind (rec_ref20_RightBlock x19.Body vars_5 (IntKind.i64.wrap (deep_2 + 1))) fun r86 =>
        obind (rec_ref20_RightBlock x19.Else vars_5 (IntKind.i64.wrap (deep_2 + 1))) fun r88 =>
        cond ((!r86) || (!r88))
         (some (.stop (.stop (.stop false))))
         (cond (decide (x19.Kind = 1))
          (cond (decide (x19.Slot ≠ (vars_5.length : Int)) || decide (200 ≤ (vars_5.length : Int)))
           (some (.stop (.stop (.stop false))))
           (need (([] : List Int).length + vars_5.length ≤ 4294967296) (
           need ((([] : List Int) ++ vars_5).length + ([x19.X.Type_] : List Int).length ≤ 4294967296) (
           some (.go ((([] : List Int) ++ vars_5) ++ ([x19.X.Type_] : List Int)))))))
          (cond (decide (x19.Kind = 2))
           (bindJ (S := Bool)
            (cond (decide (x19.Slot < 0) || decide ((vars_5.length : Int) ≤ x19.Slot))
             (some (.go true))
             (idx vars_5 x19.Slot fun x135 =>
             some (.go (decide (x135 ≠ x19.X.Type_)))))
           (fun b129 =>
            cond b129
             (some (.stop (.stop (.stop false))))
             (some (.go vars_5))))
           (bindJ (S := Bool)
            (cond (decide (x19.Kind ≠ 6))
             (obind (ref20_Wants x19.Kind) fun r143 =>
             some (.go (decide (x19.X.Type_ ≠ r143))))
             (some (.go false)))
           (fun b137 =>
            cond b137
             (some (.stop (.stop (.stop false))))
             (some (.go vars_5)))))))))))
   (fun vars_13 =>
    some (.go (vars_13, (IntKind.i64.wrap (k_6 + 1))))))
   (some (.stop (.go ())))
def ref20_RightBlock_body (n : Nat) (rec_ref20_RightBlock : (List S_api_TStmt) → (List Int) → Int → Option (Bool)) (l_0 : (List S_api_TStmt)) (vars_1 : (List Int)) (deep_2 : Int) : Option (Bool) :=
 bindJ (S := Unit)
  (iter (ref20_RightBlock_L1 n l_0 deep_2 rec_ref20_RightBlock) n (vars_1, 0))
 (fun _ =>
  some true)
theorem ref20_RightBlock_body_ok (n : Nat) (rec_ref20_RightBlock : (List S_api_TStmt) → (List Int) → Int → Option (Bool)) (hrec_ref20_RightBlock : ∀ (l_0 : (List S_api_TStmt)) (vars_1 : (List Int)) (deep_2 : Int) (l_0v : Value) (vars_1v : Value) {r : Bool}, rec_ref20_RightBlock l_0 vars_1 deep_2 = some r → Meets Try.prog 17 [l_0v, vars_1v, .int .i64 deep_2] [nro l_0v NC_api_TStmt_50 l_0, ro vars_1v 1 (vars_1.map (eInt .i64))] (fun v G => v = .bool r ∧ G = [])) (l_0 : (List S_api_TStmt)) (vars_1 : (List Int)) (deep_2 : Int) (l_0v : Value) (vars_1v : Value) {r : Bool} (h : ref20_RightBlock_body n rec_ref20_RightBlock l_0 vars_1 deep_2 = some r) :
  Meets Try.prog 17 [l_0v, vars_1v, .int .i64 deep_2] [nro l_0v NC_api_TStmt_50 l_0, ro vars_1v 1 (vars_1.map (eInt .i64))] (fun v G => v = .bool r ∧ G = []) := by
 refine fn_of_run Try.func17 rfl Try.ntmps17 rfl (fun w0 o0 => ?_)
 refine run_seq ?_
 refine run_region' ?_
 refine oy rfl rfl (y_assign rfl) ?_
 refine ops_nil ?_
 refine goes_code ?_
 obtain ⟨o1, h, ho2⟩ := bindJ_some h
 refine run_cut ((Unit) × (Unit)) (fun σ => []) (fun σ => []) (fun σ => o1 = .go σ.1) (fun L4 hL3 => ?_) ?_
 ·
  refine run_seq ?_
  refine run_region' ?_
  refine oy rfl rfl (y_assign rfl) ?_
  refine ops_nil ?_
  refine goes_code ?_
  refine run_block ?_
  refine run_iter (step := ref20_RightBlock_L1 n l_0 deep_2 rec_ref20_RightBlock) (n := n) (s0 := (vars_1, 0)) h (G := Value) vars_1v (fun σ γ => [(1, γ), (7, .int .i64 σ.2), (0, l_0v), (2, .int .i64 deep_2)]) (fun σ γ => [ro γ 1 (σ.1.map (eInt .i64)), nro l_0v NC_api_TStmt_50 l_0]) [1, 0] (qv4 rfl rfl rfl rfl) (by decide) rfl ?_
  rintro ⟨vars_5, k_6⟩ v7 o8 h L11 hgo9 hstop10
  change Run _ _ _ (VF.of [(1, v7), (7, .int .i64 k_6), (0, l_0v), (2, .int .i64 deep_2)]) [ro v7 1 (vars_5.map (eInt .i64)), nro l_0v NC_api_TStmt_50 l_0]
  refine run_seq ?_
  refine run_seq ?_
  refine run_region' ?_
  refine oy rfl rfl (y_move rfl) ?_
  refine oy rfl rfl (y_move rfl) ?_
  refine oy rfl rfl (y_lenN 1 rfl Try.runUnderlying23 rfl rfl readsN_ro) ?_
  refine oy rfl rfl (y_lss rfl rfl) ?_
  refine ops_nil ?_
  refine goes_code ?_
  refine run_cond (decide (k_6 < (l_0.length : Int))) rfl (fun hc12 => ?_) (fun hc12 => ?_)
  ·replace h := cond_t h hc12
   refine run_skip ?_
   refine goes_code ?_
   obtain ⟨o15, h, ho16⟩ := bindJ_some h
   refine run_cut (((List Int)) × (Value)) (fun σ => [(1, σ.2), (0, l_0v), (2, .int .i64 deep_2), (7, .int .i64 k_6)]) (fun σ => [ro σ.2 1 (σ.1.map (eInt .i64)), nro l_0v NC_api_TStmt_50 l_0]) (fun σ => o15 = .go σ.1) (fun L18 hL17 => ?_) ?_
   ·
    refine run_block ?_
    refine run_seq ?_
    refine run_region' ?_
    refine oy rfl rfl (y_move rfl) ?_
    refine oy rfl rfl (y_move rfl) ?_
    obtain ⟨x19, hzx19, hlx19, hxx19, h⟩ := idx_some h
    refine oy rfl rfl (y_indexAddrN (kd := .i64) (i := k_6) 1 Try.runUnderlying23 Try.sizeOf50 rfl rfl rfl readsN_ro hzx19 hlx19) ?_
    refine ops_ex (exAtT (T := T_api_TStmt_50) (i := k_6.toNat) 1 rfl hxx19) ?_
    rintro ⟨g20, g21, g22⟩
    refine oy rfl rfl (y_load_atagg (n := k_6.toNat * 12) (j := 0) (c := [.int .i64 x19.Kind, .int .i64 x19.Slot, .int .i64 x19.N, .string (bs x19.Name), .int .i64 x19.X.Op, .int .i64 x19.X.Type_, .int .i64 x19.X.N, .int .i64 x19.X.Slot, .string (bs x19.X.S), g20, g21, g22]) 2 Try.isAgg50 Try.sizeOf50 rfl rfl rfl) ?_
    refine ot rfl rfl (t_alloc Try.zeroValue50) ?_
    rintro _ _ ⟨b23, rfl, rfl⟩
    refine ops_slcN 3 rfl readsN_ro (fun hs24 hs24o => ?_)
    refine ops_slcN 4 rfl readsN_ro (fun hs25 hs25o => ?_)
    refine ops_slcN 5 rfl readsN_ro (fun hs26 hs26o => ?_)
    refine ot rfl rfl (t_store 6 Try.sizeOf50 rfl rfl rfl rfl (by simp [Value.cells, boxP]) (allL_cons rfl (allL_cons rfl (allL_cons rfl (allL_cons rfl (allL_cons rfl (allL_cons rfl (allL_cons rfl (allL_cons rfl (allL_cons rfl (allL_cons hs24o (allL_cons hs25o (allL_cons hs26o (allL_nil)))))))))))))) ?_
    rintro _ _ ⟨rfl, rfl⟩
    refine ops_turn (retell 6 (g := box b23 [.int .i64 x19.Kind, .int .i64 x19.Slot, .int .i64 x19.N, .string (bs x19.Name), .int .i64 x19.X.Op, .int .i64 x19.X.Type_, .int .i64 x19.X.N, .int .i64 x19.X.Slot, .string (bs x19.X.S), g20, g21, g22]) rfl (by kernel_rfl)) ?_
    refine ops_nil ?_
    refine goes_code ?_
    refine run_seq ?_
    refine run_seq ?_
    refine run_weak [(1, v7), (7, .int .i64 k_6), (0, l_0v), (2, .int .i64 deep_2), (8, boxP b23 0)] [0, 1, 3, 4, 5, 6] [ro v7 1 (vars_5.map (eInt .i64)), nro l_0v NC_api_TStmt_50 l_0, nro g20 NC_api_TExpr_48 x19.X.Args, nro g21 NC_api_TStmt_50 x19.Body, nro g22 NC_api_TStmt_50 x19.Else, box b23 [.int .i64 x19.Kind, .int .i64 x19.Slot, .int .i64 x19.N, .string (bs x19.Name), .int .i64 x19.X.Op, .int .i64 x19.X.Type_, .int .i64 x19.X.N, .int .i64 x19.X.Slot, .string (bs x19.X.S), g20, g21, g22]] (qv5 rfl rfl rfl rfl rfl) (by decide) rfl ?_
    refine run_region' ?_
    refine oy rfl rfl (y_move rfl) ?_
    refine oy rfl rfl (y_gtr rfl rfl) ?_
    refine oy rfl rfl (y_move rfl) ?_
    refine ops_cut 4 (Bool) (fun σ => [(1, v7), (7, .int .i64 k_6), (0, l_0v), (2, .int .i64 deep_2), (8, boxP b23 0), (28, .bool σ)]) (fun σ => [ro v7 1 (vars_5.map (eInt .i64)), nro l_0v NC_api_TStmt_50 l_0, nro g20 NC_api_TExpr_48 x19.X.Args, nro g21 NC_api_TStmt_50 x19.Body, nro g22 NC_api_TStmt_50 x19.Else, box b23 [.int .i64 x19.Kind, .int .i64 x19.Slot, .int .i64 x19.N, .string (bs x19.Name), .int .i64 x19.X.Op, .int .i64 x19.X.Type_, .int .i64 x19.X.N, .int .i64 x19.X.Slot, .string (bs x19.X.S), g20, g21, g22]]) (fun σ => σ = (decide (200 < deep_2) || decide (x19.Kind < 1))) (fun L27 hL28 => ?_) ?_
    ·refine ops_split 24 (decide (200 < deep_2)) rfl (fun hg29 => ?_) (fun hg29 => ?_)
     ·skip
      refine ops_no 2 false 24 rfl rfl rfl rfl rfl ?_
      refine ops_no 2 false 24 rfl rfl rfl rfl rfl ?_
      refine ops_no 2 false 24 rfl rfl rfl rfl rfl ?_
      refine oy rfl rfl (y_pick (b := true) rfl rfl) ?_
      refine ops_nil ?_
      exact goes_cut hL28 true [0, 1, 2, 3, 4, 5] (qv6 rfl rfl rfl rfl rfl rfl) (by decide) rfl (by rw [hg29]; simp)
     ·skip
      refine ops_y (wg 2 false 24 rfl rfl rfl rfl) rfl (y_fieldAddr_box (sz := 0) Try.runUnderlying50 rfl Try.sizeOf3 rfl) ?_
      refine ops_y (wg 2 false 24 rfl rfl rfl rfl) rfl (y_load_box 5 Try.isAgg3 rfl rfl rfl) ?_
      refine ops_y (wg 2 false 24 rfl rfl rfl rfl) rfl (y_lss rfl rfl) ?_
      refine oy rfl rfl (y_pick (b := false) rfl rfl) ?_
      refine ops_nil ?_
      exact goes_cut hL28 (decide (x19.Kind < 1)) [0, 1, 2, 3, 4, 5] (qv6 rfl rfl rfl rfl rfl rfl) (by decide) rfl (by rw [hg29]; simp)
    rintro _ rfl
    refine oy rfl rfl (y_move rfl) ?_
    refine ops_cut 4 (Bool) (fun σ => [(1, v7), (7, .int .i64 k_6), (0, l_0v), (2, .int .i64 deep_2), (8, boxP b23 0), (33, .bool σ)]) (fun σ => [ro v7 1 (vars_5.map (eInt .i64)), nro l_0v NC_api_TStmt_50 l_0, nro g20 NC_api_TExpr_48 x19.X.Args, nro g21 NC_api_TStmt_50 x19.Body, nro g22 NC_api_TStmt_50 x19.Else, box b23 [.int .i64 x19.Kind, .int .i64 x19.Slot, .int .i64 x19.N, .string (bs x19.Name), .int .i64 x19.X.Op, .int .i64 x19.X.Type_, .int .i64 x19.X.N, .int .i64 x19.X.Slot, .string (bs x19.X.S), g20, g21, g22]]) (fun σ => σ = ((decide (200 < deep_2) || decide (x19.Kind < 1)) || decide (9 < x19.Kind))) (fun L30 hL31 => ?_) ?_
    ·refine ops_split 29 (decide (200 < deep_2) || decide (x19.Kind < 1)) rfl (fun hg32 => ?_) (fun hg32 => ?_)
     ·skip
      refine ops_no 7 false 29 rfl rfl rfl rfl rfl ?_
      refine ops_no 7 false 29 rfl rfl rfl rfl rfl ?_
      refine ops_no 7 false 29 rfl rfl rfl rfl rfl ?_
      refine oy rfl rfl (y_pick (b := true) rfl rfl) ?_
      refine ops_nil ?_
      exact goes_cut hL31 true [0, 1, 2, 3, 4, 5] (qv6 rfl rfl rfl rfl rfl rfl) (by decide) rfl (by rw [hg32]; simp)
     ·skip
      refine ops_y (wg 7 false 29 rfl rfl rfl rfl) rfl (y_fieldAddr_box (sz := 0) Try.runUnderlying50 rfl Try.sizeOf3 rfl) ?_
      refine ops_y (wg 7 false 29 rfl rfl rfl rfl) rfl (y_load_box 5 Try.isAgg3 rfl rfl rfl) ?_
      refine ops_y (wg 7 false 29 rfl rfl rfl rfl) rfl (y_gtr rfl rfl) ?_
      refine oy rfl rfl (y_pick (b := false) rfl rfl) ?_
      refine ops_nil ?_
      exact goes_cut hL31 (decide (9 < x19.Kind)) [0, 1, 2, 3, 4, 5] (qv6 rfl rfl rfl rfl rfl rfl) (by decide) rfl (by rw [hg32]; simp)
    rintro _ rfl
    refine ops_nil ?_
    refine goes_code ?_
    refine run_cond ((decide (200 < deep_2) || decide (x19.Kind < 1)) || decide (9 < x19.Kind)) rfl (fun hc33 => ?_) (fun hc33 => ?_)
    ·replace h := cond_t h hc33
     refine run_seq ?_
     refine run_region' ?_
     refine oy rfl rfl (y_assign rfl) ?_
     refine ops_nil ?_
     refine goes_code ?_
     refine run_ret ?_
     obtain rfl := some_eq h
     obtain rfl := after_stop ho16
     skip
     obtain rfl := hstop10 _ rfl
     skip
     obtain rfl := after_stop ho2
     refine fin_slots [6] [.bool false] [] [] Try.results17 rfl (by decide) rfl ?_
     exact ⟨rfl, rfl⟩
    ·replace h := cond_f h hc33
     refine run_skip ?_
     refine goes_code ?_
     refine run_seq ?_
     refine run_seq ?_
     refine run_region' ?_
     refine oy rfl rfl (y_fieldAddr_box (sz := 0) Try.runUnderlying50 rfl Try.sizeOf3 rfl) ?_
     refine oy rfl rfl (y_load_box 5 Try.isAgg3 rfl rfl rfl) ?_
     refine oy rfl rfl (y_neq rfl rfl) ?_
     refine oy rfl rfl (y_move rfl) ?_
     refine ops_cut 5 (Bool) (fun σ => [(1, v7), (7, .int .i64 k_6), (0, l_0v), (2, .int .i64 deep_2), (8, boxP b23 0), (42, .bool σ)]) (fun σ => [ro v7 1 (vars_5.map (eInt .i64)), nro l_0v NC_api_TStmt_50 l_0, nro g20 NC_api_TExpr_48 x19.X.Args, nro g21 NC_api_TStmt_50 x19.Body, nro g22 NC_api_TStmt_50 x19.Else, box b23 [.int .i64 x19.Kind, .int .i64 x19.Slot, .int .i64 x19.N, .string (bs x19.Name), .int .i64 x19.X.Op, .int .i64 x19.X.Type_, .int .i64 x19.X.N, .int .i64 x19.X.Slot, .string (bs x19.X.S), g20, g21, g22]]) (fun σ => σ = (decide (x19.Kind ≠ 3) && decide (0 < (x19.Name.length : Int)))) (fun L34 hL35 => ?_) ?_
     ·refine ops_split 37 (decide (x19.Kind ≠ 3)) rfl (fun hg36 => ?_) (fun hg36 => ?_)
      ·skip
       refine ops_y (wg 3 true 37 rfl rfl rfl rfl) rfl (y_fieldAddr_box (sz := 0) Try.runUnderlying50 rfl Try.sizeOf9 rfl) ?_
       refine ops_y (wg 3 true 37 rfl rfl rfl rfl) rfl (y_load_box 5 Try.isAgg9 rfl rfl rfl) ?_
       refine ops_y (wg 3 true 37 rfl rfl rfl rfl) rfl (y_len_str rfl Try.runUnderlying9 rfl) ?_
       refine ops_y (wg 3 true 37 rfl rfl rfl rfl) rfl (y_gtr rfl rfl) ?_
       refine oy rfl rfl (y_pick (b := true) rfl rfl) ?_
       refine ops_nil ?_
       exact goes_cut hL35 (decide (0 < (x19.Name.length : Int))) [0, 1, 2, 3, 4, 5] (qv6 rfl rfl rfl rfl rfl rfl) (by decide) rfl (by rw [hg36]; simp)
      ·skip
       refine ops_no 3 true 37 rfl rfl rfl rfl rfl ?_
       refine ops_no 3 true 37 rfl rfl rfl rfl rfl ?_
       refine ops_no 3 true 37 rfl rfl rfl rfl rfl ?_
       refine ops_no 3 true 37 rfl rfl rfl rfl rfl ?_
       refine oy rfl rfl (y_pick (b := false) rfl rfl) ?_
       refine ops_nil ?_
       exact goes_cut hL35 false [0, 1, 2, 3, 4, 5] (qv6 rfl rfl rfl rfl rfl rfl) (by decide) rfl (by rw [hg36]; simp)
     rintro _ rfl
     refine oy rfl rfl (y_move rfl) ?_
     refine ops_cut 5 (Bool) (fun σ => [(1, v7), (7, .int .i64 k_6), (0, l_0v), (2, .int .i64 deep_2), (8, boxP b23 0), (48, .bool σ)]) (fun σ => [ro v7 1 (vars_5.map (eInt .i64)), nro l_0v NC_api_TStmt_50 l_0, nro g20 NC_api_TExpr_48 x19.X.Args, nro g21 NC_api_TStmt_50 x19.Body, nro g22 NC_api_TStmt_50 x19.Else, box b23 [.int .i64 x19.Kind, .int .i64 x19.Slot, .int .i64 x19.N, .string (bs x19.Name), .int .i64 x19.X.Op, .int .i64 x19.X.Type_, .int .i64 x19.X.N, .int .i64 x19.X.Slot, .string (bs x19.X.S), g20, g21, g22]]) (fun σ => σ = ((decide (x19.Kind ≠ 3) && decide (0 < (x19.Name.length : Int))) || decide (200 < (x19.Name.length : Int)))) (fun L37 hL38 => ?_) ?_
     ·refine ops_split 43 (decide (x19.Kind ≠ 3) && decide (0 < (x19.Name.length : Int))) rfl (fun hg39 => ?_) (fun hg39 => ?_)
      ·skip
       refine ops_no 9 false 43 rfl rfl rfl rfl rfl ?_
       refine ops_no 9 false 43 rfl rfl rfl rfl rfl ?_
       refine ops_no 9 false 43 rfl rfl rfl rfl rfl ?_
       refine ops_no 9 false 43 rfl rfl rfl rfl rfl ?_
       refine oy rfl rfl (y_pick (b := true) rfl rfl) ?_
       refine ops_nil ?_
       exact goes_cut hL38 true [0, 1, 2, 3, 4, 5] (qv6 rfl rfl rfl rfl rfl rfl) (by decide) rfl (by rw [hg39]; simp)
      ·skip
       refine ops_y (wg 9 false 43 rfl rfl rfl rfl) rfl (y_fieldAddr_box (sz := 0) Try.runUnderlying50 rfl Try.sizeOf9 rfl) ?_
       refine ops_y (wg 9 false 43 rfl rfl rfl rfl) rfl (y_load_box 5 Try.isAgg9 rfl rfl rfl) ?_
       refine ops_y (wg 9 false 43 rfl rfl rfl rfl) rfl (y_len_str rfl Try.runUnderlying9 rfl) ?_
       refine ops_y (wg 9 false 43 rfl rfl rfl rfl) rfl (y_gtr rfl rfl) ?_
       refine oy rfl rfl (y_pick (b := false) rfl rfl) ?_
       refine ops_nil ?_
       exact goes_cut hL38 (decide (200 < (x19.Name.length : Int))) [0, 1, 2, 3, 4, 5] (qv6 rfl rfl rfl rfl rfl rfl) (by decide) rfl (by rw [hg39]; simp)
     rintro _ rfl
     refine oy rfl rfl (y_move rfl) ?_
     refine ops_cut 9 (Bool) (fun σ => [(1, v7), (7, .int .i64 k_6), (0, l_0v), (2, .int .i64 deep_2), (8, boxP b23 0), (58, .bool σ)]) (fun σ => [ro v7 1 (vars_5.map (eInt .i64)), nro l_0v NC_api_TStmt_50 l_0, nro g20 NC_api_TExpr_48 x19.X.Args, nro g21 NC_api_TStmt_50 x19.Body, nro g22 NC_api_TStmt_50 x19.Else, box b23 [.int .i64 x19.Kind, .int .i64 x19.Slot, .int .i64 x19.N, .string (bs x19.Name), .int .i64 x19.X.Op, .int .i64 x19.X.Type_, .int .i64 x19.X.N, .int .i64 x19.X.Slot, .string (bs x19.X.S), g20, g21, g22]]) (fun σ => σ = (((decide (x19.Kind ≠ 3) && decide (0 < (x19.Name.length : Int))) || decide (200 < (x19.Name.length : Int))) || (decide (x19.Kind ≠ 6) && decide (x19.N ≠ 0)))) (fun L40 hL41 => ?_) ?_
     ·refine ops_split 49 ((decide (x19.Kind ≠ 3) && decide (0 < (x19.Name.length : Int))) || decide (200 < (x19.Name.length : Int))) rfl (fun hg42 => ?_) (fun hg42 => ?_)
      ·skip
       refine ops_no 15 false 49 rfl rfl rfl rfl rfl ?_
       refine ops_no 15 false 49 rfl rfl rfl rfl rfl ?_
       refine ops_no 15 false 49 rfl rfl rfl rfl rfl ?_
       refine ops_no 15 false 49 rfl rfl rfl rfl rfl ?_
       refine ops_un 19 true 53 rfl rfl rfl rfl rfl ?_
       refine ops_un 19 true 53 rfl rfl rfl rfl rfl ?_
       refine ops_un 19 true 53 rfl rfl rfl rfl rfl ?_
       refine ops_no 15 false 49 rfl rfl rfl rfl rfl ?_
       refine oy rfl rfl (y_pick (b := true) rfl rfl) ?_
       refine ops_nil ?_
       exact goes_cut hL41 true [0, 1, 2, 3, 4, 5] (qv6 rfl rfl rfl rfl rfl rfl) (by decide) rfl (by rw [hg42]; simp)
      ·skip
       refine ops_y (wg 15 false 49 rfl rfl rfl rfl) rfl (y_fieldAddr_box (sz := 0) Try.runUnderlying50 rfl Try.sizeOf3 rfl) ?_
       refine ops_y (wg 15 false 49 rfl rfl rfl rfl) rfl (y_load_box 5 Try.isAgg3 rfl rfl rfl) ?_
       refine ops_y (wg 15 false 49 rfl rfl rfl rfl) rfl (y_neq rfl rfl) ?_
       refine ops_y (wg 15 false 49 rfl rfl rfl rfl) rfl (y_move rfl) ?_
       refine ops_cut 4 (Bool) (fun σ => [(1, v7), (7, .int .i64 k_6), (0, l_0v), (2, .int .i64 deep_2), (8, boxP b23 0), (49, .bool false), (57, .bool σ)]) (fun σ => [ro v7 1 (vars_5.map (eInt .i64)), nro l_0v NC_api_TStmt_50 l_0, nro g20 NC_api_TExpr_48 x19.X.Args, nro g21 NC_api_TStmt_50 x19.Body, nro g22 NC_api_TStmt_50 x19.Else, box b23 [.int .i64 x19.Kind, .int .i64 x19.Slot, .int .i64 x19.N, .string (bs x19.Name), .int .i64 x19.X.Op, .int .i64 x19.X.Type_, .int .i64 x19.X.N, .int .i64 x19.X.Slot, .string (bs x19.X.S), g20, g21, g22]]) (fun σ => σ = (decide (x19.Kind ≠ 6) && decide (x19.N ≠ 0))) (fun L43 hL44 => ?_) ?_
       ·refine ops_split 53 (decide (x19.Kind ≠ 6)) rfl (fun hg45 => ?_) (fun hg45 => ?_)
        ·skip
         refine ops_y (wg 19 true 53 rfl rfl rfl rfl) rfl (y_fieldAddr_box (sz := 0) Try.runUnderlying50 rfl Try.sizeOf3 rfl) ?_
         refine ops_y (wg 19 true 53 rfl rfl rfl rfl) rfl (y_load_box 5 Try.isAgg3 rfl rfl rfl) ?_
         refine ops_y (wg 19 true 53 rfl rfl rfl rfl) rfl (y_neq rfl rfl) ?_
         refine ops_y (wg 15 false 49 rfl rfl rfl rfl) rfl (y_pick (b := true) rfl rfl) ?_
         refine ops_nil ?_
         exact goes_cut hL44 (decide (x19.N ≠ 0)) [0, 1, 2, 3, 4, 5] (qv7 rfl rfl rfl rfl rfl rfl rfl) (by decide) rfl (by rw [hg45]; simp)
        ·skip
         refine ops_no 19 true 53 rfl rfl rfl rfl rfl ?_
         refine ops_no 19 true 53 rfl rfl rfl rfl rfl ?_
         refine ops_no 19 true 53 rfl rfl rfl rfl rfl ?_
         refine ops_y (wg 15 false 49 rfl rfl rfl rfl) rfl (y_pick (b := false) rfl rfl) ?_
         refine ops_nil ?_
         exact goes_cut hL44 false [0, 1, 2, 3, 4, 5] (qv7 rfl rfl rfl rfl rfl rfl rfl) (by decide) rfl (by rw [hg45]; simp)
       rintro _ rfl
       refine oy rfl rfl (y_pick (b := false) rfl rfl) ?_
       refine ops_nil ?_
       exact goes_cut hL41 (decide (x19.Kind ≠ 6) && decide (x19.N ≠ 0)) [0, 1, 2, 3, 4, 5] (qv6 rfl rfl rfl rfl rfl rfl) (by decide) rfl (by rw [hg42]; simp)
     rintro _ rfl
     refine oy rfl rfl (y_move rfl) ?_
     refine ops_cut 14 (Bool) (fun σ => [(1, v7), (7, .int .i64 k_6), (0, l_0v), (2, .int .i64 deep_2), (8, boxP b23 0), (73, .bool σ)]) (fun σ => [ro v7 1 (vars_5.map (eInt .i64)), nro l_0v NC_api_TStmt_50 l_0, nro g20 NC_api_TExpr_48 x19.X.Args, nro g21 NC_api_TStmt_50 x19.Body, nro g22 NC_api_TStmt_50 x19.Else, box b23 [.int .i64 x19.Kind, .int .i64 x19.Slot, .int .i64 x19.N, .string (bs x19.Name), .int .i64 x19.X.Op, .int .i64 x19.X.Type_, .int .i64 x19.X.N, .int .i64 x19.X.Slot, .string (bs x19.X.S), g20, g21, g22]]) (fun σ => σ = ((((decide (x19.Kind ≠ 3) && decide (0 < (x19.Name.length : Int))) || decide (200 < (x19.Name.length : Int))) || (decide (x19.Kind ≠ 6) && decide (x19.N ≠ 0))) || ((decide (x19.Kind ≠ 1) && decide (x19.Kind ≠ 2)) && decide (x19.Slot ≠ 0)))) (fun L46 hL47 => ?_) ?_
     ·refine ops_split 59 (((decide (x19.Kind ≠ 3) && decide (0 < (x19.Name.length : Int))) || decide (200 < (x19.Name.length : Int))) || (decide (x19.Kind ≠ 6) && decide (x19.N ≠ 0))) rfl (fun hg48 => ?_) (fun hg48 => ?_)
      ·skip
       refine ops_no 25 false 59 rfl rfl rfl rfl rfl ?_
       refine ops_no 25 false 59 rfl rfl rfl rfl rfl ?_
       refine ops_no 25 false 59 rfl rfl rfl rfl rfl ?_
       refine ops_no 25 false 59 rfl rfl rfl rfl rfl ?_
       refine ops_un 29 true 63 rfl rfl rfl rfl rfl ?_
       refine ops_un 29 true 63 rfl rfl rfl rfl rfl ?_
       refine ops_un 29 true 63 rfl rfl rfl rfl rfl ?_
       refine ops_no 25 false 59 rfl rfl rfl rfl rfl ?_
       refine ops_no 25 false 59 rfl rfl rfl rfl rfl ?_
       refine ops_un 34 true 68 rfl rfl rfl rfl rfl ?_
       refine ops_un 34 true 68 rfl rfl rfl rfl rfl ?_
       refine ops_un 34 true 68 rfl rfl rfl rfl rfl ?_
       refine ops_no 25 false 59 rfl rfl rfl rfl rfl ?_
       refine oy rfl rfl (y_pick (b := true) rfl rfl) ?_
       refine ops_nil ?_
       exact goes_cut hL47 true [0, 1, 2, 3, 4, 5] (qv6 rfl rfl rfl rfl rfl rfl) (by decide) rfl (by rw [hg48]; simp)
      ·skip
       refine ops_y (wg 25 false 59 rfl rfl rfl rfl) rfl (y_fieldAddr_box (sz := 0) Try.runUnderlying50 rfl Try.sizeOf3 rfl) ?_
       refine ops_y (wg 25 false 59 rfl rfl rfl rfl) rfl (y_load_box 5 Try.isAgg3 rfl rfl rfl) ?_
       refine ops_y (wg 25 false 59 rfl rfl rfl rfl) rfl (y_neq rfl rfl) ?_
       refine ops_y (wg 25 false 59 rfl rfl rfl rfl) rfl (y_move rfl) ?_
       refine ops_cut 4 (Bool) (fun σ => [(1, v7), (7, .int .i64 k_6), (0, l_0v), (2, .int .i64 deep_2), (8, boxP b23 0), (59, .bool false), (67, .bool σ)]) (fun σ => [ro v7 1 (vars_5.map (eInt .i64)), nro l_0v NC_api_TStmt_50 l_0, nro g20 NC_api_TExpr_48 x19.X.Args, nro g21 NC_api_TStmt_50 x19.Body, nro g22 NC_api_TStmt_50 x19.Else, box b23 [.int .i64 x19.Kind, .int .i64 x19.Slot, .int .i64 x19.N, .string (bs x19.Name), .int .i64 x19.X.Op, .int .i64 x19.X.Type_, .int .i64 x19.X.N, .int .i64 x19.X.Slot, .string (bs x19.X.S), g20, g21, g22]]) (fun σ => σ = (decide (x19.Kind ≠ 1) && decide (x19.Kind ≠ 2))) (fun L49 hL50 => ?_) ?_
       ·refine ops_split 63 (decide (x19.Kind ≠ 1)) rfl (fun hg51 => ?_) (fun hg51 => ?_)
        ·skip
         refine ops_y (wg 29 true 63 rfl rfl rfl rfl) rfl (y_fieldAddr_box (sz := 0) Try.runUnderlying50 rfl Try.sizeOf3 rfl) ?_
         refine ops_y (wg 29 true 63 rfl rfl rfl rfl) rfl (y_load_box 5 Try.isAgg3 rfl rfl rfl) ?_
         refine ops_y (wg 29 true 63 rfl rfl rfl rfl) rfl (y_neq rfl rfl) ?_
         refine ops_y (wg 25 false 59 rfl rfl rfl rfl) rfl (y_pick (b := true) rfl rfl) ?_
         refine ops_nil ?_
         exact goes_cut hL50 (decide (x19.Kind ≠ 2)) [0, 1, 2, 3, 4, 5] (qv7 rfl rfl rfl rfl rfl rfl rfl) (by decide) rfl (by rw [hg51]; simp)
        ·skip
         refine ops_no 29 true 63 rfl rfl rfl rfl rfl ?_
         refine ops_no 29 true 63 rfl rfl rfl rfl rfl ?_
         refine ops_no 29 true 63 rfl rfl rfl rfl rfl ?_
         refine ops_y (wg 25 false 59 rfl rfl rfl rfl) rfl (y_pick (b := false) rfl rfl) ?_
         refine ops_nil ?_
         exact goes_cut hL50 false [0, 1, 2, 3, 4, 5] (qv7 rfl rfl rfl rfl rfl rfl rfl) (by decide) rfl (by rw [hg51]; simp)
       rintro _ rfl
       refine ops_y (wg 25 false 59 rfl rfl rfl rfl) rfl (y_move rfl) ?_
       refine ops_cut 4 (Bool) (fun σ => [(1, v7), (7, .int .i64 k_6), (0, l_0v), (2, .int .i64 deep_2), (8, boxP b23 0), (59, .bool false), (72, .bool σ)]) (fun σ => [ro v7 1 (vars_5.map (eInt .i64)), nro l_0v NC_api_TStmt_50 l_0, nro g20 NC_api_TExpr_48 x19.X.Args, nro g21 NC_api_TStmt_50 x19.Body, nro g22 NC_api_TStmt_50 x19.Else, box b23 [.int .i64 x19.Kind, .int .i64 x19.Slot, .int .i64 x19.N, .string (bs x19.Name), .int .i64 x19.X.Op, .int .i64 x19.X.Type_, .int .i64 x19.X.N, .int .i64 x19.X.Slot, .string (bs x19.X.S), g20, g21, g22]]) (fun σ => σ = ((decide (x19.Kind ≠ 1) && decide (x19.Kind ≠ 2)) && decide (x19.Slot ≠ 0))) (fun L52 hL53 => ?_) ?_
       ·refine ops_split 68 (decide (x19.Kind ≠ 1) && decide (x19.Kind ≠ 2)) rfl (fun hg54 => ?_) (fun hg54 => ?_)
        ·skip
         refine ops_y (wg 34 true 68 rfl rfl rfl rfl) rfl (y_fieldAddr_box (sz := 0) Try.runUnderlying50 rfl Try.sizeOf3 rfl) ?_
         refine ops_y (wg 34 true 68 rfl rfl rfl rfl) rfl (y_load_box 5 Try.isAgg3 rfl rfl rfl) ?_
         refine ops_y (wg 34 true 68 rfl rfl rfl rfl) rfl (y_neq rfl rfl) ?_
         refine ops_y (wg 25 false 59 rfl rfl rfl rfl) rfl (y_pick (b := true) rfl rfl) ?_
         refine ops_nil ?_
         exact goes_cut hL53 (decide (x19.Slot ≠ 0)) [0, 1, 2, 3, 4, 5] (qv7 rfl rfl rfl rfl rfl rfl rfl) (by decide) rfl (by rw [hg54]; simp)
        ·skip
         refine ops_no 34 true 68 rfl rfl rfl rfl rfl ?_
         refine ops_no 34 true 68 rfl rfl rfl rfl rfl ?_
         refine ops_no 34 true 68 rfl rfl rfl rfl rfl ?_
         refine ops_y (wg 25 false 59 rfl rfl rfl rfl) rfl (y_pick (b := false) rfl rfl) ?_
         refine ops_nil ?_
         exact goes_cut hL53 false [0, 1, 2, 3, 4, 5] (qv7 rfl rfl rfl rfl rfl rfl rfl) (by decide) rfl (by rw [hg54]; simp)
       rintro _ rfl
       refine oy rfl rfl (y_pick (b := false) rfl rfl) ?_
       refine ops_nil ?_
       exact goes_cut hL47 ((decide (x19.Kind ≠ 1) && decide (x19.Kind ≠ 2)) && decide (x19.Slot ≠ 0)) [0, 1, 2, 3, 4, 5] (qv6 rfl rfl rfl rfl rfl rfl) (by decide) rfl (by rw [hg48]; simp)
     rintro _ rfl
     refine ops_nil ?_
     refine goes_code ?_
     refine run_cond ((((decide (x19.Kind ≠ 3) && decide (0 < (x19.Name.length : Int))) || decide (200 < (x19.Name.length : Int))) || (decide (x19.Kind ≠ 6) && decide (x19.N ≠ 0))) || ((decide (x19.Kind ≠ 1) && decide (x19.Kind ≠ 2)) && decide (x19.Slot ≠ 0))) rfl (fun hc55 => ?_) (fun hc55 => ?_)
     ·replace h := cond_t h hc55
      refine run_seq ?_
      refine run_region' ?_
      refine oy rfl rfl (y_assign rfl) ?_
      refine ops_nil ?_
      refine goes_code ?_
      refine run_ret ?_
      obtain rfl := some_eq h
      obtain rfl := after_stop ho16
      skip
      obtain rfl := hstop10 _ rfl
      skip
      obtain rfl := after_stop ho2
      refine fin_slots [6] [.bool false] [] [] Try.results17 rfl (by decide) rfl ?_
      exact ⟨rfl, rfl⟩
     ·replace h := cond_f h hc55
      refine run_skip ?_
      refine goes_code ?_
      refine run_seq ?_
      refine run_seq ?_
      refine run_region' ?_
      refine oy rfl rfl (y_fieldAddr_box (sz := 0) Try.runUnderlying50 rfl Try.sizeOf3 rfl) ?_
      refine oy rfl rfl (y_load_box 5 Try.isAgg3 rfl rfl rfl) ?_
      refine oy rfl rfl (y_neq rfl rfl) ?_
      refine oy rfl rfl (y_move rfl) ?_
      refine ops_cut 5 (Bool) (fun σ => [(1, v7), (7, .int .i64 k_6), (0, l_0v), (2, .int .i64 deep_2), (8, boxP b23 0), (82, .bool σ)]) (fun σ => [ro v7 1 (vars_5.map (eInt .i64)), nro l_0v NC_api_TStmt_50 l_0, nro g20 NC_api_TExpr_48 x19.X.Args, nro g21 NC_api_TStmt_50 x19.Body, nro g22 NC_api_TStmt_50 x19.Else, box b23 [.int .i64 x19.Kind, .int .i64 x19.Slot, .int .i64 x19.N, .string (bs x19.Name), .int .i64 x19.X.Op, .int .i64 x19.X.Type_, .int .i64 x19.X.N, .int .i64 x19.X.Slot, .string (bs x19.X.S), g20, g21, g22]]) (fun σ => σ = (decide (x19.Kind ≠ 5) && decide (0 < (x19.Else.length : Int)))) (fun L56 hL57 => ?_) ?_
      ·refine ops_split 77 (decide (x19.Kind ≠ 5)) rfl (fun hg58 => ?_) (fun hg58 => ?_)
       ·skip
        refine ops_y (wg 3 true 77 rfl rfl rfl rfl) rfl (y_fieldAddr_box (sz := 0) Try.runUnderlying50 rfl Try.sizeOf23 rfl) ?_
        refine ops_y (wg 3 true 77 rfl rfl rfl rfl) rfl (y_load_box 5 Try.isAgg23 rfl rfl rfl) ?_
        refine ops_y (wg 3 true 77 rfl rfl rfl rfl) rfl (y_lenN 4 rfl Try.runUnderlying23 rfl rfl readsN_ro) ?_
        refine ops_y (wg 3 true 77 rfl rfl rfl rfl) rfl (y_gtr rfl rfl) ?_
        refine oy rfl rfl (y_pick (b := true) rfl rfl) ?_
        refine ops_nil ?_
        exact goes_cut hL57 (decide (0 < (x19.Else.length : Int))) [0, 1, 2, 3, 4, 5] (qv6 rfl rfl rfl rfl rfl rfl) (by decide) rfl (by rw [hg58]; simp)
       ·skip
        refine ops_no 3 true 77 rfl rfl rfl rfl rfl ?_
        refine ops_no 3 true 77 rfl rfl rfl rfl rfl ?_
        refine ops_no 3 true 77 rfl rfl rfl rfl rfl ?_
        refine ops_no 3 true 77 rfl rfl rfl rfl rfl ?_
        refine oy rfl rfl (y_pick (b := false) rfl rfl) ?_
        refine ops_nil ?_
        exact goes_cut hL57 false [0, 1, 2, 3, 4, 5] (qv6 rfl rfl rfl rfl rfl rfl) (by decide) rfl (by rw [hg58]; simp)
      rintro _ rfl
      refine oy rfl rfl (y_move rfl) ?_
      refine ops_cut 15 (Bool) (fun σ => [(1, v7), (7, .int .i64 k_6), (0, l_0v), (2, .int .i64 deep_2), (8, boxP b23 0), (98, .bool σ)]) (fun σ => [ro v7 1 (vars_5.map (eInt .i64)), nro l_0v NC_api_TStmt_50 l_0, nro g20 NC_api_TExpr_48 x19.X.Args, nro g21 NC_api_TStmt_50 x19.Body, nro g22 NC_api_TStmt_50 x19.Else, box b23 [.int .i64 x19.Kind, .int .i64 x19.Slot, .int .i64 x19.N, .string (bs x19.Name), .int .i64 x19.X.Op, .int .i64 x19.X.Type_, .int .i64 x19.X.N, .int .i64 x19.X.Slot, .string (bs x19.X.S), g20, g21, g22]]) (fun σ => σ = ((decide (x19.Kind ≠ 5) && decide (0 < (x19.Else.length : Int))) || ((decide (x19.Kind ≠ 5) && decide (x19.Kind ≠ 6)) && decide (0 < (x19.Body.length : Int))))) (fun L59 hL60 => ?_) ?_
      ·refine ops_split 83 (decide (x19.Kind ≠ 5) && decide (0 < (x19.Else.length : Int))) rfl (fun hg61 => ?_) (fun hg61 => ?_)
       ·skip
        refine ops_no 9 false 83 rfl rfl rfl rfl rfl ?_
        refine ops_no 9 false 83 rfl rfl rfl rfl rfl ?_
        refine ops_no 9 false 83 rfl rfl rfl rfl rfl ?_
        refine ops_no 9 false 83 rfl rfl rfl rfl rfl ?_
        refine ops_un 13 true 87 rfl rfl rfl rfl rfl ?_
        refine ops_un 13 true 87 rfl rfl rfl rfl rfl ?_
        refine ops_un 13 true 87 rfl rfl rfl rfl rfl ?_
        refine ops_no 9 false 83 rfl rfl rfl rfl rfl ?_
        refine ops_no 9 false 83 rfl rfl rfl rfl rfl ?_
        refine ops_un 18 true 92 rfl rfl rfl rfl rfl ?_
        refine ops_un 18 true 92 rfl rfl rfl rfl rfl ?_
        refine ops_un 18 true 92 rfl rfl rfl rfl rfl ?_
        refine ops_un 18 true 92 rfl rfl rfl rfl rfl ?_
        refine ops_no 9 false 83 rfl rfl rfl rfl rfl ?_
        refine ops_weak [(1, v7), (7, .int .i64 k_6), (0, l_0v), (2, .int .i64 deep_2), (8, boxP b23 0), (83, .bool true), (97, undef)] [0, 1, 2, 3, 4, 5] [ro v7 1 (vars_5.map (eInt .i64)), nro l_0v NC_api_TStmt_50 l_0, nro g20 NC_api_TExpr_48 x19.X.Args, nro g21 NC_api_TStmt_50 x19.Body, nro g22 NC_api_TStmt_50 x19.Else, box b23 [.int .i64 x19.Kind, .int .i64 x19.Slot, .int .i64 x19.N, .string (bs x19.Name), .int .i64 x19.X.Op, .int .i64 x19.X.Type_, .int .i64 x19.X.N, .int .i64 x19.X.Slot, .string (bs x19.X.S), g20, g21, g22]] (qv7 rfl rfl rfl rfl rfl rfl rfl) (by decide) rfl ?_
        refine oy rfl rfl (y_pick (b := true) rfl rfl) ?_
        refine ops_nil ?_
        exact goes_cut hL60 true [0, 1, 2, 3, 4, 5] (qv6 rfl rfl rfl rfl rfl rfl) (by decide) rfl (by rw [hg61]; simp)
       ·skip
        refine ops_y (wg 9 false 83 rfl rfl rfl rfl) rfl (y_fieldAddr_box (sz := 0) Try.runUnderlying50 rfl Try.sizeOf3 rfl) ?_
        refine ops_y (wg 9 false 83 rfl rfl rfl rfl) rfl (y_load_box 5 Try.isAgg3 rfl rfl rfl) ?_
        refine ops_y (wg 9 false 83 rfl rfl rfl rfl) rfl (y_neq rfl rfl) ?_
        refine ops_y (wg 9 false 83 rfl rfl rfl rfl) rfl (y_move rfl) ?_
        refine ops_cut 4 (Bool) (fun σ => [(1, v7), (7, .int .i64 k_6), (0, l_0v), (2, .int .i64 deep_2), (8, boxP b23 0), (83, .bool false), (91, .bool σ)]) (fun σ => [ro v7 1 (vars_5.map (eInt .i64)), nro l_0v NC_api_TStmt_50 l_0, nro g20 NC_api_TExpr_48 x19.X.Args, nro g21 NC_api_TStmt_50 x19.Body, nro g22 NC_api_TStmt_50 x19.Else, box b23 [.int .i64 x19.Kind, .int .i64 x19.Slot, .int .i64 x19.N, .string (bs x19.Name), .int .i64 x19.X.Op, .int .i64 x19.X.Type_, .int .i64 x19.X.N, .int .i64 x19.X.Slot, .string (bs x19.X.S), g20, g21, g22]]) (fun σ => σ = (decide (x19.Kind ≠ 5) && decide (x19.Kind ≠ 6))) (fun L62 hL63 => ?_) ?_
        ·refine ops_split 87 (decide (x19.Kind ≠ 5)) rfl (fun hg64 => ?_) (fun hg64 => ?_)
         ·skip
          refine ops_y (wg 13 true 87 rfl rfl rfl rfl) rfl (y_fieldAddr_box (sz := 0) Try.runUnderlying50 rfl Try.sizeOf3 rfl) ?_
          refine ops_y (wg 13 true 87 rfl rfl rfl rfl) rfl (y_load_box 5 Try.isAgg3 rfl rfl rfl) ?_
          refine ops_y (wg 13 true 87 rfl rfl rfl rfl) rfl (y_neq rfl rfl) ?_
          refine ops_y (wg 9 false 83 rfl rfl rfl rfl) rfl (y_pick (b := true) rfl rfl) ?_
          refine ops_nil ?_
          exact goes_cut hL63 (decide (x19.Kind ≠ 6)) [0, 1, 2, 3, 4, 5] (qv7 rfl rfl rfl rfl rfl rfl rfl) (by decide) rfl (by rw [hg64]; simp)
         ·skip
          refine ops_no 13 true 87 rfl rfl rfl rfl rfl ?_
          refine ops_no 13 true 87 rfl rfl rfl rfl rfl ?_
          refine ops_no 13 true 87 rfl rfl rfl rfl rfl ?_
          refine ops_y (wg 9 false 83 rfl rfl rfl rfl) rfl (y_pick (b := false) rfl rfl) ?_
          refine ops_nil ?_
          exact goes_cut hL63 false [0, 1, 2, 3, 4, 5] (qv7 rfl rfl rfl rfl rfl rfl rfl) (by decide) rfl (by rw [hg64]; simp)
        rintro _ rfl
        refine ops_y (wg 9 false 83 rfl rfl rfl rfl) rfl (y_move rfl) ?_
        refine ops_cut 5 (Bool) (fun σ => [(1, v7), (7, .int .i64 k_6), (0, l_0v), (2, .int .i64 deep_2), (8, boxP b23 0), (83, .bool false), (97, .bool σ)]) (fun σ => [ro v7 1 (vars_5.map (eInt .i64)), nro l_0v NC_api_TStmt_50 l_0, nro g20 NC_api_TExpr_48 x19.X.Args, nro g21 NC_api_TStmt_50 x19.Body, nro g22 NC_api_TStmt_50 x19.Else, box b23 [.int .i64 x19.Kind, .int .i64 x19.Slot, .int .i64 x19.N, .string (bs x19.Name), .int .i64 x19.X.Op, .int .i64 x19.X.Type_, .int .i64 x19.X.N, .int .i64 x19.X.Slot, .string (bs x19.X.S), g20, g21, g22]]) (fun σ => σ = ((decide (x19.Kind ≠ 5) && decide (x19.Kind ≠ 6)) && decide (0 < (x19.Body.length : Int)))) (fun L65 hL66 => ?_) ?_
        ·refine ops_split 92 (decide (x19.Kind ≠ 5) && decide (x19.Kind ≠ 6)) rfl (fun hg67 => ?_) (fun hg67 => ?_)
         ·skip
          refine ops_y (wg 18 true 92 rfl rfl rfl rfl) rfl (y_fieldAddr_box (sz := 0) Try.runUnderlying50 rfl Try.sizeOf23 rfl) ?_
          refine ops_y (wg 18 true 92 rfl rfl rfl rfl) rfl (y_load_box 5 Try.isAgg23 rfl rfl rfl) ?_
          refine ops_y (wg 18 true 92 rfl rfl rfl rfl) rfl (y_lenN 3 rfl Try.runUnderlying23 rfl rfl readsN_ro) ?_
          refine ops_y (wg 18 true 92 rfl rfl rfl rfl) rfl (y_gtr rfl rfl) ?_
          refine ops_y (wg 9 false 83 rfl rfl rfl rfl) rfl (y_pick (b := true) rfl rfl) ?_
          refine ops_nil ?_
          exact goes_cut hL66 (decide (0 < (x19.Body.length : Int))) [0, 1, 2, 3, 4, 5] (qv7 rfl rfl rfl rfl rfl rfl rfl) (by decide) rfl (by rw [hg67]; simp)
         ·skip
          refine ops_no 18 true 92 rfl rfl rfl rfl rfl ?_
          refine ops_no 18 true 92 rfl rfl rfl rfl rfl ?_
          refine ops_no 18 true 92 rfl rfl rfl rfl rfl ?_
          refine ops_no 18 true 92 rfl rfl rfl rfl rfl ?_
          refine ops_y (wg 9 false 83 rfl rfl rfl rfl) rfl (y_pick (b := false) rfl rfl) ?_
          refine ops_nil ?_
          exact goes_cut hL66 false [0, 1, 2, 3, 4, 5] (qv7 rfl rfl rfl rfl rfl rfl rfl) (by decide) rfl (by rw [hg67]; simp)
        rintro _ rfl
        refine oy rfl rfl (y_pick (b := false) rfl rfl) ?_
        refine ops_nil ?_
        exact goes_cut hL60 ((decide (x19.Kind ≠ 5) && decide (x19.Kind ≠ 6)) && decide (0 < (x19.Body.length : Int))) [0, 1, 2, 3, 4, 5] (qv6 rfl rfl rfl rfl rfl rfl) (by decide) rfl (by rw [hg61]; simp)
      rintro _ rfl
      refine ops_nil ?_
      refine goes_code ?_
      refine run_cond ((decide (x19.Kind ≠ 5) && decide (0 < (x19.Else.length : Int))) || ((decide (x19.Kind ≠ 5) && decide (x19.Kind ≠ 6)) && decide (0 < (x19.Body.length : Int)))) rfl (fun hc68 => ?_) (fun hc68 => ?_)
      ·replace h := cond_t h hc68
       refine run_seq ?_
       refine run_region' ?_
       refine oy rfl rfl (y_assign rfl) ?_
       refine ops_nil ?_
       refine goes_code ?_
       refine run_ret ?_
       obtain rfl := some_eq h
       obtain rfl := after_stop ho16
       skip
       obtain rfl := hstop10 _ rfl
       skip
       obtain rfl := after_stop ho2
       refine fin_slots [6] [.bool false] [] [] Try.results17 rfl (by decide) rfl ?_
       exact ⟨rfl, rfl⟩
      ·replace h := cond_f h hc68
       refine run_skip ?_
       refine goes_code ?_
       obtain ⟨o69, h, ho70⟩ := bindJ_some h
       refine run_cut ((Unit) × (Unit)) (fun σ => [(0, l_0v), (1, v7), (2, .int .i64 deep_2), (7, .int .i64 k_6), (8, boxP b23 0)]) (fun σ => [nro l_0v NC_api_TStmt_50 l_0, ro v7 1 (vars_5.map (eInt .i64)), box b23 [.int .i64 x19.Kind, .int .i64 x19.Slot, .int .i64 x19.N, .string (bs x19.Name), .int .i64 x19.X.Op, .int .i64 x19.X.Type_, .int .i64 x19.X.N, .int .i64 x19.X.Slot, .string (bs x19.X.S), g20, g21, g22], nro g20 NC_api_TExpr_48 x19.X.Args, nro g21 NC_api_TStmt_50 x19.Body, nro g22 NC_api_TStmt_50 x19.Else]) (fun σ => o69 = .go σ.1) (fun L72 hL71 => ?_) ?_
       ·
        refine run_seq ?_
        refine run_region' ?_
        refine oy rfl rfl (y_fieldAddr_box (sz := 0) Try.runUnderlying50 rfl Try.sizeOf3 rfl) ?_
        refine oy rfl rfl (y_load_box 5 Try.isAgg3 rfl rfl rfl) ?_
        refine oy rfl rfl (y_eql rfl rfl) ?_
        refine ops_nil ?_
        refine goes_code ?_
        refine run_cond (decide (x19.Kind = 6)) rfl (fun hc73 => ?_) (fun hc73 => ?_)
        ·replace h := cond_t h hc73
         refine run_seq ?_
         refine run_region' ?_
         refine oy rfl rfl (y_fieldAddr_box (sz := 5) Try.runUnderlying50 rfl Try.sizeOf48 rfl) ?_
         refine oy rfl rfl (y_load_boxagg (c := [.int .i64 x19.X.Op, .int .i64 x19.X.Type_, .int .i64 x19.X.N, .int .i64 x19.X.Slot, .string (bs x19.X.S), g20]) 5 Try.isAgg48 Try.sizeOf48 rfl rfl rfl) ?_
         obtain ⟨r74, hr75, h⟩ := obind_some h
         refine ot rfl rfl (t_callx (vs := [.agg #[.int .i64 x19.X.Op, .int .i64 x19.X.Type_, .int .i64 x19.X.N, .int .i64 x19.X.Slot, .string (bs x19.X.S), g20]]) (cs := []) [(2, 0)] rfl Try.call33 rfl (ref20_zero_ok  x19.X g20 hr75) (showsX_view 2 rfl views_nro showsX_nil) rfl (.inl rfl)) ?_
         rintro _ _ ⟨_, ⟨rfl, rfl⟩, rfl⟩
         refine oy rfl rfl (y_not rfl) ?_
         refine oy rfl rfl (y_move rfl) ?_
         refine ops_cut 4 (Bool) (fun σ => [(1, v7), (7, .int .i64 k_6), (0, l_0v), (2, .int .i64 deep_2), (8, boxP b23 0), (110, .bool σ)]) (fun σ => [ro v7 1 (vars_5.map (eInt .i64)), nro l_0v NC_api_TStmt_50 l_0, nro g20 NC_api_TExpr_48 x19.X.Args, nro g21 NC_api_TStmt_50 x19.Body, nro g22 NC_api_TStmt_50 x19.Else, box b23 [.int .i64 x19.Kind, .int .i64 x19.Slot, .int .i64 x19.N, .string (bs x19.Name), .int .i64 x19.X.Op, .int .i64 x19.X.Type_, .int .i64 x19.X.N, .int .i64 x19.X.Slot, .string (bs x19.X.S), g20, g21, g22]]) (fun σ => σ = ((!r74) || decide (x19.N < 0))) (fun L76 hL77 => ?_) ?_
         ·refine ops_split 106 (!r74) rfl (fun hg78 => ?_) (fun hg78 => ?_)
          ·skip
           refine ops_no 4 false 106 rfl rfl rfl rfl rfl ?_
           refine ops_no 4 false 106 rfl rfl rfl rfl rfl ?_
           refine ops_no 4 false 106 rfl rfl rfl rfl rfl ?_
           refine oy rfl rfl (y_pick (b := true) rfl rfl) ?_
           refine ops_nil ?_
           exact goes_cut hL77 true [0, 1, 2, 3, 4, 5] (qv6 rfl rfl rfl rfl rfl rfl) (by decide) rfl (by rw [hg78]; simp)
          ·skip
           refine ops_y (wg 4 false 106 rfl rfl rfl rfl) rfl (y_fieldAddr_box (sz := 0) Try.runUnderlying50 rfl Try.sizeOf3 rfl) ?_
           refine ops_y (wg 4 false 106 rfl rfl rfl rfl) rfl (y_load_box 5 Try.isAgg3 rfl rfl rfl) ?_
           refine ops_y (wg 4 false 106 rfl rfl rfl rfl) rfl (y_lss rfl rfl) ?_
           refine oy rfl rfl (y_pick (b := false) rfl rfl) ?_
           refine ops_nil ?_
           exact goes_cut hL77 (decide (x19.N < 0)) [0, 1, 2, 3, 4, 5] (qv6 rfl rfl rfl rfl rfl rfl) (by decide) rfl (by rw [hg78]; simp)
         rintro _ rfl
         refine oy rfl rfl (y_move rfl) ?_
         refine ops_cut 4 (Bool) (fun σ => [(1, v7), (7, .int .i64 k_6), (0, l_0v), (2, .int .i64 deep_2), (8, boxP b23 0), (115, .bool σ)]) (fun σ => [ro v7 1 (vars_5.map (eInt .i64)), nro l_0v NC_api_TStmt_50 l_0, nro g20 NC_api_TExpr_48 x19.X.Args, nro g21 NC_api_TStmt_50 x19.Body, nro g22 NC_api_TStmt_50 x19.Else, box b23 [.int .i64 x19.Kind, .int .i64 x19.Slot, .int .i64 x19.N, .string (bs x19.Name), .int .i64 x19.X.Op, .int .i64 x19.X.Type_, .int .i64 x19.X.N, .int .i64 x19.X.Slot, .string (bs x19.X.S), g20, g21, g22]]) (fun σ => σ = (((!r74) || decide (x19.N < 0)) || decide (1000 < x19.N))) (fun L79 hL80 => ?_) ?_
         ·refine ops_split 111 ((!r74) || decide (x19.N < 0)) rfl (fun hg81 => ?_) (fun hg81 => ?_)
          ·skip
           refine ops_no 9 false 111 rfl rfl rfl rfl rfl ?_
           refine ops_no 9 false 111 rfl rfl rfl rfl rfl ?_
           refine ops_no 9 false 111 rfl rfl rfl rfl rfl ?_
           refine oy rfl rfl (y_pick (b := true) rfl rfl) ?_
           refine ops_nil ?_
           exact goes_cut hL80 true [0, 1, 2, 3, 4, 5] (qv6 rfl rfl rfl rfl rfl rfl) (by decide) rfl (by rw [hg81]; simp)
          ·skip
           refine ops_y (wg 9 false 111 rfl rfl rfl rfl) rfl (y_fieldAddr_box (sz := 0) Try.runUnderlying50 rfl Try.sizeOf3 rfl) ?_
           refine ops_y (wg 9 false 111 rfl rfl rfl rfl) rfl (y_load_box 5 Try.isAgg3 rfl rfl rfl) ?_
           refine ops_y (wg 9 false 111 rfl rfl rfl rfl) rfl (y_gtr rfl rfl) ?_
           refine oy rfl rfl (y_pick (b := false) rfl rfl) ?_
           refine ops_nil ?_
           exact goes_cut hL80 (decide (1000 < x19.N)) [0, 1, 2, 3, 4, 5] (qv6 rfl rfl rfl rfl rfl rfl) (by decide) rfl (by rw [hg81]; simp)
         rintro _ rfl
         refine ops_nil ?_
         refine goes_code ?_
         refine run_cond (((!r74) || decide (x19.N < 0)) || decide (1000 < x19.N)) rfl (fun hc82 => ?_) (fun hc82 => ?_)
         ·replace h := cond_t h hc82
          refine run_seq ?_
          refine run_region' ?_
          refine oy rfl rfl (y_assign rfl) ?_
          refine ops_nil ?_
          refine goes_code ?_
          refine run_ret ?_
          obtain rfl := some_eq h
          obtain rfl := after_stop ho70
          skip
          obtain rfl := after_stop ho16
          skip
          obtain rfl := hstop10 _ rfl
          skip
          obtain rfl := after_stop ho2
          refine fin_slots [6] [.bool false] [] [] Try.results17 rfl (by decide) rfl ?_
          exact ⟨rfl, rfl⟩
         ·replace h := cond_f h hc82
          refine run_skip ?_
          obtain rfl := some_eq h
          exact goes_cut hL71 ((), ()) [1, 0, 5, 2, 3, 4] (qv5 rfl rfl rfl rfl rfl) (by decide) rfl rfl
        ·replace h := cond_f h hc73
         refine run_seq ?_
         refine run_region' ?_
         refine oy rfl rfl (y_fieldAddr_box (sz := 5) Try.runUnderlying50 rfl Try.sizeOf48 rfl) ?_
         refine oy rfl rfl (y_load_boxagg (c := [.int .i64 x19.X.Op, .int .i64 x19.X.Type_, .int .i64 x19.X.N, .int .i64 x19.X.Slot, .string (bs x19.X.S), g20]) 5 Try.isAgg48 Try.sizeOf48 rfl rfl rfl) ?_
         refine oy rfl rfl (y_move rfl) ?_
         refine oy rfl rfl (y_move rfl) ?_
         refine oy rfl rfl (y_add rfl rfl) ?_
         obtain ⟨r83, hr84, h⟩ := obind_some h
         refine ot rfl rfl (t_callx (vs := [.agg #[.int .i64 x19.X.Op, .int .i64 x19.X.Type_, .int .i64 x19.X.N, .int .i64 x19.X.Slot, .string (bs x19.X.S), g20], v7, .int .i64 (IntKind.i64.wrap (deep_2 + 1))]) (cs := []) [(2, 0), (0, 0)] rfl Try.call34 rfl (ref20_RightExpr_ok n  x19.X vars_5 (IntKind.i64.wrap (deep_2 + 1)) g20 v7 hr84) (showsX_view 2 rfl views_nro (showsX_view 0 rfl views_ro showsX_nil)) rfl (.inl rfl)) ?_
         rintro _ _ ⟨_, ⟨rfl, rfl⟩, rfl⟩
         refine oy rfl rfl (y_assign rfl) ?_
         refine ops_nil ?_
         refine goes_code ?_
         refine run_seq ?_
         refine run_weak [(1, v7), (7, .int .i64 k_6), (0, l_0v), (2, .int .i64 deep_2), (8, boxP b23 0), (9, .bool r83)] [0, 1, 2, 3, 4, 5] [ro v7 1 (vars_5.map (eInt .i64)), nro l_0v NC_api_TStmt_50 l_0, nro g20 NC_api_TExpr_48 x19.X.Args, nro g21 NC_api_TStmt_50 x19.Body, nro g22 NC_api_TStmt_50 x19.Else, box b23 [.int .i64 x19.Kind, .int .i64 x19.Slot, .int .i64 x19.N, .string (bs x19.Name), .int .i64 x19.X.Op, .int .i64 x19.X.Type_, .int .i64 x19.X.N, .int .i64 x19.X.Slot, .string (bs x19.X.S), g20, g21, g22]] (qv6 rfl rfl rfl rfl rfl rfl) (by decide) rfl ?_
         refine run_region' ?_
         refine oy rfl rfl (y_move rfl) ?_
         refine oy rfl rfl (y_not rfl) ?_
         refine ops_nil ?_
         refine goes_code ?_
         refine run_cond (!r83) rfl (fun hc85 => ?_) (fun hc85 => ?_)
         ·replace h := cond_t h hc85
          refine run_seq ?_
          refine run_region' ?_
          refine oy rfl rfl (y_assign rfl) ?_
          refine ops_nil ?_
          refine goes_code ?_
          refine run_ret ?_
          obtain rfl := some_eq h
          obtain rfl := after_stop ho70
          skip
          obtain rfl := after_stop ho16
          skip
          obtain rfl := hstop10 _ rfl
          skip
          obtain rfl := after_stop ho2
          refine fin_slots [6] [.bool false] [] [] Try.results17 rfl (by decide) rfl ?_
          exact ⟨rfl, rfl⟩
         ·replace h := cond_f h hc85
          refine run_skip ?_
          obtain rfl := some_eq h
          exact goes_cut hL71 ((), ()) [1, 0, 5, 2, 3, 4] (qv5 rfl rfl rfl rfl rfl) (by decide) rfl rfl
       rintro ⟨_, _⟩ hj
       obtain rfl : o69 = _ := hj
       replace h := after_go ho70
       clear ho70
       change Run _ _ _ (VF.of [(0, l_0v), (1, v7), (2, .int .i64 deep_2), (7, .int .i64 k_6), (8, boxP b23 0)]) [nro l_0v NC_api_TStmt_50 l_0, ro v7 1 (vars_5.map (eInt .i64)), box b23 [.int .i64 x19.Kind, .int .i64 x19.Slot, .int .i64 x19.N, .string (bs x19.Name), .int .i64 x19.X.Op, .int .i64 x19.X.Type_, .int .i64 x19.X.N, .int .i64 x19.X.Slot, .string (bs x19.X.S), g20, g21, g22], nro g20 NC_api_TExpr_48 x19.X.Args, nro g21 NC_api_TStmt_50 x19.Body, nro g22 NC_api_TStmt_50 x19.Else]
       refine run_seq ?_
       refine run_region' ?_
       refine oy rfl rfl (y_fieldAddr_box (sz := 0) Try.runUnderlying50 rfl Try.sizeOf23 rfl) ?_
       refine oy rfl rfl (y_load_box 2 Try.isAgg23 rfl rfl rfl) ?_
       refine oy rfl rfl (y_move rfl) ?_
       refine oy rfl rfl (y_move rfl) ?_
       refine oy rfl rfl (y_add rfl rfl) ?_
       obtain ⟨r86, hr87, h⟩ := obind_some h
       refine ot rfl rfl (t_callx (vs := [g21, v7, .int .i64 (IntKind.i64.wrap (deep_2 + 1))]) (cs := []) [(4, 0), (1, 0)] rfl Try.call17 rfl (hrec_ref20_RightBlock  x19.Body vars_5 (IntKind.i64.wrap (deep_2 + 1)) g21 v7 hr87) (showsX_view 4 rfl views_nro (showsX_view 1 rfl views_ro showsX_nil)) rfl (.inl rfl)) ?_
       rintro _ _ ⟨_, ⟨rfl, rfl⟩, rfl⟩
       refine oy rfl rfl (y_assign rfl) ?_
       refine ops_nil ?_
       refine goes_code ?_
       refine run_seq ?_
       refine run_region' ?_
       refine oy rfl rfl (y_fieldAddr_box (sz := 0) Try.runUnderlying50 rfl Try.sizeOf23 rfl) ?_
       refine oy rfl rfl (y_load_box 2 Try.isAgg23 rfl rfl rfl) ?_
       refine oy rfl rfl (y_move rfl) ?_
       refine oy rfl rfl (y_move rfl) ?_
       refine oy rfl rfl (y_add rfl rfl) ?_
       obtain ⟨r88, hr89, h⟩ := obind_some h
       refine ot rfl rfl (t_callx (vs := [g22, v7, .int .i64 (IntKind.i64.wrap (deep_2 + 1))]) (cs := []) [(5, 0), (1, 0)] rfl Try.call17 rfl (hrec_ref20_RightBlock  x19.Else vars_5 (IntKind.i64.wrap (deep_2 + 1)) g22 v7 hr89) (showsX_view 5 rfl views_nro (showsX_view 1 rfl views_ro showsX_nil)) rfl (.inl rfl)) ?_
       rintro _ _ ⟨_, ⟨rfl, rfl⟩, rfl⟩
       refine oy rfl rfl (y_assign rfl) ?_
       refine ops_nil ?_
       refine goes_code ?_
       refine run_seq ?_
       refine run_seq ?_
       refine run_weak [(0, l_0v), (1, v7), (2, .int .i64 deep_2), (7, .int .i64 k_6), (8, boxP b23 0), (10, .bool r86), (11, .bool r88)] [0, 1, 2, 3, 4, 5] [nro l_0v NC_api_TStmt_50 l_0, ro v7 1 (vars_5.map (eInt .i64)), box b23 [.int .i64 x19.Kind, .int .i64 x19.Slot, .int .i64 x19.N, .string (bs x19.Name), .int .i64 x19.X.Op, .int .i64 x19.X.Type_, .int .i64 x19.X.N, .int .i64 x19.X.Slot, .string (bs x19.X.S), g20, g21, g22], nro g20 NC_api_TExpr_48 x19.X.Args, nro g21 NC_api_TStmt_50 x19.Body, nro g22 NC_api_TStmt_50 x19.Else] (qv7 rfl rfl rfl rfl rfl rfl rfl) (by decide) rfl ?_
       refine run_region' ?_
       refine oy rfl rfl (y_move rfl) ?_
       refine oy rfl rfl (y_not rfl) ?_
       refine oy rfl rfl (y_move rfl) ?_
       refine ops_cut 3 (Bool) (fun σ => [(0, l_0v), (1, v7), (2, .int .i64 deep_2), (7, .int .i64 k_6), (8, boxP b23 0), (141, .bool σ)]) (fun σ => [nro l_0v NC_api_TStmt_50 l_0, ro v7 1 (vars_5.map (eInt .i64)), box b23 [.int .i64 x19.Kind, .int .i64 x19.Slot, .int .i64 x19.N, .string (bs x19.Name), .int .i64 x19.X.Op, .int .i64 x19.X.Type_, .int .i64 x19.X.N, .int .i64 x19.X.Slot, .string (bs x19.X.S), g20, g21, g22], nro g20 NC_api_TExpr_48 x19.X.Args, nro g21 NC_api_TStmt_50 x19.Body, nro g22 NC_api_TStmt_50 x19.Else]) (fun σ => σ = ((!r86) || (!r88))) (fun L90 hL91 => ?_) ?_
       ·refine ops_split 138 (!r86) rfl (fun hg92 => ?_) (fun hg92 => ?_)
        ·skip
         refine ops_no 2 false 138 rfl rfl rfl rfl rfl ?_
         refine ops_no 2 false 138 rfl rfl rfl rfl rfl ?_
         refine oy rfl rfl (y_pick (b := true) rfl rfl) ?_
         refine ops_nil ?_
         exact goes_cut hL91 true [0, 1, 2, 3, 4, 5] (qv6 rfl rfl rfl rfl rfl rfl) (by decide) rfl (by rw [hg92]; simp)
        ·skip
         refine ops_y (wg 2 false 138 rfl rfl rfl rfl) rfl (y_move rfl) ?_
         refine ops_y (wg 2 false 138 rfl rfl rfl rfl) rfl (y_not rfl) ?_
         refine oy rfl rfl (y_pick (b := false) rfl rfl) ?_
         refine ops_nil ?_
         exact goes_cut hL91 (!r88) [0, 1, 2, 3, 4, 5] (qv6 rfl rfl rfl rfl rfl rfl) (by decide) rfl (by rw [hg92]; simp)
       rintro _ rfl
       refine ops_nil ?_
       refine goes_code ?_
       refine run_cond ((!r86) || (!r88)) rfl (fun hc93 => ?_) (fun hc93 => ?_)
       ·replace h := cond_t h hc93
        refine run_seq ?_
        refine run_region' ?_
        refine oy rfl rfl (y_assign rfl) ?_
        refine ops_nil ?_
        refine goes_code ?_
        refine run_ret ?_
        obtain rfl := some_eq h
        obtain rfl := after_stop ho16
        skip
        obtain rfl := hstop10 _ rfl
        skip
        obtain rfl := after_stop ho2
        refine fin_slots [6] [.bool false] [] [] Try.results17 rfl (by decide) rfl ?_
        exact ⟨rfl, rfl⟩
       ·replace h := cond_f h hc93
        refine run_skip ?_
        refine goes_code ?_
        refine run_seq ?_
        refine run_region' ?_
        refine oy rfl rfl (y_fieldAddr_box (sz := 0) Try.runUnderlying50 rfl Try.sizeOf3 rfl) ?_
        refine oy rfl rfl (y_load_box 2 Try.isAgg3 rfl rfl rfl) ?_
        refine oy rfl rfl (y_eql rfl rfl) ?_
        refine ops_nil ?_
        refine goes_code ?_
        refine run_cond (decide (x19.Kind = 1)) rfl (fun hc94 => ?_) (fun hc94 => ?_)
        ·replace h := cond_t h hc94
         refine run_seq ?_
         refine run_seq ?_
         refine run_region' ?_
         refine oy rfl rfl (y_fieldAddr_box (sz := 0) Try.runUnderlying50 rfl Try.sizeOf3 rfl) ?_
         refine oy rfl rfl (y_load_box 2 Try.isAgg3 rfl rfl rfl) ?_
         refine oy rfl rfl (y_move rfl) ?_
         refine oy rfl rfl ((y_len 1 rfl Try.runUnderlying22 rfl rfl reads_ro).to (v_len (eInt .i64) _)) ?_
         refine oy rfl rfl (y_neq rfl rfl) ?_
         refine oy rfl rfl (y_move rfl) ?_
         refine ops_cut 4 (Bool) (fun σ => [(0, l_0v), (1, v7), (2, .int .i64 deep_2), (7, .int .i64 k_6), (8, boxP b23 0), (154, .bool σ)]) (fun σ => [nro l_0v NC_api_TStmt_50 l_0, ro v7 1 (vars_5.map (eInt .i64)), box b23 [.int .i64 x19.Kind, .int .i64 x19.Slot, .int .i64 x19.N, .string (bs x19.Name), .int .i64 x19.X.Op, .int .i64 x19.X.Type_, .int .i64 x19.X.N, .int .i64 x19.X.Slot, .string (bs x19.X.S), g20, g21, g22], nro g20 NC_api_TExpr_48 x19.X.Args, nro g21 NC_api_TStmt_50 x19.Body, nro g22 NC_api_TStmt_50 x19.Else]) (fun σ => σ = (decide (x19.Slot ≠ (vars_5.length : Int)) || decide (200 ≤ (vars_5.length : Int)))) (fun L95 hL96 => ?_) ?_
         ·refine ops_split 150 (decide (x19.Slot ≠ (vars_5.length : Int))) rfl (fun hg97 => ?_) (fun hg97 => ?_)
          ·skip
           refine ops_no 5 false 150 rfl rfl rfl rfl rfl ?_
           refine ops_no 5 false 150 rfl rfl rfl rfl rfl ?_
           refine ops_no 5 false 150 rfl rfl rfl rfl rfl ?_
           refine oy rfl rfl (y_pick (b := true) rfl rfl) ?_
           refine ops_nil ?_
           exact goes_cut hL96 true [0, 1, 2, 3, 4, 5] (qv6 rfl rfl rfl rfl rfl rfl) (by decide) rfl (by rw [hg97]; simp)
          ·skip
           refine ops_y (wg 5 false 150 rfl rfl rfl rfl) rfl (y_move rfl) ?_
           refine ops_y (wg 5 false 150 rfl rfl rfl rfl) rfl ((y_len 1 rfl Try.runUnderlying22 rfl rfl reads_ro).to (v_len (eInt .i64) _)) ?_
           refine ops_y (wg 5 false 150 rfl rfl rfl rfl) rfl (y_geq rfl rfl) ?_
           refine oy rfl rfl (y_pick (b := false) rfl rfl) ?_
           refine ops_nil ?_
           exact goes_cut hL96 (decide (200 ≤ (vars_5.length : Int))) [0, 1, 2, 3, 4, 5] (qv6 rfl rfl rfl rfl rfl rfl) (by decide) rfl (by rw [hg97]; simp)
         rintro _ rfl
         refine ops_nil ?_
         refine goes_code ?_
         refine run_cond (decide (x19.Slot ≠ (vars_5.length : Int)) || decide (200 ≤ (vars_5.length : Int))) rfl (fun hc98 => ?_) (fun hc98 => ?_)
         ·replace h := cond_t h hc98
          refine run_seq ?_
          refine run_region' ?_
          refine oy rfl rfl (y_assign rfl) ?_
          refine ops_nil ?_
          refine goes_code ?_
          refine run_ret ?_
          obtain rfl := some_eq h
          obtain rfl := after_stop ho16
          skip
          obtain rfl := hstop10 _ rfl
          skip
          obtain rfl := after_stop ho2
          refine fin_slots [6] [.bool false] [] [] Try.results17 rfl (by decide) rfl ?_
          exact ⟨rfl, rfl⟩
         ·replace h := cond_f h hc98
          refine run_skip ?_
          refine goes_code ?_
          obtain ⟨hr101, h⟩ := need_some h
          obtain ⟨hr104, h⟩ := need_some h
          refine run_drawany [nro l_0v NC_api_TStmt_50 l_0, ro v7 1 (vars_5.map (eInt .i64)), box b23 [.int .i64 x19.Kind, .int .i64 x19.Slot, .int .i64 x19.N, .string (bs x19.Name), .int .i64 x19.X.Op, .int .i64 x19.X.Type_, .int .i64 x19.X.N, .int .i64 x19.X.Slot, .string (bs x19.X.S), g20, g21, g22], nro g20 NC_api_TExpr_48 x19.X.Args, nro g21 NC_api_TStmt_50 x19.Body, nro g22 NC_api_TStmt_50 x19.Else] (by kernel_rfl) ?_
          refine any_y 1 rfl (by kernel_rfl) (by kernel_rfl) (by kernel_rfl) (ss (ss (ss (ss (ss (ss (sn))))))) (wn rfl) rfl (y_move rfl) ?_
          refine any_y 3 rfl (by kernel_rfl) (by kernel_rfl) (by kernel_rfl) (ss (ss (ss (ss (ss (ss (sn))))))) (wn rfl) rfl (y_fieldAddr_box (sz := 5) Try.runUnderlying50 rfl Try.sizeOf48 rfl) ?_
          refine any_y 4 rfl (by kernel_rfl) (by kernel_rfl) (by kernel_rfl) (ss (ss (ss (ss (ss (ss (sn))))))) (wn rfl) rfl (y_fieldAddr_box (sz := 0) Try.runUnderlying48 rfl Try.sizeOf3 rfl) ?_
          refine any_y 5 rfl (by kernel_rfl) (by kernel_rfl) (by kernel_rfl) (ss (ss (ss (ss (ss (ss (sn))))))) (wn rfl) rfl (y_load_box 2 Try.isAgg3 rfl rfl rfl) ?_
          refine any_cut2 #[true, true, true, true, true, true, true, true, true] 0 (Value × Value) (fun σ => [(0, l_0v), (1, σ.1), (2, .int .i64 deep_2), (7, .int .i64 k_6)]) (fun σ => [nro l_0v NC_api_TStmt_50 l_0, ro v7 1 (vars_5.map (eInt .i64)), box b23 [.int .i64 x19.Kind, .int .i64 x19.Slot, .int .i64 x19.N, .string (bs x19.Name), .int .i64 x19.X.Op, .int .i64 x19.X.Type_, .int .i64 x19.X.N, .int .i64 x19.X.Slot, .string (bs x19.X.S), g20, g21, g22], nro g20 NC_api_TExpr_48 x19.X.Args, nro g21 NC_api_TStmt_50 x19.Body, nro g22 NC_api_TStmt_50 x19.Else, row σ.1 1 (((([] : List Int) ++ vars_5) ++ ([x19.X.Type_] : List Int)).map (eInt .i64)), row σ.2 1 (([x19.X.Type_] : List Int).map (eInt .i64))]) ?_ (fun hK111 => ?_)
          ·rintro ⟨v110, v109⟩
           change AnyL _ _ _ _ _ (VF.of [(0, l_0v), (1, v110), (2, .int .i64 deep_2), (7, .int .i64 k_6)]) [nro l_0v NC_api_TStmt_50 l_0, ro v7 1 (vars_5.map (eInt .i64)), box b23 [.int .i64 x19.Kind, .int .i64 x19.Slot, .int .i64 x19.N, .string (bs x19.Name), .int .i64 x19.X.Op, .int .i64 x19.X.Type_, .int .i64 x19.X.N, .int .i64 x19.X.Slot, .string (bs x19.X.S), g20, g21, g22], nro g20 NC_api_TExpr_48 x19.X.Args, nro g21 NC_api_TStmt_50 x19.Body, nro g22 NC_api_TStmt_50 x19.Else, row v110 1 (((([] : List Int) ++ vars_5) ++ ([x19.X.Type_] : List Int)).map (eInt .i64)), row v109 1 (([x19.X.Type_] : List Int).map (eInt .i64))] _
           refine any_nil (by kernel_rfl) ?_
           refine goes_blk ?_
           refine goes_turn (Go.Abs.freeze 6 rfl) ?_
           obtain rfl := some_eq h
           exact goes_cut hL17 (((([] : List Int) ++ vars_5) ++ ([x19.X.Type_] : List Int)), v110) [6, 0] (qv4 rfl rfl rfl rfl) (by decide) rfl rfl
          refine any_cut2 #[true, true, true, true, true, true, true, false, false] 2 (Value × Value) (fun σ => [(0, l_0v), (1, v7), (2, .int .i64 deep_2), (7, .int .i64 k_6), (157, σ.1), (161, σ.2)]) (fun σ => [nro l_0v NC_api_TStmt_50 l_0, ro v7 1 (vars_5.map (eInt .i64)), box b23 [.int .i64 x19.Kind, .int .i64 x19.Slot, .int .i64 x19.N, .string (bs x19.Name), .int .i64 x19.X.Op, .int .i64 x19.X.Type_, .int .i64 x19.X.N, .int .i64 x19.X.Slot, .string (bs x19.X.S), g20, g21, g22], nro g20 NC_api_TExpr_48 x19.X.Args, nro g21 NC_api_TStmt_50 x19.Body, nro g22 NC_api_TStmt_50 x19.Else, row σ.1 1 ((([] : List Int) ++ vars_5).map (eInt .i64)), row σ.2 1 (([x19.X.Type_] : List Int).map (eInt .i64))]) ?_ (fun hK112 => ?_)
          ·rintro ⟨v107, v109⟩
           change AnyL _ _ _ _ _ (VF.of [(0, l_0v), (1, v7), (2, .int .i64 deep_2), (7, .int .i64 k_6), (157, v107), (161, v109)]) [nro l_0v NC_api_TStmt_50 l_0, ro v7 1 (vars_5.map (eInt .i64)), box b23 [.int .i64 x19.Kind, .int .i64 x19.Slot, .int .i64 x19.N, .string (bs x19.Name), .int .i64 x19.X.Op, .int .i64 x19.X.Type_, .int .i64 x19.X.N, .int .i64 x19.X.Slot, .string (bs x19.X.S), g20, g21, g22], nro g20 NC_api_TExpr_48 x19.X.Args, nro g21 NC_api_TStmt_50 x19.Body, nro g22 NC_api_TStmt_50 x19.Else, row v107 1 ((([] : List Int) ++ vars_5).map (eInt .i64)), row v109 1 (([x19.X.Type_] : List Int).map (eInt .i64))] _
           refine any_all [7] (by kernel_rfl) rfl ?_
           refine anyo_cons ?_ ?_
           ·
            refine any_t rfl (wn rfl) rfl (t_append (es := 1) 6 rfl Try.runUnderlying22 rfl Try.runUnderlying22 (.inr ⟨_, rfl⟩) Try.typeInfo3 rfl (by decide) Try.zeroValue3 rfl rfl rfl rfl (src_reads 7 rfl reads_row (map_ok (eInt_ok _) _)) (map_room hr104 (by decide)) (map_fit hr104)) ?_
            rintro v113 _ rfl
            refine ⟨(ss (ss (ss (ss (ss (ss (sn))))))), ?_⟩
            refine any_turn (retell 6 (g := row v113 1 (((([] : List Int) ++ vars_5) ++ ([x19.X.Type_] : List Int)).map (eInt .i64))) rfl (congrArg (row _ _) List.map_append.symm)) ?_
            refine any_y 8 rfl (by kernel_rfl) (by kernel_rfl) (by kernel_rfl) (ss (ss (ss (ss (ss (ss (sn))))))) (wn rfl) rfl (y_assign rfl) ?_
            exact any_weak2 (hK111 (v113, v109)) [0, 1, 2, 3, 4, 5, 6, 7] (by kernel_rfl) (qv4 rfl rfl rfl rfl) (by decide) rfl
           exact anyo_nil
          refine any_cut2 #[true, true, true, true, true, true, false, false, false] 3 (Value) (fun σ => [(0, l_0v), (1, v7), (2, .int .i64 deep_2), (7, .int .i64 k_6), (160, .int .i64 x19.X.Type_), (157, σ)]) (fun σ => [nro l_0v NC_api_TStmt_50 l_0, ro v7 1 (vars_5.map (eInt .i64)), box b23 [.int .i64 x19.Kind, .int .i64 x19.Slot, .int .i64 x19.N, .string (bs x19.Name), .int .i64 x19.X.Op, .int .i64 x19.X.Type_, .int .i64 x19.X.N, .int .i64 x19.X.Slot, .string (bs x19.X.S), g20, g21, g22], nro g20 NC_api_TExpr_48 x19.X.Args, nro g21 NC_api_TStmt_50 x19.Body, nro g22 NC_api_TStmt_50 x19.Else, row σ 1 ((([] : List Int) ++ vars_5).map (eInt .i64))]) ?_ (fun hK114 => ?_)
          ·rintro v107
           change AnyL _ _ _ _ _ (VF.of [(0, l_0v), (1, v7), (2, .int .i64 deep_2), (7, .int .i64 k_6), (160, .int .i64 x19.X.Type_), (157, v107)]) [nro l_0v NC_api_TStmt_50 l_0, ro v7 1 (vars_5.map (eInt .i64)), box b23 [.int .i64 x19.Kind, .int .i64 x19.Slot, .int .i64 x19.N, .string (bs x19.Name), .int .i64 x19.X.Op, .int .i64 x19.X.Type_, .int .i64 x19.X.N, .int .i64 x19.X.Slot, .string (bs x19.X.S), g20, g21, g22], nro g20 NC_api_TExpr_48 x19.X.Args, nro g21 NC_api_TStmt_50 x19.Body, nro g22 NC_api_TStmt_50 x19.Else, row v107 1 ((([] : List Int) ++ vars_5).map (eInt .i64))] _
           refine any_all [6] (by kernel_rfl) rfl ?_
           refine anyo_cons ?_ ?_
           ·
            refine any_t rfl (wn rfl) rfl (t_lit [.int .i64 x19.X.Type_] Try.runUnderlying22 Try.sizeOf3 Try.zeroValue3 rfl (by decide) (by decide) rfl (by simp [Value.cells, boxP])) ?_
            rintro v115 _ ⟨rfl, _⟩
            refine ⟨(ss (ss (ss (ss (ss (ss (sn))))))), ?_⟩
            refine any_turn (retell 7 (g := row v115 1 (([x19.X.Type_] : List Int).map (eInt .i64))) rfl rfl) ?_
            exact any_weak2 (hK112 (v107, v115)) [0, 1, 2, 3, 4, 5, 6, 7] (by kernel_rfl) (qv6 rfl rfl rfl rfl rfl rfl) (by decide) rfl
           exact anyo_nil
          refine any_cut2 #[true, true, false, true, true, true, true, false, false] 3 (Value × Value) (fun σ => [(0, l_0v), (1, v7), (2, .int .i64 deep_2), (7, .int .i64 k_6), (156, v7), (155, σ.1), (161, σ.2)]) (fun σ => [nro l_0v NC_api_TStmt_50 l_0, ro v7 1 (vars_5.map (eInt .i64)), box b23 [.int .i64 x19.Kind, .int .i64 x19.Slot, .int .i64 x19.N, .string (bs x19.Name), .int .i64 x19.X.Op, .int .i64 x19.X.Type_, .int .i64 x19.X.N, .int .i64 x19.X.Slot, .string (bs x19.X.S), g20, g21, g22], nro g20 NC_api_TExpr_48 x19.X.Args, nro g21 NC_api_TStmt_50 x19.Body, nro g22 NC_api_TStmt_50 x19.Else, row σ.1 1 (([] : List Int).map (eInt .i64)), row σ.2 1 (([x19.X.Type_] : List Int).map (eInt .i64))]) ?_ (fun hK116 => ?_)
          ·rintro ⟨v105, v108⟩
           change AnyL _ _ _ _ _ (VF.of [(0, l_0v), (1, v7), (2, .int .i64 deep_2), (7, .int .i64 k_6), (156, v7), (155, v105), (161, v108)]) [nro l_0v NC_api_TStmt_50 l_0, ro v7 1 (vars_5.map (eInt .i64)), box b23 [.int .i64 x19.Kind, .int .i64 x19.Slot, .int .i64 x19.N, .string (bs x19.Name), .int .i64 x19.X.Op, .int .i64 x19.X.Type_, .int .i64 x19.X.N, .int .i64 x19.X.Slot, .string (bs x19.X.S), g20, g21, g22], nro g20 NC_api_TExpr_48 x19.X.Args, nro g21 NC_api_TStmt_50 x19.Body, nro g22 NC_api_TStmt_50 x19.Else, row v105 1 (([] : List Int).map (eInt .i64)), row v108 1 (([x19.X.Type_] : List Int).map (eInt .i64))] _
           refine any_all [2] (by kernel_rfl) rfl ?_
           refine anyo_cons ?_ ?_
           ·
            refine any_t rfl (wn rfl) rfl (t_append (es := 1) 6 rfl Try.runUnderlying22 rfl Try.runUnderlying22 (.inr ⟨_, rfl⟩) Try.typeInfo3 rfl (by decide) Try.zeroValue3 rfl rfl rfl rfl (src_reads 1 rfl reads_ro (map_ok (eInt_ok _) _)) (map_room hr101 (by decide)) (map_fit hr101)) ?_
            rintro v117 _ rfl
            refine ⟨(ss (ss (ss (ss (ss (ss (sn))))))), ?_⟩
            refine any_turn (retell 6 (g := row v117 1 ((([] : List Int) ++ vars_5).map (eInt .i64))) rfl (congrArg (row _ _) List.map_append.symm)) ?_
            exact any_weak2 (hK112 (v117, v108)) [0, 1, 2, 3, 4, 5, 6, 7] (by kernel_rfl) (qv6 rfl rfl rfl rfl rfl rfl) (by decide) rfl
           exact anyo_nil
          refine any_cut2 #[true, true, false, true, true, true, false, false, false] 4 (Value) (fun σ => [(0, l_0v), (1, v7), (2, .int .i64 deep_2), (7, .int .i64 k_6), (156, v7), (160, .int .i64 x19.X.Type_), (155, σ)]) (fun σ => [nro l_0v NC_api_TStmt_50 l_0, ro v7 1 (vars_5.map (eInt .i64)), box b23 [.int .i64 x19.Kind, .int .i64 x19.Slot, .int .i64 x19.N, .string (bs x19.Name), .int .i64 x19.X.Op, .int .i64 x19.X.Type_, .int .i64 x19.X.N, .int .i64 x19.X.Slot, .string (bs x19.X.S), g20, g21, g22], nro g20 NC_api_TExpr_48 x19.X.Args, nro g21 NC_api_TStmt_50 x19.Body, nro g22 NC_api_TStmt_50 x19.Else, row σ 1 (([] : List Int).map (eInt .i64))]) ?_ (fun hK118 => ?_)
          ·rintro v105
           change AnyL _ _ _ _ _ (VF.of [(0, l_0v), (1, v7), (2, .int .i64 deep_2), (7, .int .i64 k_6), (156, v7), (160, .int .i64 x19.X.Type_), (155, v105)]) [nro l_0v NC_api_TStmt_50 l_0, ro v7 1 (vars_5.map (eInt .i64)), box b23 [.int .i64 x19.Kind, .int .i64 x19.Slot, .int .i64 x19.N, .string (bs x19.Name), .int .i64 x19.X.Op, .int .i64 x19.X.Type_, .int .i64 x19.X.N, .int .i64 x19.X.Slot, .string (bs x19.X.S), g20, g21, g22], nro g20 NC_api_TExpr_48 x19.X.Args, nro g21 NC_api_TStmt_50 x19.Body, nro g22 NC_api_TStmt_50 x19.Else, row v105 1 (([] : List Int).map (eInt .i64))] _
           refine any_all [2, 6] (by kernel_rfl) rfl ?_
           refine anyo_cons ?_ ?_
           ·
            refine any_t rfl (wn rfl) rfl (t_append (es := 1) 6 rfl Try.runUnderlying22 rfl Try.runUnderlying22 (.inr ⟨_, rfl⟩) Try.typeInfo3 rfl (by decide) Try.zeroValue3 rfl rfl rfl rfl (src_reads 1 rfl reads_ro (map_ok (eInt_ok _) _)) (map_room hr101 (by decide)) (map_fit hr101)) ?_
            rintro v119 _ rfl
            refine ⟨(ss (ss (ss (ss (ss (ss (sn))))))), ?_⟩
            refine any_turn (retell 6 (g := row v119 1 ((([] : List Int) ++ vars_5).map (eInt .i64))) rfl (congrArg (row _ _) List.map_append.symm)) ?_
            exact any_weak2 (hK114 v119) [0, 1, 2, 3, 4, 5, 6] (by kernel_rfl) (qv6 rfl rfl rfl rfl rfl rfl) (by decide) rfl
           refine anyo_cons ?_ ?_
           ·
            refine any_t rfl (wn rfl) rfl (t_lit [.int .i64 x19.X.Type_] Try.runUnderlying22 Try.sizeOf3 Try.zeroValue3 rfl (by decide) (by decide) rfl (by simp [Value.cells, boxP])) ?_
            rintro v120 _ ⟨rfl, _⟩
            refine ⟨(ss (ss (ss (ss (ss (ss (sn))))))), ?_⟩
            refine any_turn (retell 7 (g := row v120 1 (([x19.X.Type_] : List Int).map (eInt .i64))) rfl rfl) ?_
            exact any_weak2 (hK116 (v105, v120)) [0, 1, 2, 3, 4, 5, 6, 7] (by kernel_rfl) (qv7 rfl rfl rfl rfl rfl rfl rfl) (by decide) rfl
           exact anyo_nil
          refine any_cut2 #[false, true, false, true, true, true, true, false, false] 4 (Value) (fun σ => [(0, l_0v), (1, v7), (2, .int .i64 deep_2), (7, .int .i64 k_6), (156, v7), (161, σ)]) (fun σ => [nro l_0v NC_api_TStmt_50 l_0, ro v7 1 (vars_5.map (eInt .i64)), box b23 [.int .i64 x19.Kind, .int .i64 x19.Slot, .int .i64 x19.N, .string (bs x19.Name), .int .i64 x19.X.Op, .int .i64 x19.X.Type_, .int .i64 x19.X.N, .int .i64 x19.X.Slot, .string (bs x19.X.S), g20, g21, g22], nro g20 NC_api_TExpr_48 x19.X.Args, nro g21 NC_api_TStmt_50 x19.Body, nro g22 NC_api_TStmt_50 x19.Else, row σ 1 (([x19.X.Type_] : List Int).map (eInt .i64))]) ?_ (fun hK121 => ?_)
          ·rintro v106
           change AnyL _ _ _ _ _ (VF.of [(0, l_0v), (1, v7), (2, .int .i64 deep_2), (7, .int .i64 k_6), (156, v7), (161, v106)]) [nro l_0v NC_api_TStmt_50 l_0, ro v7 1 (vars_5.map (eInt .i64)), box b23 [.int .i64 x19.Kind, .int .i64 x19.Slot, .int .i64 x19.N, .string (bs x19.Name), .int .i64 x19.X.Op, .int .i64 x19.X.Type_, .int .i64 x19.X.N, .int .i64 x19.X.Slot, .string (bs x19.X.S), g20, g21, g22], nro g20 NC_api_TExpr_48 x19.X.Args, nro g21 NC_api_TStmt_50 x19.Body, nro g22 NC_api_TStmt_50 x19.Else, row v106 1 (([x19.X.Type_] : List Int).map (eInt .i64))] _
           refine any_all [0] (by kernel_rfl) rfl ?_
           refine anyo_cons ?_ ?_
           ·
            refine any_t rfl (wn rfl) rfl (t_lit [] Try.runUnderlying22 Try.sizeOf3 Try.zeroValue3 rfl (by decide) (by decide) rfl (by simp [Value.cells, boxP])) ?_
            rintro v122 _ ⟨rfl, _⟩
            refine ⟨(ss (ss (ss (ss (ss (ss (sn))))))), ?_⟩
            refine any_turn (retell 7 (g := row v122 1 (([] : List Int).map (eInt .i64))) rfl rfl) ?_
            exact any_weak2 (hK116 (v122, v106)) [0, 1, 2, 3, 4, 5, 7, 6] (by kernel_rfl) (qv7 rfl rfl rfl rfl rfl rfl rfl) (by decide) rfl
           exact anyo_nil
          refine any_all [0, 6] (by kernel_rfl) rfl ?_
          refine anyo_cons ?_ ?_
          ·
           refine any_t rfl (wn rfl) rfl (t_lit [] Try.runUnderlying22 Try.sizeOf3 Try.zeroValue3 rfl (by decide) (by decide) rfl (by simp [Value.cells, boxP])) ?_
           rintro v123 _ ⟨rfl, _⟩
           refine ⟨(ss (ss (ss (ss (ss (ss (sn))))))), ?_⟩
           refine any_turn (retell 6 (g := row v123 1 (([] : List Int).map (eInt .i64))) rfl rfl) ?_
           exact any_weak2 (hK118 v123) [0, 1, 2, 3, 4, 5, 6] (by kernel_rfl) (qv7 rfl rfl rfl rfl rfl rfl rfl) (by decide) rfl
          refine anyo_cons ?_ ?_
          ·
           refine any_t rfl (wn rfl) rfl (t_lit [.int .i64 x19.X.Type_] Try.runUnderlying22 Try.sizeOf3 Try.zeroValue3 rfl (by decide) (by decide) rfl (by simp [Value.cells, boxP])) ?_
           rintro v124 _ ⟨rfl, _⟩
           refine ⟨(ss (ss (ss (ss (ss (ss (sn))))))), ?_⟩
           refine any_turn (retell 6 (g := row v124 1 (([x19.X.Type_] : List Int).map (eInt .i64))) rfl rfl) ?_
           exact any_weak2 (hK121 v124) [0, 1, 2, 3, 4, 5, 6] (by kernel_rfl) (qv6 rfl rfl rfl rfl rfl rfl) (by decide) rfl
          exact anyo_nil
        ·replace h := cond_f h hc94
         refine run_seq ?_
         refine run_region' ?_
         refine oy rfl rfl (y_fieldAddr_box (sz := 0) Try.runUnderlying50 rfl Try.sizeOf3 rfl) ?_
         refine oy rfl rfl (y_load_box 2 Try.isAgg3 rfl rfl rfl) ?_
         refine oy rfl rfl (y_eql rfl rfl) ?_
         refine ops_nil ?_
         refine goes_code ?_
         refine run_cond (decide (x19.Kind = 2)) rfl (fun hc125 => ?_) (fun hc125 => ?_)
         ·replace h := cond_t h hc125
          refine run_seq ?_
          refine run_draw (by kernel_rfl) (by kernel_rfl) ?_
          refine sy rfl rfl (y_fieldAddr_box (sz := 0) Try.runUnderlying50 rfl Try.sizeOf3 rfl) ?_
          refine sy rfl rfl (y_load_box 2 Try.isAgg3 rfl rfl rfl) ?_
          refine sy rfl rfl (y_lss rfl rfl) ?_
          refine sy rfl rfl (y_move rfl) ?_
          refine still_cut 6 (Bool) (fun σ => [(0, l_0v), (1, v7), (2, .int .i64 deep_2), (7, .int .i64 k_6), (8, boxP b23 0), (175, .bool σ)]) (fun σ => [nro l_0v NC_api_TStmt_50 l_0, ro v7 1 (vars_5.map (eInt .i64)), box b23 [.int .i64 x19.Kind, .int .i64 x19.Slot, .int .i64 x19.N, .string (bs x19.Name), .int .i64 x19.X.Op, .int .i64 x19.X.Type_, .int .i64 x19.X.N, .int .i64 x19.X.Slot, .string (bs x19.X.S), g20, g21, g22], nro g20 NC_api_TExpr_48 x19.X.Args, nro g21 NC_api_TStmt_50 x19.Body, nro g22 NC_api_TStmt_50 x19.Else]) (fun σ => σ = (decide (x19.Slot < 0) || decide ((vars_5.length : Int) ≤ x19.Slot))) (fun L126 hL127 => ?_) ?_
          ·refine still_split 169 (decide (x19.Slot < 0)) rfl (fun hg128 => ?_) (fun hg128 => ?_)
           ·skip
            refine still_no 3 false 169 rfl rfl rfl rfl rfl ?_
            refine still_no 3 false 169 rfl rfl rfl rfl rfl ?_
            refine still_no 3 false 169 rfl rfl rfl rfl rfl ?_
            refine still_no 3 false 169 rfl rfl rfl rfl rfl ?_
            refine still_no 3 false 169 rfl rfl rfl rfl rfl ?_
            refine sy rfl rfl (y_pick (b := true) rfl rfl) ?_
            refine still_nil ?_
            exact goes_cut hL127 true [0, 1, 2, 3, 4, 5] (qv6 rfl rfl rfl rfl rfl rfl) (by decide) rfl (by rw [hg128]; simp)
           ·skip
            refine still_y (wg 3 false 169 rfl rfl rfl rfl) rfl (y_fieldAddr_box (sz := 0) Try.runUnderlying50 rfl Try.sizeOf3 rfl) ?_
            refine still_y (wg 3 false 169 rfl rfl rfl rfl) rfl (y_load_box 2 Try.isAgg3 rfl rfl rfl) ?_
            refine still_y (wg 3 false 169 rfl rfl rfl rfl) rfl (y_move rfl) ?_
            refine still_y (wg 3 false 169 rfl rfl rfl rfl) rfl ((y_len 1 rfl Try.runUnderlying22 rfl rfl reads_ro).to (v_len (eInt .i64) _)) ?_
            refine still_y (wg 3 false 169 rfl rfl rfl rfl) rfl (y_geq rfl rfl) ?_
            refine sy rfl rfl (y_pick (b := false) rfl rfl) ?_
            refine still_nil ?_
            exact goes_cut hL127 (decide ((vars_5.length : Int) ≤ x19.Slot)) [0, 1, 2, 3, 4, 5] (qv6 rfl rfl rfl rfl rfl rfl) (by decide) rfl (by rw [hg128]; simp)
          rintro _ rfl
          refine sy rfl rfl (y_move rfl) ?_
          obtain ⟨o130, h, ho131⟩ := bindJ_some h
          refine still_cut 10 (Bool) (fun σ => [(0, l_0v), (1, v7), (2, .int .i64 deep_2), (7, .int .i64 k_6), (186, .bool σ)]) (fun σ => [nro l_0v NC_api_TStmt_50 l_0, ro v7 1 (vars_5.map (eInt .i64)), box b23 [.int .i64 x19.Kind, .int .i64 x19.Slot, .int .i64 x19.N, .string (bs x19.Name), .int .i64 x19.X.Op, .int .i64 x19.X.Type_, .int .i64 x19.X.N, .int .i64 x19.X.Slot, .string (bs x19.X.S), g20, g21, g22], nro g20 NC_api_TExpr_48 x19.X.Args, nro g21 NC_api_TStmt_50 x19.Body, nro g22 NC_api_TStmt_50 x19.Else]) (fun σ => o130 = .go σ) (fun L132 hL133 => ?_) ?_
          ·refine still_split 176 (decide (x19.Slot < 0) || decide ((vars_5.length : Int) ≤ x19.Slot)) rfl (fun hg134 => ?_) (fun hg134 => ?_)
           ·replace h := cond_t h hg134
            refine still_no 10 false 176 rfl rfl rfl rfl rfl ?_
            refine still_no 10 false 176 rfl rfl rfl rfl rfl ?_
            refine still_no 10 false 176 rfl rfl rfl rfl rfl ?_
            refine still_no 10 false 176 rfl rfl rfl rfl rfl ?_
            refine still_no 10 false 176 rfl rfl rfl rfl rfl ?_
            refine still_no 10 false 176 rfl rfl rfl rfl rfl ?_
            refine still_no 10 false 176 rfl rfl rfl rfl rfl ?_
            refine still_no 10 false 176 rfl rfl rfl rfl rfl ?_
            refine still_no 10 false 176 rfl rfl rfl rfl rfl ?_
            refine sy rfl rfl (y_pick (b := true) rfl rfl) ?_
            refine still_nil ?_
            obtain rfl := some_eq h
            exact goes_cut hL133 true [0, 1, 2, 3, 4, 5] (qv5 rfl rfl rfl rfl rfl) (by decide) rfl rfl
           ·replace h := cond_f h hg134
            refine still_y (wg 10 false 176 rfl rfl rfl rfl) rfl (y_move rfl) ?_
            refine still_y (wg 10 false 176 rfl rfl rfl rfl) rfl (y_fieldAddr_box (sz := 0) Try.runUnderlying50 rfl Try.sizeOf3 rfl) ?_
            refine still_y (wg 10 false 176 rfl rfl rfl rfl) rfl (y_load_box 2 Try.isAgg3 rfl rfl rfl) ?_
            obtain ⟨x135, hzx135, hlx135, hxx135, h⟩ := idx_some h
            refine still_y (wg 10 false 176 rfl rfl rfl rfl) rfl (y_indexAddrI (kd := .i64) (i := x19.Slot) 1 Try.runUnderlying22 Try.sizeOf3 rfl rfl rfl reads_ro hzx135 (map_lt hlx135)) ?_
            refine still_y (wg 10 false 176 rfl rfl rfl rfl) rfl (y_load_elem (i := (x19.Slot).toNat) 1 Try.isAgg3 rfl rfl reads_ro (map_get hxx135)) ?_
            refine still_y (wg 10 false 176 rfl rfl rfl rfl) rfl (y_fieldAddr_box (sz := 5) Try.runUnderlying50 rfl Try.sizeOf48 rfl) ?_
            refine still_y (wg 10 false 176 rfl rfl rfl rfl) rfl (y_fieldAddr_box (sz := 0) Try.runUnderlying48 rfl Try.sizeOf3 rfl) ?_
            refine still_y (wg 10 false 176 rfl rfl rfl rfl) rfl (y_load_box 2 Try.isAgg3 rfl rfl rfl) ?_
            refine still_y (wg 10 false 176 rfl rfl rfl rfl) rfl (y_neq rfl rfl) ?_
            refine sy rfl rfl (y_pick (b := false) rfl rfl) ?_
            refine still_nil ?_
            obtain rfl := some_eq h
            exact goes_cut hL133 (decide (x135 ≠ x19.X.Type_)) [0, 1, 2, 3, 4, 5] (qv5 rfl rfl rfl rfl rfl) (by decide) rfl rfl
          rintro b129 hj
          obtain rfl : o130 = _ := hj
          replace h := after_go ho131
          clear ho131
          refine still_nil ?_
          refine goes_code ?_
          refine run_cond b129 rfl (fun hc136 => ?_) (fun hc136 => ?_)
          ·replace h := cond_t h hc136
           refine run_seq ?_
           refine run_region' ?_
           refine oy rfl rfl (y_assign rfl) ?_
           refine ops_nil ?_
           refine goes_code ?_
           refine run_ret ?_
           obtain rfl := some_eq h
           obtain rfl := after_stop ho16
           skip
           obtain rfl := hstop10 _ rfl
           skip
           obtain rfl := after_stop ho2
           refine fin_slots [6] [.bool false] [] [] Try.results17 rfl (by decide) rfl ?_
           exact ⟨rfl, rfl⟩
          ·replace h := cond_f h hc136
           refine run_skip ?_
           refine goes_blk ?_
           obtain rfl := some_eq h
           exact goes_cut hL17 (vars_5, v7) [1, 0] (qv4 rfl rfl rfl rfl) (by decide) rfl rfl
         ·replace h := cond_f h hc125
          refine run_seq ?_
          refine run_drawany [nro l_0v NC_api_TStmt_50 l_0, ro v7 1 (vars_5.map (eInt .i64)), box b23 [.int .i64 x19.Kind, .int .i64 x19.Slot, .int .i64 x19.N, .string (bs x19.Name), .int .i64 x19.X.Op, .int .i64 x19.X.Type_, .int .i64 x19.X.N, .int .i64 x19.X.Slot, .string (bs x19.X.S), g20, g21, g22], nro g20 NC_api_TExpr_48 x19.X.Args, nro g21 NC_api_TStmt_50 x19.Body, nro g22 NC_api_TStmt_50 x19.Else] (by kernel_rfl) ?_
          refine any_y 0 rfl (by kernel_rfl) (by kernel_rfl) (by kernel_rfl) (ss (ss (ss (ss (ss (ss (sn))))))) (wn rfl) rfl (y_fieldAddr_box (sz := 0) Try.runUnderlying50 rfl Try.sizeOf3 rfl) ?_
          refine any_y 1 rfl (by kernel_rfl) (by kernel_rfl) (by kernel_rfl) (ss (ss (ss (ss (ss (ss (sn))))))) (wn rfl) rfl (y_load_box 2 Try.isAgg3 rfl rfl rfl) ?_
          refine any_y 2 rfl (by kernel_rfl) (by kernel_rfl) (by kernel_rfl) (ss (ss (ss (ss (ss (ss (sn))))))) (wn rfl) rfl (y_neq rfl rfl) ?_
          refine any_y 3 rfl (by kernel_rfl) (by kernel_rfl) (by kernel_rfl) (ss (ss (ss (ss (ss (ss (sn))))))) (wn rfl) rfl (y_move rfl) ?_
          obtain ⟨o138, h, ho139⟩ := bindJ_some h
          refine any_cut #[true, true, true, true, true, true, true, true, true, true, true, true] 0 Bool (fun σ => [(0, l_0v), (1, v7), (2, .int .i64 deep_2), (7, .int .i64 k_6), (198, .bool σ)]) (fun σ => [nro l_0v NC_api_TStmt_50 l_0, ro v7 1 (vars_5.map (eInt .i64)), box b23 [.int .i64 x19.Kind, .int .i64 x19.Slot, .int .i64 x19.N, .string (bs x19.Name), .int .i64 x19.X.Op, .int .i64 x19.X.Type_, .int .i64 x19.X.N, .int .i64 x19.X.Slot, .string (bs x19.X.S), g20, g21, g22], nro g20 NC_api_TExpr_48 x19.X.Args, nro g21 NC_api_TStmt_50 x19.Body, nro g22 NC_api_TStmt_50 x19.Else]) (fun σ => o138 = .go σ) (fun hL141 => ?_) ?_
          ·refine any_split 190 (decide (x19.Kind ≠ 6)) rfl (fun hg142 => ?_) (fun hg142 => ?_)
           ·replace h := cond_t h hg142
            refine any_y 4 rfl (by kernel_rfl) (by kernel_rfl) (by kernel_rfl) (ss (ss (ss (ss (ss (ss (sn))))))) (wg 3 true 190 rfl rfl rfl rfl) rfl (y_fieldAddr_box (sz := 5) Try.runUnderlying50 rfl Try.sizeOf48 rfl) ?_
            refine any_y 5 rfl (by kernel_rfl) (by kernel_rfl) (by kernel_rfl) (ss (ss (ss (ss (ss (ss (sn))))))) (wg 3 true 190 rfl rfl rfl rfl) rfl (y_fieldAddr_box (sz := 0) Try.runUnderlying48 rfl Try.sizeOf3 rfl) ?_
            refine any_y 6 rfl (by kernel_rfl) (by kernel_rfl) (by kernel_rfl) (ss (ss (ss (ss (ss (ss (sn))))))) (wg 3 true 190 rfl rfl rfl rfl) rfl (y_load_box 2 Try.isAgg3 rfl rfl rfl) ?_
            refine any_y 7 rfl (by kernel_rfl) (by kernel_rfl) (by kernel_rfl) (ss (ss (ss (ss (ss (ss (sn))))))) (wg 3 true 190 rfl rfl rfl rfl) rfl (y_fieldAddr_box (sz := 0) Try.runUnderlying50 rfl Try.sizeOf3 rfl) ?_
            refine any_y 8 rfl (by kernel_rfl) (by kernel_rfl) (by kernel_rfl) (ss (ss (ss (ss (ss (ss (sn))))))) (wg 3 true 190 rfl rfl rfl rfl) rfl (y_load_box 2 Try.isAgg3 rfl rfl rfl) ?_
            refine any_all [9] (by kernel_rfl) rfl (anyo_cons ?_ anyo_nil)
            obtain ⟨r143, hr144, h⟩ := obind_some h
            refine any_t rfl (wg 3 true 190 rfl rfl rfl rfl) rfl (t_callx (vs := [.int .i64 x19.Kind]) (cs := []) [] rfl Try.call35 rfl (ref20_Wants_ok  x19.Kind  hr144) showsX_nil rfl (.inl rfl)) ?_
            rintro _ _ ⟨_, ⟨rfl, rfl⟩, rfl⟩
            refine ⟨(ss (ss (ss (ss (ss (ss (sn))))))), ?_⟩
            refine any_y 10 rfl (by kernel_rfl) (by kernel_rfl) (by kernel_rfl) (ss (ss (ss (ss (ss (ss (sn))))))) (wg 3 true 190 rfl rfl rfl rfl) rfl (y_neq rfl rfl) ?_
            refine any_y 11 rfl (by kernel_rfl) (by kernel_rfl) (by kernel_rfl) (ss (ss (ss (ss (ss (ss (sn))))))) (wn rfl) rfl (y_pick (b := true) rfl rfl) ?_
            obtain rfl := some_eq h
            exact any_weak [(0, l_0v), (1, v7), (2, .int .i64 deep_2), (7, .int .i64 k_6), (198, .bool (decide (x19.X.Type_ ≠ r143)))] [0, 1, 2, 3, 4, 5] [nro l_0v NC_api_TStmt_50 l_0, ro v7 1 (vars_5.map (eInt .i64)), box b23 [.int .i64 x19.Kind, .int .i64 x19.Slot, .int .i64 x19.N, .string (bs x19.Name), .int .i64 x19.X.Op, .int .i64 x19.X.Type_, .int .i64 x19.X.N, .int .i64 x19.X.Slot, .string (bs x19.X.S), g20, g21, g22], nro g20 NC_api_TExpr_48 x19.X.Args, nro g21 NC_api_TStmt_50 x19.Body, nro g22 NC_api_TStmt_50 x19.Else] (by kernel_rfl) (qv5 rfl rfl rfl rfl rfl) (by decide) rfl (hL141 (decide (x19.X.Type_ ≠ r143)) rfl)
           ·replace h := cond_f h hg142
            refine any_no 4 rfl (by kernel_rfl) (by kernel_rfl) (by kernel_rfl) (ss (ss (ss (ss (ss (ss (sn))))))) 3 true 190 rfl rfl rfl rfl rfl ?_
            refine any_no 5 rfl (by kernel_rfl) (by kernel_rfl) (by kernel_rfl) (ss (ss (ss (ss (ss (ss (sn))))))) 3 true 190 rfl rfl rfl rfl rfl ?_
            refine any_no 6 rfl (by kernel_rfl) (by kernel_rfl) (by kernel_rfl) (ss (ss (ss (ss (ss (ss (sn))))))) 3 true 190 rfl rfl rfl rfl rfl ?_
            refine any_no 7 rfl (by kernel_rfl) (by kernel_rfl) (by kernel_rfl) (ss (ss (ss (ss (ss (ss (sn))))))) 3 true 190 rfl rfl rfl rfl rfl ?_
            refine any_no 8 rfl (by kernel_rfl) (by kernel_rfl) (by kernel_rfl) (ss (ss (ss (ss (ss (ss (sn))))))) 3 true 190 rfl rfl rfl rfl rfl ?_
            refine any_no 9 rfl (by kernel_rfl) (by kernel_rfl) (by kernel_rfl) (ss (ss (ss (ss (ss (ss (sn))))))) 3 true 190 rfl rfl rfl rfl rfl ?_
            refine any_no 10 rfl (by kernel_rfl) (by kernel_rfl) (by kernel_rfl) (ss (ss (ss (ss (ss (ss (sn))))))) 3 true 190 rfl rfl rfl rfl rfl ?_
            refine any_y 11 rfl (by kernel_rfl) (by kernel_rfl) (by kernel_rfl) (ss (ss (ss (ss (ss (ss (sn))))))) (wn rfl) rfl (y_pick (b := false) rfl rfl) ?_
            obtain rfl := some_eq h
            exact any_weak [(0, l_0v), (1, v7), (2, .int .i64 deep_2), (7, .int .i64 k_6), (198, .bool false)] [0, 1, 2, 3, 4, 5] [nro l_0v NC_api_TStmt_50 l_0, ro v7 1 (vars_5.map (eInt .i64)), box b23 [.int .i64 x19.Kind, .int .i64 x19.Slot, .int .i64 x19.N, .string (bs x19.Name), .int .i64 x19.X.Op, .int .i64 x19.X.Type_, .int .i64 x19.X.N, .int .i64 x19.X.Slot, .string (bs x19.X.S), g20, g21, g22], nro g20 NC_api_TExpr_48 x19.X.Args, nro g21 NC_api_TStmt_50 x19.Body, nro g22 NC_api_TStmt_50 x19.Else] (by kernel_rfl) (qv5 rfl rfl rfl rfl rfl) (by decide) rfl (hL141 false rfl)
          rintro b137 hj
          obtain rfl : o138 = _ := hj
          replace h := after_go ho139
          clear ho139
          refine any_nil (by kernel_rfl) ?_
          refine goes_code ?_
          refine run_cond b137 rfl (fun hc145 => ?_) (fun hc145 => ?_)
          ·replace h := cond_t h hc145
           refine run_seq ?_
           refine run_region' ?_
           refine oy rfl rfl (y_assign rfl) ?_
           refine ops_nil ?_
           refine goes_code ?_
           refine run_ret ?_
           obtain rfl := some_eq h
           obtain rfl := after_stop ho16
           skip
           obtain rfl := hstop10 _ rfl
           skip
           obtain rfl := after_stop ho2
           refine fin_slots [6] [.bool false] [] [] Try.results17 rfl (by decide) rfl ?_
           exact ⟨rfl, rfl⟩
          ·replace h := cond_f h hc145
           refine run_skip ?_
           refine goes_blk ?_
           obtain rfl := some_eq h
           exact goes_cut hL17 (vars_5, v7) [1, 0] (qv4 rfl rfl rfl rfl) (by decide) rfl rfl
   rintro ⟨vars_13, v14⟩ hj
   obtain rfl : o15 = _ := hj
   replace h := after_go ho16
   clear ho16
   change Run _ _ _ (VF.of [(1, v14), (0, l_0v), (2, .int .i64 deep_2), (7, .int .i64 k_6)]) [ro v14 1 (vars_13.map (eInt .i64)), nro l_0v NC_api_TStmt_50 l_0]
   refine run_region' ?_
   refine oy rfl rfl (y_move rfl) ?_
   refine oy rfl rfl (y_add rfl rfl) ?_
   refine oy rfl rfl (y_assign rfl) ?_
   refine ops_nil ?_
   obtain rfl := some_eq h
   exact goes_iter hgo9 (vars_13, (IntKind.i64.wrap (k_6 + 1))) v14 [0, 1] rfl (qv4 rfl rfl rfl rfl) (by decide) rfl
  ·replace h := cond_f h hc12
   refine run_exit _ rfl ?_
   obtain rfl := some_eq h
   obtain rfl := hstop10 _ rfl
   exact goes_cut hL3 ((), ()) [] vnil (by decide) rfl rfl
 rintro ⟨_, _⟩ hj
 obtain rfl : o1 = _ := hj
 replace h := after_go ho2
 clear ho2
 change Run _ _ _ (VF.of []) []
 refine run_seq ?_
 refine run_region' ?_
 refine oy rfl rfl (y_assign rfl) ?_
 refine ops_nil ?_
 refine goes_code ?_
 refine run_ret ?_
 obtain rfl := some_eq h
 refine fin_slots [6] [.bool true] [] [] Try.results17 rfl (by decide) rfl ?_
 exact ⟨rfl, rfl⟩
def ref20_RightBlock : Nat → (List S_api_TStmt) → (List Int) → Int → Option (Bool)
 | 0 => fun _ _ _ => none
 | n + 1 => ref20_RightBlock_body n  (ref20_RightBlock n )
theorem ref20_RightBlock_ok (n : Nat)  : ∀ (l_0 : (List S_api_TStmt)) (vars_1 : (List Int)) (deep_2 : Int) (l_0v : Value) (vars_1v : Value) {r : Bool}, ref20_RightBlock n  l_0 vars_1 deep_2 = some r → Meets Try.prog 17 [l_0v, vars_1v, .int .i64 deep_2] [nro l_0v NC_api_TStmt_50 l_0, ro vars_1v 1 (vars_1.map (eInt .i64))] (fun v G => v = .bool r ∧ G = []) := by
 induction n with
 | zero => intro l_0 vars_1 deep_2 l_0v vars_1v r h; cases h
 | succ n ih => intro l_0 vars_1 deep_2 l_0v vars_1v r h; exact ref20_RightBlock_body_ok n   (ref20_RightBlock n ) (fun l_0 vars_1 deep_2 l_0v vars_1v r h => ih l_0 vars_1 deep_2 l_0v vars_1v h) l_0 vars_1 deep_2 l_0v vars_1v h

def ref20_Right_L1 (p_0 : S_api_Program) : (Int) → Option (Lp (Int) (Lp (Unit) (Bool))) :=
 fun k_6 =>
  cond (decide (k_6 < (p_0.Effects.length : Int)))
   (idx p_0.Effects k_6 fun x12 =>
   bindJ (S := Bool)
    (cond (decide (x12 < 1) || decide (6 < x12))
     (some (.go true))
     (bindJ (S := Bool)
      (cond (decide (0 < k_6))
       (idx p_0.Effects k_6 fun x28 =>
       idx p_0.Effects (IntKind.i64.wrap (k_6 - 1)) fun x29 =>
       some (.go (decide (x28 ≤ x29))))
       (some (.go false)))
     (fun b22 =>
      some (.go b22))))
   (fun b16 =>
    cond b16
     (some (.stop (.stop false)))
     (some (.go (IntKind.i64.wrap (k_6 + 1))))))
   (some (.stop (.go ())))
def ref20_Right (n : Nat) (p_0 : S_api_Program) : Option (Bool) :=
 bindJ (S := Unit)
  (iter (ref20_Right_L1 p_0) n 0)
 (fun _ =>
  obind (ref20_RightBlock n p_0.Code ([] : List Int) 1) fun r31 =>
  some r31)
theorem ref20_Right_ok (n : Nat) (p_0 : S_api_Program) (p_0_Effectsv : Value) (p_0_Codev : Value) {r : Bool} (h : ref20_Right n p_0 = some r) :
  Meets Try.prog 7 [.agg #[.string (bs p_0.Name), p_0_Effectsv, p_0_Codev]] [ro p_0_Effectsv 1 (p_0.Effects.map (eInt .i64)), nro p_0_Codev NC_api_TStmt_50 p_0.Code] (fun v G => v = .bool r ∧ G = []) := by
 refine fn_of_run Try.func7 rfl Try.ntmps7 rfl (fun w0 o0 => ?_)
 refine run_seq ?_
 refine run_region' ?_
 refine ot rfl rfl (t_box rfl) ?_
 rintro _ _ ⟨b1, rfl, rfl⟩
 refine oy rfl rfl (y_assign rfl) ?_
 refine ops_nil ?_
 refine goes_code ?_
 obtain ⟨o2, h, ho3⟩ := bindJ_some h
 refine run_cut ((Unit) × (Unit)) (fun σ => [(1, boxP b1 0)]) (fun σ => [box b1 [.string (bs p_0.Name), p_0_Effectsv, p_0_Codev], ro p_0_Effectsv 1 (p_0.Effects.map (eInt .i64)), nro p_0_Codev NC_api_TStmt_50 p_0.Code]) (fun σ => o2 = .go σ.1) (fun L5 hL4 => ?_) ?_
 ·
  refine run_seq ?_
  refine run_region' ?_
  refine oy rfl rfl (y_assign rfl) ?_
  refine ops_nil ?_
  refine goes_code ?_
  refine run_block ?_
  refine run_iter (step := ref20_Right_L1 p_0) (n := n) (s0 := 0) h (G := Unit) () (fun σ γ => [(3, .int .i64 σ), (1, boxP b1 0)]) (fun σ γ => [box b1 [.string (bs p_0.Name), p_0_Effectsv, p_0_Codev], ro p_0_Effectsv 1 (p_0.Effects.map (eInt .i64)), nro p_0_Codev NC_api_TStmt_50 p_0.Code]) [2, 0, 1] (qv2 rfl rfl) (by decide) rfl ?_
  rintro k_6 _ o7 h L10 hgo8 hstop9
  change Run _ _ _ (VF.of [(3, .int .i64 k_6), (1, boxP b1 0)]) [box b1 [.string (bs p_0.Name), p_0_Effectsv, p_0_Codev], ro p_0_Effectsv 1 (p_0.Effects.map (eInt .i64)), nro p_0_Codev NC_api_TStmt_50 p_0.Code]
  refine run_seq ?_
  refine run_seq ?_
  refine run_region' ?_
  refine oy rfl rfl (y_move rfl) ?_
  refine oy rfl rfl (y_fieldAddr_box (sz := 0) Try.runUnderlying25 rfl Try.sizeOf22 rfl) ?_
  refine oy rfl rfl (y_load_box 0 Try.isAgg22 rfl rfl rfl) ?_
  refine oy rfl rfl ((y_len 1 rfl Try.runUnderlying22 rfl rfl reads_ro).to (v_len (eInt .i64) _)) ?_
  refine oy rfl rfl (y_lss rfl rfl) ?_
  refine ops_nil ?_
  refine goes_code ?_
  refine run_cond (decide (k_6 < (p_0.Effects.length : Int))) rfl (fun hc11 => ?_) (fun hc11 => ?_)
  ·replace h := cond_t h hc11
   refine run_skip ?_
   refine goes_code ?_
   refine run_seq ?_
   refine run_block ?_
   refine run_seq ?_
   refine run_draw (by kernel_rfl) (by kernel_rfl) ?_
   refine sy rfl rfl (y_fieldAddr_box (sz := 0) Try.runUnderlying25 rfl Try.sizeOf22 rfl) ?_
   refine sy rfl rfl (y_load_box 0 Try.isAgg22 rfl rfl rfl) ?_
   refine sy rfl rfl (y_move rfl) ?_
   obtain ⟨x12, hzx12, hlx12, hxx12, h⟩ := idx_some h
   refine sy rfl rfl (y_indexAddrI (kd := .i64) (i := k_6) 1 Try.runUnderlying22 Try.sizeOf3 rfl rfl rfl reads_ro hzx12 (map_lt hlx12)) ?_
   refine sy rfl rfl (y_load_elem (i := k_6.toNat) 1 Try.isAgg3 rfl rfl reads_ro (map_get hxx12)) ?_
   refine sy rfl rfl (y_lss rfl rfl) ?_
   refine sy rfl rfl (y_move rfl) ?_
   refine still_cut 7 (Bool) (fun σ => [(3, .int .i64 k_6), (1, boxP b1 0), (24, .bool σ)]) (fun σ => [box b1 [.string (bs p_0.Name), p_0_Effectsv, p_0_Codev], ro p_0_Effectsv 1 (p_0.Effects.map (eInt .i64)), nro p_0_Codev NC_api_TStmt_50 p_0.Code]) (fun σ => σ = (decide (x12 < 1) || decide (6 < x12))) (fun L13 hL14 => ?_) ?_
   ·refine still_split 17 (decide (x12 < 1)) rfl (fun hg15 => ?_) (fun hg15 => ?_)
    ·skip
     refine still_no 6 false 17 rfl rfl rfl rfl rfl ?_
     refine still_no 6 false 17 rfl rfl rfl rfl rfl ?_
     refine still_no 6 false 17 rfl rfl rfl rfl rfl ?_
     refine still_no 6 false 17 rfl rfl rfl rfl rfl ?_
     refine still_no 6 false 17 rfl rfl rfl rfl rfl ?_
     refine still_no 6 false 17 rfl rfl rfl rfl rfl ?_
     refine sy rfl rfl (y_pick (b := true) rfl rfl) ?_
     refine still_nil ?_
     exact goes_cut hL14 true [0, 1, 2] (qv3 rfl rfl rfl) (by decide) rfl (by rw [hg15]; simp)
    ·skip
     refine still_y (wg 6 false 17 rfl rfl rfl rfl) rfl (y_fieldAddr_box (sz := 0) Try.runUnderlying25 rfl Try.sizeOf22 rfl) ?_
     refine still_y (wg 6 false 17 rfl rfl rfl rfl) rfl (y_load_box 0 Try.isAgg22 rfl rfl rfl) ?_
     refine still_y (wg 6 false 17 rfl rfl rfl rfl) rfl (y_move rfl) ?_
     refine still_y (wg 6 false 17 rfl rfl rfl rfl) rfl (y_indexAddrI (kd := .i64) (i := k_6) 1 Try.runUnderlying22 Try.sizeOf3 rfl rfl rfl reads_ro hzx12 (map_lt hlx12)) ?_
     refine still_y (wg 6 false 17 rfl rfl rfl rfl) rfl (y_load_elem (i := k_6.toNat) 1 Try.isAgg3 rfl rfl reads_ro (map_get hxx12)) ?_
     refine still_y (wg 6 false 17 rfl rfl rfl rfl) rfl (y_gtr rfl rfl) ?_
     refine sy rfl rfl (y_pick (b := false) rfl rfl) ?_
     refine still_nil ?_
     exact goes_cut hL14 (decide (6 < x12)) [0, 1, 2] (qv3 rfl rfl rfl) (by decide) rfl (by rw [hg15]; simp)
   rintro _ rfl
   refine sy rfl rfl (y_move rfl) ?_
   obtain ⟨o17, h, ho18⟩ := bindJ_some h
   refine still_cut 17 (Bool) (fun σ => [(3, .int .i64 k_6), (1, boxP b1 0), (42, .bool σ)]) (fun σ => [box b1 [.string (bs p_0.Name), p_0_Effectsv, p_0_Codev], ro p_0_Effectsv 1 (p_0.Effects.map (eInt .i64)), nro p_0_Codev NC_api_TStmt_50 p_0.Code]) (fun σ => o17 = .go σ) (fun L19 hL20 => ?_) ?_
   ·refine still_split 25 (decide (x12 < 1) || decide (6 < x12)) rfl (fun hg21 => ?_) (fun hg21 => ?_)
    ·replace h := cond_t h hg21
     refine still_no 14 false 25 rfl rfl rfl rfl rfl ?_
     refine still_no 14 false 25 rfl rfl rfl rfl rfl ?_
     refine still_no 14 false 25 rfl rfl rfl rfl rfl ?_
     refine still_un 17 true 28 rfl rfl rfl rfl rfl ?_
     refine still_un 17 true 28 rfl rfl rfl rfl rfl ?_
     refine still_un 17 true 28 rfl rfl rfl rfl rfl ?_
     refine still_un 17 true 28 rfl rfl rfl rfl rfl ?_
     refine still_un 17 true 28 rfl rfl rfl rfl rfl ?_
     refine still_un 17 true 28 rfl rfl rfl rfl rfl ?_
     refine still_un 17 true 28 rfl rfl rfl rfl rfl ?_
     refine still_un 17 true 28 rfl rfl rfl rfl rfl ?_
     refine still_un 17 true 28 rfl rfl rfl rfl rfl ?_
     refine still_un 17 true 28 rfl rfl rfl rfl rfl ?_
     refine still_un 17 true 28 rfl rfl rfl rfl rfl ?_
     refine still_un 17 true 28 rfl rfl rfl rfl rfl ?_
     refine still_no 14 false 25 rfl rfl rfl rfl rfl ?_
     refine sy rfl rfl (y_pick (b := true) rfl rfl) ?_
     refine still_nil ?_
     obtain rfl := some_eq h
     exact goes_cut hL20 true [0, 1, 2] (qv3 rfl rfl rfl) (by decide) rfl rfl
    ·replace h := cond_f h hg21
     refine still_y (wg 14 false 25 rfl rfl rfl rfl) rfl (y_move rfl) ?_
     refine still_y (wg 14 false 25 rfl rfl rfl rfl) rfl (y_gtr rfl rfl) ?_
     refine still_y (wg 14 false 25 rfl rfl rfl rfl) rfl (y_move rfl) ?_
     obtain ⟨o23, h, ho24⟩ := bindJ_some h
     refine still_cut 13 (Bool) (fun σ => [(3, .int .i64 k_6), (1, boxP b1 0), (25, .bool false), (41, .bool σ)]) (fun σ => [box b1 [.string (bs p_0.Name), p_0_Effectsv, p_0_Codev], ro p_0_Effectsv 1 (p_0.Effects.map (eInt .i64)), nro p_0_Codev NC_api_TStmt_50 p_0.Code]) (fun σ => o23 = .go σ) (fun L25 hL26 => ?_) ?_
     ·refine still_split 28 (decide (0 < k_6)) rfl (fun hg27 => ?_) (fun hg27 => ?_)
      ·replace h := cond_t h hg27
       refine still_y (wg 17 true 28 rfl rfl rfl rfl) rfl (y_fieldAddr_box (sz := 0) Try.runUnderlying25 rfl Try.sizeOf22 rfl) ?_
       refine still_y (wg 17 true 28 rfl rfl rfl rfl) rfl (y_load_box 0 Try.isAgg22 rfl rfl rfl) ?_
       refine still_y (wg 17 true 28 rfl rfl rfl rfl) rfl (y_move rfl) ?_
       obtain ⟨x28, hzx28, hlx28, hxx28, h⟩ := idx_some h
       refine still_y (wg 17 true 28 rfl rfl rfl rfl) rfl (y_indexAddrI (kd := .i64) (i := k_6) 1 Try.runUnderlying22 Try.sizeOf3 rfl rfl rfl reads_ro hzx28 (map_lt hlx28)) ?_
       refine still_y (wg 17 true 28 rfl rfl rfl rfl) rfl (y_load_elem (i := k_6.toNat) 1 Try.isAgg3 rfl rfl reads_ro (map_get hxx28)) ?_
       refine still_y (wg 17 true 28 rfl rfl rfl rfl) rfl (y_fieldAddr_box (sz := 0) Try.runUnderlying25 rfl Try.sizeOf22 rfl) ?_
       refine still_y (wg 17 true 28 rfl rfl rfl rfl) rfl (y_load_box 0 Try.isAgg22 rfl rfl rfl) ?_
       refine still_y (wg 17 true 28 rfl rfl rfl rfl) rfl (y_move rfl) ?_
       refine still_y (wg 17 true 28 rfl rfl rfl rfl) rfl (y_sub rfl rfl) ?_
       obtain ⟨x29, hzx29, hlx29, hxx29, h⟩ := idx_some h
       refine still_y (wg 17 true 28 rfl rfl rfl rfl) rfl (y_indexAddrI (kd := .i64) (i := (IntKind.i64.wrap (k_6 - 1))) 1 Try.runUnderlying22 Try.sizeOf3 rfl rfl rfl reads_ro hzx29 (map_lt hlx29)) ?_
       refine still_y (wg 17 true 28 rfl rfl rfl rfl) rfl (y_load_elem (i := ((IntKind.i64.wrap (k_6 - 1))).toNat) 1 Try.isAgg3 rfl rfl reads_ro (map_get hxx29)) ?_
       refine still_y (wg 17 true 28 rfl rfl rfl rfl) rfl (y_leq rfl rfl) ?_
       refine still_y (wg 14 false 25 rfl rfl rfl rfl) rfl (y_pick (b := true) rfl rfl) ?_
       refine still_nil ?_
       obtain rfl := some_eq h
       exact goes_cut hL26 (decide (x28 ≤ x29)) [0, 1, 2] (qv4 rfl rfl rfl rfl) (by decide) rfl rfl
      ·replace h := cond_f h hg27
       refine still_no 17 true 28 rfl rfl rfl rfl rfl ?_
       refine still_no 17 true 28 rfl rfl rfl rfl rfl ?_
       refine still_no 17 true 28 rfl rfl rfl rfl rfl ?_
       refine still_no 17 true 28 rfl rfl rfl rfl rfl ?_
       refine still_no 17 true 28 rfl rfl rfl rfl rfl ?_
       refine still_no 17 true 28 rfl rfl rfl rfl rfl ?_
       refine still_no 17 true 28 rfl rfl rfl rfl rfl ?_
       refine still_no 17 true 28 rfl rfl rfl rfl rfl ?_
       refine still_no 17 true 28 rfl rfl rfl rfl rfl ?_
       refine still_no 17 true 28 rfl rfl rfl rfl rfl ?_
       refine still_no 17 true 28 rfl rfl rfl rfl rfl ?_
       refine still_no 17 true 28 rfl rfl rfl rfl rfl ?_
       refine still_y (wg 14 false 25 rfl rfl rfl rfl) rfl (y_pick (b := false) rfl rfl) ?_
       refine still_nil ?_
       obtain rfl := some_eq h
       exact goes_cut hL26 false [0, 1, 2] (qv4 rfl rfl rfl rfl) (by decide) rfl rfl
     rintro b22 hj
     obtain rfl : o23 = _ := hj
     replace h := after_go ho24
     clear ho24
     refine sy rfl rfl (y_pick (b := false) rfl rfl) ?_
     refine still_nil ?_
     obtain rfl := some_eq h
     exact goes_cut hL20 b22 [0, 1, 2] (qv3 rfl rfl rfl) (by decide) rfl rfl
   rintro b16 hj
   obtain rfl : o17 = _ := hj
   replace h := after_go ho18
   clear ho18
   refine still_nil ?_
   refine goes_code ?_
   refine run_cond b16 rfl (fun hc30 => ?_) (fun hc30 => ?_)
   ·replace h := cond_t h hc30
    refine run_seq ?_
    refine run_region' ?_
    refine oy rfl rfl (y_assign rfl) ?_
    refine ops_nil ?_
    refine goes_code ?_
    refine run_ret ?_
    obtain rfl := some_eq h
    obtain rfl := hstop9 _ rfl
    skip
    obtain rfl := after_stop ho3
    refine fin_slots [2] [.bool false] [] [] Try.results7 rfl (by decide) rfl ?_
    exact ⟨rfl, rfl⟩
   ·replace h := cond_f h hc30
    refine run_skip ?_
    refine goes_blk ?_
    refine goes_code ?_
    refine run_region' ?_
    refine oy rfl rfl (y_move rfl) ?_
    refine oy rfl rfl (y_add rfl rfl) ?_
    refine oy rfl rfl (y_assign rfl) ?_
    refine ops_nil ?_
    obtain rfl := some_eq h
    exact goes_iter hgo8 (IntKind.i64.wrap (k_6 + 1)) () [0, 1, 2] rfl (qv2 rfl rfl) (by decide) rfl
  ·replace h := cond_f h hc11
   refine run_exit _ rfl ?_
   obtain rfl := some_eq h
   obtain rfl := hstop9 _ rfl
   exact goes_cut hL4 ((), ()) [0, 1, 2] (qv1 rfl) (by decide) rfl rfl
 rintro ⟨_, _⟩ hj
 obtain rfl : o2 = _ := hj
 replace h := after_go ho3
 clear ho3
 change Run _ _ _ (VF.of [(1, boxP b1 0)]) [box b1 [.string (bs p_0.Name), p_0_Effectsv, p_0_Codev], ro p_0_Effectsv 1 (p_0.Effects.map (eInt .i64)), nro p_0_Codev NC_api_TStmt_50 p_0.Code]
 refine run_seq ?_
 refine run_region' ?_
 refine oy rfl rfl (y_fieldAddr_box (sz := 0) Try.runUnderlying25 rfl Try.sizeOf23 rfl) ?_
 refine oy rfl rfl (y_load_box 0 Try.isAgg23 rfl rfl rfl) ?_
 refine ops_turn (nilro 1) ?_
 refine ops_turn (retell 3 (g := ro (.slice none 0 0) 1 (([] : List Int).map (eInt .i64))) rfl rfl) ?_
 obtain ⟨r31, hr32, h⟩ := obind_some h
 refine ot rfl rfl (t_callx (vs := [p_0_Codev, (.slice none 0 0), .int .i64 1]) (cs := []) [(2, 0), (3, 0)] rfl Try.call17 rfl (ref20_RightBlock_ok n  p_0.Code ([] : List Int) 1 p_0_Codev (.slice none 0 0) hr32) (showsX_view 2 rfl views_nro (showsX_view 3 rfl views_ro showsX_nil)) rfl (.inl rfl)) ?_
 rintro _ _ ⟨_, ⟨rfl, rfl⟩, rfl⟩
 refine oy rfl rfl (y_assign rfl) ?_
 refine ops_nil ?_
 refine goes_code ?_
 refine run_ret ?_
 obtain rfl := some_eq h
 refine fin_slots [2] [.bool r31] [] [] Try.results7 rfl (by decide) rfl ?_
 exact ⟨rfl, rfl⟩

end Go.Proofs.Ytgjdaamkfpbgpaa
