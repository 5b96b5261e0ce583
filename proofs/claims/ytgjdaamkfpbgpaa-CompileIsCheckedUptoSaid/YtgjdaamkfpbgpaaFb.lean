/-
  Functions of the program, lifted: part 2.
-/
import Derived.Test.YtgjdaamkfpbgpaaFa
namespace Go.Proofs.Ytgjdaamkfpbgpaa
open Go.Abs
set_option linter.unusedVariables false
set_option linter.unusedSimpArgs false
set_option maxRecDepth 20000
set_option maxHeartbeats 4000000

def weirgate_compile_maker_code_21_L1 (n : Nat) (l_1 : (List S_api_TStmt)) (rec_weirgate_compile_maker_code_21 : S_compile_maker → (List S_api_TStmt) → Int → Option (S_compile_maker)) : (Int × Int × (List S_api_Instr)) → Option (Lp (Int × Int × (List S_api_Instr)) S_compile_maker) :=
 fun (known_2, s_3, x_4) =>
  cond (decide (s_3 < (l_1.length : Int)))
   (bindJ (S := Int × (List S_api_Instr))
    (idx l_1 s_3 fun x18 =>
    obind (weirgate_compile_maker_put_41 (S_compile_maker.mk x_4) 30 0 []) fun r26 =>
    bindJ (S := (List S_api_Instr))
     (cond (decide (x18.Kind ≠ 6))
      (obind (weirgate_compile_maker_expr_42 n r26.2 x18.X) fun r36 =>
      some (.go r36.l_))
      (some (.go r26.2.l_)))
    (fun x_29 =>
     cond (decide (x18.Kind = 1))
      (obind (weirgate_compile_maker_store_36 (S_compile_maker.mk x_29) x18 known_2) fun r40 =>
      cond (decide (x18.Kind = 1))
       (some (.go ((IntKind.i64.wrap (known_2 + 1)), r40.l_)))
       (some (.go (known_2, r40.l_))))
      (cond (decide (x18.Kind = 2))
       (obind (weirgate_compile_maker_store_36 (S_compile_maker.mk x_29) x18 known_2) fun r45 =>
       cond (decide (x18.Kind = 1))
        (some (.go ((IntKind.i64.wrap (known_2 + 1)), r45.l_)))
        (some (.go (known_2, r45.l_))))
       (cond (decide (x18.Kind = 3))
        (obind (weirgate_compile_maker_header_37 (S_compile_maker.mk x_29) x18 known_2) fun r50 =>
        cond (decide (x18.Kind = 1))
         (some (.go ((IntKind.i64.wrap (known_2 + 1)), r50.l_)))
         (some (.go (known_2, r50.l_))))
        (cond (decide (x18.Kind = 4))
         (obind (weirgate_compile_maker_plain_38 (S_compile_maker.mk x_29) x18 known_2) fun r55 =>
         cond (decide (x18.Kind = 1))
          (some (.go ((IntKind.i64.wrap (known_2 + 1)), r55.l_)))
          (some (.go (known_2, r55.l_))))
         (cond (decide (x18.Kind = 5))
          (obind (weirgate_compile_maker_branch_39 rec_weirgate_compile_maker_code_21 (S_compile_maker.mk x_29) x18 known_2) fun r60 =>
          cond (decide (x18.Kind = 1))
           (some (.go ((IntKind.i64.wrap (known_2 + 1)), r60.l_)))
           (some (.go (known_2, r60.l_))))
          (cond (decide (x18.Kind = 6))
           (obind (weirgate_compile_maker_repeat_40 rec_weirgate_compile_maker_code_21 (S_compile_maker.mk x_29) x18 known_2) fun r65 =>
           cond (decide (x18.Kind = 1))
            (some (.go ((IntKind.i64.wrap (known_2 + 1)), r65.l_)))
            (some (.go (known_2, r65.l_))))
           (cond (decide (x18.Kind = 7))
            (obind (weirgate_compile_maker_plain_38 (S_compile_maker.mk x_29) x18 known_2) fun r70 =>
            cond (decide (x18.Kind = 1))
             (some (.go ((IntKind.i64.wrap (known_2 + 1)), r70.l_)))
             (some (.go (known_2, r70.l_))))
            (cond (decide (x18.Kind = 8))
             (obind (weirgate_compile_maker_plain_38 (S_compile_maker.mk x_29) x18 known_2) fun r75 =>
             cond (decide (x18.Kind = 1))
              (some (.go ((IntKind.i64.wrap (known_2 + 1)), r75.l_)))
              (some (.go (known_2, r75.l_))))
             (cond (decide (x18.Kind = 9))
              (obind (weirgate_compile_maker_plain_38 (S_compile_maker.mk x_29) x18 known_2) fun r80 =>
              cond (decide (x18.Kind = 1))
               (some (.go ((IntKind.i64.wrap (known_2 + 1)), r80.l_)))
               (some (.go (known_2, r80.l_))))
              (none)))))))))))
   (fun (known_11, x_12) =>
    some (.go (known_11, (IntKind.i64.wrap (s_3 + 1)), x_12))))
   (some (.stop (S_compile_maker.mk x_4)))
def weirgate_compile_maker_code_21_body (n : Nat) (rec_weirgate_compile_maker_code_21 : S_compile_maker → (List S_api_TStmt) → Int → Option (S_compile_maker)) (m_0 : S_compile_maker) (l_1 : (List S_api_TStmt)) (known_2 : Int) : Option (S_compile_maker) :=
 iter (weirgate_compile_maker_code_21_L1 n l_1 rec_weirgate_compile_maker_code_21) n (known_2, 0, m_0.l_)
theorem weirgate_compile_maker_code_21_body_ok (n : Nat) (rec_weirgate_compile_maker_code_21 : S_compile_maker → (List S_api_TStmt) → Int → Option (S_compile_maker)) (hrec_weirgate_compile_maker_code_21 : ∀ (m_0 : S_compile_maker) (l_1 : (List S_api_TStmt)) (known_2 : Int) (m_0b : Nat) (m_0_l_v : Value) (l_1v : Value) {r : S_compile_maker}, rec_weirgate_compile_maker_code_21 m_0 l_1 known_2 = some r → Meets Try.prog 21 [boxP m_0b 0, l_1v, .int .i64 known_2] [row m_0_l_v 3 (m_0.l_.map S_api_Instr.enc), box m_0b [m_0_l_v], nro l_1v NC_api_TStmt_50 l_1] (fun v G => ∃ v0, v = .tuple #[] ∧ G = [row v0 3 (r.l_.map S_api_Instr.enc), box m_0b [v0]])) (m_0 : S_compile_maker) (l_1 : (List S_api_TStmt)) (known_2 : Int) (m_0b : Nat) (m_0_l_v : Value) (l_1v : Value) {r : S_compile_maker} (h : weirgate_compile_maker_code_21_body n rec_weirgate_compile_maker_code_21 m_0 l_1 known_2 = some r) :
  Meets Try.prog 21 [boxP m_0b 0, l_1v, .int .i64 known_2] [row m_0_l_v 3 (m_0.l_.map S_api_Instr.enc), box m_0b [m_0_l_v], nro l_1v NC_api_TStmt_50 l_1] (fun v G => ∃ v0, v = .tuple #[] ∧ G = [row v0 3 (r.l_.map S_api_Instr.enc), box m_0b [v0]]) := by
 refine fn_of_run Try.func21 rfl Try.ntmps21 rfl (fun w0 o0 => ?_)
 refine run_seq ?_
 refine run_region' ?_
 refine ot rfl rfl (t_makeMap) ?_
 rintro _ _ ⟨b1, rfl, rfl⟩
 refine ops_turn (retell 3 (g := mapis b1 (mcells (fun n : Int => Value.int .i64 n) (fun v : Value => v) ([] : List (Int × Value)))) rfl rfl) ?_
 refine oy rfl rfl (y_move rfl) ?_
 refine oy rfl rfl (y_makeBound (vs := [boxP m_0b 0]) rfl) ?_
 refine ot rfl rfl (t_mapUpdate (κ := Int) (G := fun v : Value => v) (k := 1) (v := .func (.func 36) #[boxP m_0b 0] #[]) 3 (key_int .i64) Try.runUnderlying82 Try.runUnderlying3 rfl rfl rfl rfl true) ?_
 rintro _ _ ⟨rfl, rfl⟩
 refine ops_turn (retell 3 (g := mapis b1 (mcells (fun n : Int => Value.int .i64 n) (fun v : Value => v) ([(1, .func (.func 36) #[boxP m_0b 0] #[])] : List (Int × Value)))) rfl (by kernel_rfl)) ?_
 refine oy rfl rfl (y_move rfl) ?_
 refine oy rfl rfl (y_makeBound (vs := [boxP m_0b 0]) rfl) ?_
 refine ot rfl rfl (t_mapUpdate (κ := Int) (G := fun v : Value => v) (k := 2) (v := .func (.func 36) #[boxP m_0b 0] #[]) 3 (key_int .i64) Try.runUnderlying82 Try.runUnderlying3 rfl rfl rfl rfl true) ?_
 rintro _ _ ⟨rfl, rfl⟩
 refine ops_turn (retell 3 (g := mapis b1 (mcells (fun n : Int => Value.int .i64 n) (fun v : Value => v) ([(1, .func (.func 36) #[boxP m_0b 0] #[]), (2, .func (.func 36) #[boxP m_0b 0] #[])] : List (Int × Value)))) rfl (by kernel_rfl)) ?_
 refine oy rfl rfl (y_move rfl) ?_
 refine oy rfl rfl (y_makeBound (vs := [boxP m_0b 0]) rfl) ?_
 refine ot rfl rfl (t_mapUpdate (κ := Int) (G := fun v : Value => v) (k := 3) (v := .func (.func 37) #[boxP m_0b 0] #[]) 3 (key_int .i64) Try.runUnderlying82 Try.runUnderlying3 rfl rfl rfl rfl true) ?_
 rintro _ _ ⟨rfl, rfl⟩
 refine ops_turn (retell 3 (g := mapis b1 (mcells (fun n : Int => Value.int .i64 n) (fun v : Value => v) ([(1, .func (.func 36) #[boxP m_0b 0] #[]), (2, .func (.func 36) #[boxP m_0b 0] #[]), (3, .func (.func 37) #[boxP m_0b 0] #[])] : List (Int × Value)))) rfl (by kernel_rfl)) ?_
 refine oy rfl rfl (y_move rfl) ?_
 refine oy rfl rfl (y_makeBound (vs := [boxP m_0b 0]) rfl) ?_
 refine ot rfl rfl (t_mapUpdate (κ := Int) (G := fun v : Value => v) (k := 4) (v := .func (.func 38) #[boxP m_0b 0] #[]) 3 (key_int .i64) Try.runUnderlying82 Try.runUnderlying3 rfl rfl rfl rfl true) ?_
 rintro _ _ ⟨rfl, rfl⟩
 refine ops_turn (retell 3 (g := mapis b1 (mcells (fun n : Int => Value.int .i64 n) (fun v : Value => v) ([(1, .func (.func 36) #[boxP m_0b 0] #[]), (2, .func (.func 36) #[boxP m_0b 0] #[]), (3, .func (.func 37) #[boxP m_0b 0] #[]), (4, .func (.func 38) #[boxP m_0b 0] #[])] : List (Int × Value)))) rfl (by kernel_rfl)) ?_
 refine oy rfl rfl (y_move rfl) ?_
 refine oy rfl rfl (y_makeBound (vs := [boxP m_0b 0]) rfl) ?_
 refine ot rfl rfl (t_mapUpdate (κ := Int) (G := fun v : Value => v) (k := 5) (v := .func (.func 39) #[boxP m_0b 0] #[]) 3 (key_int .i64) Try.runUnderlying82 Try.runUnderlying3 rfl rfl rfl rfl true) ?_
 rintro _ _ ⟨rfl, rfl⟩
 refine ops_turn (retell 3 (g := mapis b1 (mcells (fun n : Int => Value.int .i64 n) (fun v : Value => v) ([(1, .func (.func 36) #[boxP m_0b 0] #[]), (2, .func (.func 36) #[boxP m_0b 0] #[]), (3, .func (.func 37) #[boxP m_0b 0] #[]), (4, .func (.func 38) #[boxP m_0b 0] #[]), (5, .func (.func 39) #[boxP m_0b 0] #[])] : List (Int × Value)))) rfl (by kernel_rfl)) ?_
 refine ops_weak [(0, boxP m_0b 0), (1, l_1v), (2, .int .i64 known_2), (9, .map (some b1))] [0, 1, 2, 3] [row m_0_l_v 3 (m_0.l_.map S_api_Instr.enc), box m_0b [m_0_l_v], nro l_1v NC_api_TStmt_50 l_1, mapis b1 (mcells (fun n : Int => Value.int .i64 n) (fun v : Value => v) ([(1, .func (.func 36) #[boxP m_0b 0] #[]), (2, .func (.func 36) #[boxP m_0b 0] #[]), (3, .func (.func 37) #[boxP m_0b 0] #[]), (4, .func (.func 38) #[boxP m_0b 0] #[]), (5, .func (.func 39) #[boxP m_0b 0] #[])] : List (Int × Value)))] (qv4 rfl rfl rfl rfl) (by decide) rfl ?_
 refine oy rfl rfl (y_move rfl) ?_
 refine oy rfl rfl (y_makeBound (vs := [boxP m_0b 0]) rfl) ?_
 refine ot rfl rfl (t_mapUpdate (κ := Int) (G := fun v : Value => v) (k := 6) (v := .func (.func 40) #[boxP m_0b 0] #[]) 3 (key_int .i64) Try.runUnderlying82 Try.runUnderlying3 rfl rfl rfl rfl true) ?_
 rintro _ _ ⟨rfl, rfl⟩
 refine ops_turn (retell 3 (g := mapis b1 (mcells (fun n : Int => Value.int .i64 n) (fun v : Value => v) ([(1, .func (.func 36) #[boxP m_0b 0] #[]), (2, .func (.func 36) #[boxP m_0b 0] #[]), (3, .func (.func 37) #[boxP m_0b 0] #[]), (4, .func (.func 38) #[boxP m_0b 0] #[]), (5, .func (.func 39) #[boxP m_0b 0] #[]), (6, .func (.func 40) #[boxP m_0b 0] #[])] : List (Int × Value)))) rfl (by kernel_rfl)) ?_
 refine oy rfl rfl (y_move rfl) ?_
 refine oy rfl rfl (y_makeBound (vs := [boxP m_0b 0]) rfl) ?_
 refine ot rfl rfl (t_mapUpdate (κ := Int) (G := fun v : Value => v) (k := 7) (v := .func (.func 38) #[boxP m_0b 0] #[]) 3 (key_int .i64) Try.runUnderlying82 Try.runUnderlying3 rfl rfl rfl rfl true) ?_
 rintro _ _ ⟨rfl, rfl⟩
 refine ops_turn (retell 3 (g := mapis b1 (mcells (fun n : Int => Value.int .i64 n) (fun v : Value => v) ([(1, .func (.func 36) #[boxP m_0b 0] #[]), (2, .func (.func 36) #[boxP m_0b 0] #[]), (3, .func (.func 37) #[boxP m_0b 0] #[]), (4, .func (.func 38) #[boxP m_0b 0] #[]), (5, .func (.func 39) #[boxP m_0b 0] #[]), (6, .func (.func 40) #[boxP m_0b 0] #[]), (7, .func (.func 38) #[boxP m_0b 0] #[])] : List (Int × Value)))) rfl (by kernel_rfl)) ?_
 refine oy rfl rfl (y_move rfl) ?_
 refine oy rfl rfl (y_makeBound (vs := [boxP m_0b 0]) rfl) ?_
 refine ot rfl rfl (t_mapUpdate (κ := Int) (G := fun v : Value => v) (k := 8) (v := .func (.func 38) #[boxP m_0b 0] #[]) 3 (key_int .i64) Try.runUnderlying82 Try.runUnderlying3 rfl rfl rfl rfl true) ?_
 rintro _ _ ⟨rfl, rfl⟩
 refine ops_turn (retell 3 (g := mapis b1 (mcells (fun n : Int => Value.int .i64 n) (fun v : Value => v) ([(1, .func (.func 36) #[boxP m_0b 0] #[]), (2, .func (.func 36) #[boxP m_0b 0] #[]), (3, .func (.func 37) #[boxP m_0b 0] #[]), (4, .func (.func 38) #[boxP m_0b 0] #[]), (5, .func (.func 39) #[boxP m_0b 0] #[]), (6, .func (.func 40) #[boxP m_0b 0] #[]), (7, .func (.func 38) #[boxP m_0b 0] #[]), (8, .func (.func 38) #[boxP m_0b 0] #[])] : List (Int × Value)))) rfl (by kernel_rfl)) ?_
 refine oy rfl rfl (y_move rfl) ?_
 refine oy rfl rfl (y_makeBound (vs := [boxP m_0b 0]) rfl) ?_
 refine ot rfl rfl (t_mapUpdate (κ := Int) (G := fun v : Value => v) (k := 9) (v := .func (.func 38) #[boxP m_0b 0] #[]) 3 (key_int .i64) Try.runUnderlying82 Try.runUnderlying3 rfl rfl rfl rfl true) ?_
 rintro _ _ ⟨rfl, rfl⟩
 refine ops_turn (retell 3 (g := mapis b1 (mcells (fun n : Int => Value.int .i64 n) (fun v : Value => v) ([(1, .func (.func 36) #[boxP m_0b 0] #[]), (2, .func (.func 36) #[boxP m_0b 0] #[]), (3, .func (.func 37) #[boxP m_0b 0] #[]), (4, .func (.func 38) #[boxP m_0b 0] #[]), (5, .func (.func 39) #[boxP m_0b 0] #[]), (6, .func (.func 40) #[boxP m_0b 0] #[]), (7, .func (.func 38) #[boxP m_0b 0] #[]), (8, .func (.func 38) #[boxP m_0b 0] #[]), (9, .func (.func 38) #[boxP m_0b 0] #[])] : List (Int × Value)))) rfl (by kernel_rfl)) ?_
 refine oy rfl rfl (y_move rfl) ?_
 refine oy rfl rfl (y_assign rfl) ?_
 refine ops_nil ?_
 refine goes_code ?_
 refine run_seq ?_
 refine run_weak [(0, boxP m_0b 0), (1, l_1v), (2, .int .i64 known_2), (6, .map (some b1))] [0, 1, 2, 3] [row m_0_l_v 3 (m_0.l_.map S_api_Instr.enc), box m_0b [m_0_l_v], nro l_1v NC_api_TStmt_50 l_1, mapis b1 (mcells (fun n : Int => Value.int .i64 n) (fun v : Value => v) ([(1, .func (.func 36) #[boxP m_0b 0] #[]), (2, .func (.func 36) #[boxP m_0b 0] #[]), (3, .func (.func 37) #[boxP m_0b 0] #[]), (4, .func (.func 38) #[boxP m_0b 0] #[]), (5, .func (.func 39) #[boxP m_0b 0] #[]), (6, .func (.func 40) #[boxP m_0b 0] #[]), (7, .func (.func 38) #[boxP m_0b 0] #[]), (8, .func (.func 38) #[boxP m_0b 0] #[]), (9, .func (.func 38) #[boxP m_0b 0] #[])] : List (Int × Value)))] (qv4 rfl rfl rfl rfl) (by decide) rfl ?_
 refine run_region' ?_
 refine oy rfl rfl (y_move rfl) ?_
 refine oy rfl rfl (y_lenN 2 rfl Try.runUnderlying23 rfl rfl readsN_ro) ?_
 refine oy rfl rfl (y_move rfl) ?_
 refine ops_nil ?_
 refine goes_code ?_
 refine run_block ?_
 refine run_iter (step := weirgate_compile_maker_code_21_L1 n l_1 rec_weirgate_compile_maker_code_21) (n := n) (s0 := (known_2, 0, m_0.l_)) h (G := Value) m_0_l_v (fun σ γ => [(2, .int .i64 σ.1), (31, .int .i64 σ.2.1), (0, boxP m_0b 0), (6, .map (some b1)), (29, l_1v), (30, .int .i64 (l_1.length : Int))]) (fun σ γ => [box m_0b [γ], row γ 3 (σ.2.2.map S_api_Instr.enc), mapis b1 (mcells (fun n : Int => Value.int .i64 n) (fun v : Value => v) ([(1, .func (.func 36) #[boxP m_0b 0] #[]), (2, .func (.func 36) #[boxP m_0b 0] #[]), (3, .func (.func 37) #[boxP m_0b 0] #[]), (4, .func (.func 38) #[boxP m_0b 0] #[]), (5, .func (.func 39) #[boxP m_0b 0] #[]), (6, .func (.func 40) #[boxP m_0b 0] #[]), (7, .func (.func 38) #[boxP m_0b 0] #[]), (8, .func (.func 38) #[boxP m_0b 0] #[]), (9, .func (.func 38) #[boxP m_0b 0] #[])] : List (Int × Value))), nro l_1v NC_api_TStmt_50 l_1]) [1, 0, 3, 2] (qv6 rfl rfl rfl rfl rfl rfl) (by decide) rfl ?_
 rintro ⟨known_2, s_3, x_4⟩ v5 o6 h L9 hgo7 hstop8
 change Run _ _ _ (VF.of [(2, .int .i64 known_2), (31, .int .i64 s_3), (0, boxP m_0b 0), (6, .map (some b1)), (29, l_1v), (30, .int .i64 (l_1.length : Int))]) [box m_0b [v5], row v5 3 (x_4.map S_api_Instr.enc), mapis b1 (mcells (fun n : Int => Value.int .i64 n) (fun v : Value => v) ([(1, .func (.func 36) #[boxP m_0b 0] #[]), (2, .func (.func 36) #[boxP m_0b 0] #[]), (3, .func (.func 37) #[boxP m_0b 0] #[]), (4, .func (.func 38) #[boxP m_0b 0] #[]), (5, .func (.func 39) #[boxP m_0b 0] #[]), (6, .func (.func 40) #[boxP m_0b 0] #[]), (7, .func (.func 38) #[boxP m_0b 0] #[]), (8, .func (.func 38) #[boxP m_0b 0] #[]), (9, .func (.func 38) #[boxP m_0b 0] #[])] : List (Int × Value))), nro l_1v NC_api_TStmt_50 l_1]
 refine run_seq ?_
 refine run_region' ?_
 refine oy rfl rfl (y_lss rfl rfl) ?_
 refine ops_nil ?_
 refine goes_code ?_
 refine run_seq ?_
 refine run_cond (decide (s_3 < (l_1.length : Int))) rfl (fun hc10 => ?_) (fun hc10 => ?_)
 ·replace h := cond_t h hc10
  refine run_skip ?_
  refine goes_code ?_
  obtain ⟨o14, h, ho15⟩ := bindJ_some h
  refine run_cut ((Int × (List S_api_Instr)) × (Value)) (fun σ => [(2, .int .i64 σ.1.1), (0, boxP m_0b 0), (6, .map (some b1)), (29, l_1v), (30, .int .i64 (l_1.length : Int)), (31, .int .i64 s_3)]) (fun σ => [box m_0b [σ.2], row σ.2 3 (σ.1.2.map S_api_Instr.enc), mapis b1 (mcells (fun n : Int => Value.int .i64 n) (fun v : Value => v) ([(1, .func (.func 36) #[boxP m_0b 0] #[]), (2, .func (.func 36) #[boxP m_0b 0] #[]), (3, .func (.func 37) #[boxP m_0b 0] #[]), (4, .func (.func 38) #[boxP m_0b 0] #[]), (5, .func (.func 39) #[boxP m_0b 0] #[]), (6, .func (.func 40) #[boxP m_0b 0] #[]), (7, .func (.func 38) #[boxP m_0b 0] #[]), (8, .func (.func 38) #[boxP m_0b 0] #[]), (9, .func (.func 38) #[boxP m_0b 0] #[])] : List (Int × Value))), nro l_1v NC_api_TStmt_50 l_1]) (fun σ => o14 = .go σ.1) (fun L17 hL16 => ?_) ?_
  ·
   refine run_block ?_
   refine run_seq ?_
   refine run_region' ?_
   obtain ⟨x18, hzx18, hlx18, hxx18, h⟩ := idx_some h
   refine oy rfl rfl (y_indexAddrN (kd := .i64) (i := s_3) 3 Try.runUnderlying23 Try.sizeOf50 rfl rfl rfl readsN_ro hzx18 hlx18) ?_
   refine ops_ex (exAtT (T := T_api_TStmt_50) (i := s_3.toNat) 3 rfl hxx18) ?_
   rintro ⟨g19, g20, g21⟩
   refine oy rfl rfl (y_load_atagg (n := s_3.toNat * 12) (j := 0) (c := [.int .i64 x18.Kind, .int .i64 x18.Slot, .int .i64 x18.N, .string (bs x18.Name), .int .i64 x18.X.Op, .int .i64 x18.X.Type_, .int .i64 x18.X.N, .int .i64 x18.X.Slot, .string (bs x18.X.S), g19, g20, g21]) 4 Try.isAgg50 Try.sizeOf50 rfl rfl rfl) ?_
   refine ot rfl rfl (t_alloc Try.zeroValue50) ?_
   rintro _ _ ⟨b22, rfl, rfl⟩
   refine ops_slcN 5 rfl readsN_ro (fun hs23 hs23o => ?_)
   refine ops_slcN 6 rfl readsN_ro (fun hs24 hs24o => ?_)
   refine ops_slcN 7 rfl readsN_ro (fun hs25 hs25o => ?_)
   refine ot rfl rfl (t_store 8 Try.sizeOf50 rfl rfl rfl rfl (by simp [Value.cells, boxP]) (allL_cons rfl (allL_cons rfl (allL_cons rfl (allL_cons rfl (allL_cons rfl (allL_cons rfl (allL_cons rfl (allL_cons rfl (allL_cons rfl (allL_cons hs23o (allL_cons hs24o (allL_cons hs25o (allL_nil)))))))))))))) ?_
   rintro _ _ ⟨rfl, rfl⟩
   refine ops_turn (retell 8 (g := box b22 [.int .i64 x18.Kind, .int .i64 x18.Slot, .int .i64 x18.N, .string (bs x18.Name), .int .i64 x18.X.Op, .int .i64 x18.X.Type_, .int .i64 x18.X.N, .int .i64 x18.X.Slot, .string (bs x18.X.S), g19, g20, g21]) rfl (by kernel_rfl)) ?_
   refine ops_nil ?_
   refine goes_code ?_
   refine run_seq ?_
   refine run_region' ?_
   refine oy rfl rfl (y_move rfl) ?_
   obtain ⟨r26, hr27, h⟩ := obind_some h
   refine ot rfl rfl (t_callx (vs := [boxP m_0b 0, .int .i64 30, .int .i64 0, .string (bs [])]) (cs := []) [(1, 2), (0, 2)] rfl Try.call41 rfl (weirgate_compile_maker_put_41_ok  (S_compile_maker.mk x_4) 30 0 [] m_0b v5 hr27) (showsX_lend 1 rfl (showsX_lend 0 rfl showsX_nil)) rfl (.inl rfl)) ?_
   rintro _ _ ⟨_, ⟨v28, rfl, rfl⟩, rfl⟩
   refine ops_nil ?_
   refine goes_code ?_
   obtain ⟨o31, h, ho32⟩ := bindJ_some h
   refine run_cut (((List S_api_Instr)) × (Value)) (fun σ => [(0, boxP m_0b 0), (2, .int .i64 known_2), (6, .map (some b1)), (8, boxP b22 0), (29, l_1v), (30, .int .i64 (l_1.length : Int)), (31, .int .i64 s_3)]) (fun σ => [box m_0b [σ.2], row σ.2 3 (σ.1.map S_api_Instr.enc), mapis b1 (mcells (fun n : Int => Value.int .i64 n) (fun v : Value => v) ([(1, .func (.func 36) #[boxP m_0b 0] #[]), (2, .func (.func 36) #[boxP m_0b 0] #[]), (3, .func (.func 37) #[boxP m_0b 0] #[]), (4, .func (.func 38) #[boxP m_0b 0] #[]), (5, .func (.func 39) #[boxP m_0b 0] #[]), (6, .func (.func 40) #[boxP m_0b 0] #[]), (7, .func (.func 38) #[boxP m_0b 0] #[]), (8, .func (.func 38) #[boxP m_0b 0] #[]), (9, .func (.func 38) #[boxP m_0b 0] #[])] : List (Int × Value))), box b22 [.int .i64 x18.Kind, .int .i64 x18.Slot, .int .i64 x18.N, .string (bs x18.Name), .int .i64 x18.X.Op, .int .i64 x18.X.Type_, .int .i64 x18.X.N, .int .i64 x18.X.Slot, .string (bs x18.X.S), g19, g20, g21], nro g19 NC_api_TExpr_48 x18.X.Args, nro g20 NC_api_TStmt_50 x18.Body, nro g21 NC_api_TStmt_50 x18.Else, nro l_1v NC_api_TStmt_50 l_1]) (fun σ => o31 = .go σ.1) (fun L34 hL33 => ?_) ?_
   ·
    refine run_seq ?_
    refine run_region' ?_
    refine oy rfl rfl (y_fieldAddr_box (sz := 0) Try.runUnderlying50 rfl Try.sizeOf3 rfl) ?_
    refine oy rfl rfl (y_load_box 8 Try.isAgg3 rfl rfl rfl) ?_
    refine oy rfl rfl (y_neq rfl rfl) ?_
    refine ops_nil ?_
    refine goes_code ?_
    refine run_cond (decide (x18.Kind ≠ 6)) rfl (fun hc35 => ?_) (fun hc35 => ?_)
    ·replace h := cond_t h hc35
     refine run_weak [(2, .int .i64 known_2), (31, .int .i64 s_3), (0, boxP m_0b 0), (6, .map (some b1)), (29, l_1v), (30, .int .i64 (l_1.length : Int)), (8, boxP b22 0)] [2, 3, 5, 6, 7, 8, 9, 10] [mapis b1 (mcells (fun n : Int => Value.int .i64 n) (fun v : Value => v) ([(1, .func (.func 36) #[boxP m_0b 0] #[]), (2, .func (.func 36) #[boxP m_0b 0] #[]), (3, .func (.func 37) #[boxP m_0b 0] #[]), (4, .func (.func 38) #[boxP m_0b 0] #[]), (5, .func (.func 39) #[boxP m_0b 0] #[]), (6, .func (.func 40) #[boxP m_0b 0] #[]), (7, .func (.func 38) #[boxP m_0b 0] #[]), (8, .func (.func 38) #[boxP m_0b 0] #[]), (9, .func (.func 38) #[boxP m_0b 0] #[])] : List (Int × Value))), nro l_1v NC_api_TStmt_50 l_1, nro g19 NC_api_TExpr_48 x18.X.Args, nro g20 NC_api_TStmt_50 x18.Body, nro g21 NC_api_TStmt_50 x18.Else, box b22 [.int .i64 x18.Kind, .int .i64 x18.Slot, .int .i64 x18.N, .string (bs x18.Name), .int .i64 x18.X.Op, .int .i64 x18.X.Type_, .int .i64 x18.X.N, .int .i64 x18.X.Slot, .string (bs x18.X.S), g19, g20, g21], row v28 3 (r26.2.l_.map S_api_Instr.enc), box m_0b [v28]] (qv7 rfl rfl rfl rfl rfl rfl rfl) (by decide) rfl ?_
     refine run_region' ?_
     refine oy rfl rfl (y_move rfl) ?_
     refine oy rfl rfl (y_fieldAddr_box (sz := 5) Try.runUnderlying50 rfl Try.sizeOf48 rfl) ?_
     refine oy rfl rfl (y_load_boxagg (c := [.int .i64 x18.X.Op, .int .i64 x18.X.Type_, .int .i64 x18.X.N, .int .i64 x18.X.Slot, .string (bs x18.X.S), g19]) 5 Try.isAgg48 Try.sizeOf48 rfl rfl rfl) ?_
     obtain ⟨r36, hr37, h⟩ := obind_some h
     refine ot rfl rfl (t_callx (vs := [boxP m_0b 0, .agg #[.int .i64 x18.X.Op, .int .i64 x18.X.Type_, .int .i64 x18.X.N, .int .i64 x18.X.Slot, .string (bs x18.X.S), g19]]) (cs := []) [(6, 2), (7, 2), (2, 0)] rfl Try.call42 rfl (weirgate_compile_maker_expr_42_ok n  r26.2 x18.X m_0b v28 g19 hr37) (showsX_lend 6 rfl (showsX_lend 7 rfl (showsX_view 2 rfl views_nro showsX_nil))) rfl (.inl rfl)) ?_
     rintro _ _ ⟨_, ⟨v38, rfl, rfl⟩, rfl⟩
     refine ops_nil ?_
     obtain rfl := some_eq h
     exact goes_cut hL33 (r36.l_, v38) [9, 8, 0, 5, 2, 3, 4, 1] (qv7 rfl rfl rfl rfl rfl rfl rfl) (by decide) rfl rfl
    ·replace h := cond_f h hc35
     refine run_skip ?_
     obtain rfl := some_eq h
     exact goes_cut hL33 (r26.2.l_, v28) [10, 9, 2, 8, 5, 6, 7, 3] (qv7 rfl rfl rfl rfl rfl rfl rfl) (by decide) rfl rfl
   rintro ⟨x_29, v30⟩ hj
   obtain rfl : o31 = _ := hj
   replace h := after_go ho32
   clear ho32
   change Run _ _ _ (VF.of [(0, boxP m_0b 0), (2, .int .i64 known_2), (6, .map (some b1)), (8, boxP b22 0), (29, l_1v), (30, .int .i64 (l_1.length : Int)), (31, .int .i64 s_3)]) [box m_0b [v30], row v30 3 (x_29.map S_api_Instr.enc), mapis b1 (mcells (fun n : Int => Value.int .i64 n) (fun v : Value => v) ([(1, .func (.func 36) #[boxP m_0b 0] #[]), (2, .func (.func 36) #[boxP m_0b 0] #[]), (3, .func (.func 37) #[boxP m_0b 0] #[]), (4, .func (.func 38) #[boxP m_0b 0] #[]), (5, .func (.func 39) #[boxP m_0b 0] #[]), (6, .func (.func 40) #[boxP m_0b 0] #[]), (7, .func (.func 38) #[boxP m_0b 0] #[]), (8, .func (.func 38) #[boxP m_0b 0] #[]), (9, .func (.func 38) #[boxP m_0b 0] #[])] : List (Int × Value))), box b22 [.int .i64 x18.Kind, .int .i64 x18.Slot, .int .i64 x18.N, .string (bs x18.Name), .int .i64 x18.X.Op, .int .i64 x18.X.Type_, .int .i64 x18.X.N, .int .i64 x18.X.Slot, .string (bs x18.X.S), g19, g20, g21], nro g19 NC_api_TExpr_48 x18.X.Args, nro g20 NC_api_TStmt_50 x18.Body, nro g21 NC_api_TStmt_50 x18.Else, nro l_1v NC_api_TStmt_50 l_1]
   refine run_seq ?_
   refine run_region' ?_
   refine oy rfl rfl (y_move rfl) ?_
   refine oy rfl rfl (y_fieldAddr_box (sz := 0) Try.runUnderlying50 rfl Try.sizeOf3 rfl) ?_
   refine oy rfl rfl (y_load_box 3 Try.isAgg3 rfl rfl rfl) ?_
   rcases cond2 h with ⟨he39, h⟩ | ⟨he39, h⟩
   ·skip
    refine oy rfl rfl ((y_lookup (κ := Int) (G := fun v : Value => v) (k := x18.Kind) (d0 := .nilFunc) 2 (key_int .i64) Try.runUnderlying82 Try.runUnderlying3 Try.zeroValue81 rfl rfl rfl).to (v' := .func (.func 36) #[boxP m_0b 0] #[]) (mget_at he39 (by kernel_rfl))) ?_
    refine ops_weak [(0, boxP m_0b 0), (2, .int .i64 known_2), (6, .map (some b1)), (8, boxP b22 0), (29, l_1v), (30, .int .i64 (l_1.length : Int)), (31, .int .i64 s_3), (47, .func (.func 36) #[boxP m_0b 0] #[])] [0, 1, 2, 3, 4, 5, 6, 7] [box m_0b [v30], row v30 3 (x_29.map S_api_Instr.enc), mapis b1 (mcells (fun n : Int => Value.int .i64 n) (fun v : Value => v) ([(1, .func (.func 36) #[boxP m_0b 0] #[]), (2, .func (.func 36) #[boxP m_0b 0] #[]), (3, .func (.func 37) #[boxP m_0b 0] #[]), (4, .func (.func 38) #[boxP m_0b 0] #[]), (5, .func (.func 39) #[boxP m_0b 0] #[]), (6, .func (.func 40) #[boxP m_0b 0] #[]), (7, .func (.func 38) #[boxP m_0b 0] #[]), (8, .func (.func 38) #[boxP m_0b 0] #[]), (9, .func (.func 38) #[boxP m_0b 0] #[])] : List (Int × Value))), box b22 [.int .i64 x18.Kind, .int .i64 x18.Slot, .int .i64 x18.N, .string (bs x18.Name), .int .i64 x18.X.Op, .int .i64 x18.X.Type_, .int .i64 x18.X.N, .int .i64 x18.X.Slot, .string (bs x18.X.S), g19, g20, g21], nro g19 NC_api_TExpr_48 x18.X.Args, nro g20 NC_api_TStmt_50 x18.Body, nro g21 NC_api_TStmt_50 x18.Else, nro l_1v NC_api_TStmt_50 l_1] (qv8 rfl rfl rfl rfl rfl rfl rfl rfl) (by decide) rfl ?_
    refine oy rfl rfl (y_load_boxagg (c := [.int .i64 x18.Kind, .int .i64 x18.Slot, .int .i64 x18.N, .string (bs x18.Name), .int .i64 x18.X.Op, .int .i64 x18.X.Type_, .int .i64 x18.X.N, .int .i64 x18.X.Slot, .string (bs x18.X.S), g19, g20, g21]) 3 Try.isAgg50 Try.sizeOf50 rfl rfl rfl) ?_
    refine oy rfl rfl (y_move rfl) ?_
    obtain ⟨r40, hr41, h⟩ := obind_some h
    refine ot rfl rfl (t_callxb (bs := [boxP m_0b 0]) (vs := [.agg #[.int .i64 x18.Kind, .int .i64 x18.Slot, .int .i64 x18.N, .string (bs x18.Name), .int .i64 x18.X.Op, .int .i64 x18.X.Type_, .int .i64 x18.X.N, .int .i64 x18.X.Slot, .string (bs x18.X.S), g19, g20, g21], .int .i64 known_2]) (cs := []) [(1, 2), (0, 2), (4, 0), (5, 0), (6, 0)] rfl Try.call36 rfl (weirgate_compile_maker_store_36_ok  (S_compile_maker.mk x_29) x18 known_2 m_0b v30 g19 g20 g21 hr41) (showsX_lend 1 rfl (showsX_lend 0 rfl (showsX_view 4 rfl views_nro (showsX_view 5 rfl views_nro (showsX_view 6 rfl views_nro showsX_nil))))) rfl (.inl rfl)) ?_
    rintro _ _ ⟨_, ⟨v42, rfl, rfl⟩, rfl⟩
    refine ops_nil ?_
    refine goes_code ?_
    refine run_seq ?_
    refine run_region' ?_
    refine oy rfl rfl (y_fieldAddr_box (sz := 0) Try.runUnderlying50 rfl Try.sizeOf3 rfl) ?_
    refine oy rfl rfl (y_load_box 3 Try.isAgg3 rfl rfl rfl) ?_
    refine oy rfl rfl (y_eql rfl rfl) ?_
    refine ops_nil ?_
    refine goes_code ?_
    refine run_cond (decide (x18.Kind = 1)) rfl (fun hc43 => ?_) (fun hc43 => ?_)
    ·replace h := cond_t h hc43
     refine run_region' ?_
     refine oy rfl rfl (y_move rfl) ?_
     refine oy rfl rfl (y_add rfl rfl) ?_
     refine oy rfl rfl (y_assign rfl) ?_
     refine ops_nil ?_
     refine goes_blk ?_
     obtain rfl := some_eq h
     exact goes_cut hL16 (((IntKind.i64.wrap (known_2 + 1)), r40.l_), v42) [9, 8, 2, 7] (qv6 rfl rfl rfl rfl rfl rfl) (by decide) rfl rfl
    ·replace h := cond_f h hc43
     refine run_skip ?_
     refine goes_blk ?_
     obtain rfl := some_eq h
     exact goes_cut hL16 ((known_2, r40.l_), v42) [9, 8, 2, 7] (qv6 rfl rfl rfl rfl rfl rfl) (by decide) rfl rfl
   rcases cond2 h with ⟨he44, h⟩ | ⟨he44, h⟩
   ·skip
    refine oy rfl rfl ((y_lookup (κ := Int) (G := fun v : Value => v) (k := x18.Kind) (d0 := .nilFunc) 2 (key_int .i64) Try.runUnderlying82 Try.runUnderlying3 Try.zeroValue81 rfl rfl rfl).to (v' := .func (.func 36) #[boxP m_0b 0] #[]) (mget_at he44 (by kernel_rfl))) ?_
    refine ops_weak [(0, boxP m_0b 0), (2, .int .i64 known_2), (6, .map (some b1)), (8, boxP b22 0), (29, l_1v), (30, .int .i64 (l_1.length : Int)), (31, .int .i64 s_3), (47, .func (.func 36) #[boxP m_0b 0] #[])] [0, 1, 2, 3, 4, 5, 6, 7] [box m_0b [v30], row v30 3 (x_29.map S_api_Instr.enc), mapis b1 (mcells (fun n : Int => Value.int .i64 n) (fun v : Value => v) ([(1, .func (.func 36) #[boxP m_0b 0] #[]), (2, .func (.func 36) #[boxP m_0b 0] #[]), (3, .func (.func 37) #[boxP m_0b 0] #[]), (4, .func (.func 38) #[boxP m_0b 0] #[]), (5, .func (.func 39) #[boxP m_0b 0] #[]), (6, .func (.func 40) #[boxP m_0b 0] #[]), (7, .func (.func 38) #[boxP m_0b 0] #[]), (8, .func (.func 38) #[boxP m_0b 0] #[]), (9, .func (.func 38) #[boxP m_0b 0] #[])] : List (Int × Value))), box b22 [.int .i64 x18.Kind, .int .i64 x18.Slot, .int .i64 x18.N, .string (bs x18.Name), .int .i64 x18.X.Op, .int .i64 x18.X.Type_, .int .i64 x18.X.N, .int .i64 x18.X.Slot, .string (bs x18.X.S), g19, g20, g21], nro g19 NC_api_TExpr_48 x18.X.Args, nro g20 NC_api_TStmt_50 x18.Body, nro g21 NC_api_TStmt_50 x18.Else, nro l_1v NC_api_TStmt_50 l_1] (qv8 rfl rfl rfl rfl rfl rfl rfl rfl) (by decide) rfl ?_
    refine oy rfl rfl (y_load_boxagg (c := [.int .i64 x18.Kind, .int .i64 x18.Slot, .int .i64 x18.N, .string (bs x18.Name), .int .i64 x18.X.Op, .int .i64 x18.X.Type_, .int .i64 x18.X.N, .int .i64 x18.X.Slot, .string (bs x18.X.S), g19, g20, g21]) 3 Try.isAgg50 Try.sizeOf50 rfl rfl rfl) ?_
    refine oy rfl rfl (y_move rfl) ?_
    obtain ⟨r45, hr46, h⟩ := obind_some h
    refine ot rfl rfl (t_callxb (bs := [boxP m_0b 0]) (vs := [.agg #[.int .i64 x18.Kind, .int .i64 x18.Slot, .int .i64 x18.N, .string (bs x18.Name), .int .i64 x18.X.Op, .int .i64 x18.X.Type_, .int .i64 x18.X.N, .int .i64 x18.X.Slot, .string (bs x18.X.S), g19, g20, g21], .int .i64 known_2]) (cs := []) [(1, 2), (0, 2), (4, 0), (5, 0), (6, 0)] rfl Try.call36 rfl (weirgate_compile_maker_store_36_ok  (S_compile_maker.mk x_29) x18 known_2 m_0b v30 g19 g20 g21 hr46) (showsX_lend 1 rfl (showsX_lend 0 rfl (showsX_view 4 rfl views_nro (showsX_view 5 rfl views_nro (showsX_view 6 rfl views_nro showsX_nil))))) rfl (.inl rfl)) ?_
    rintro _ _ ⟨_, ⟨v47, rfl, rfl⟩, rfl⟩
    refine ops_nil ?_
    refine goes_code ?_
    refine run_seq ?_
    refine run_region' ?_
    refine oy rfl rfl (y_fieldAddr_box (sz := 0) Try.runUnderlying50 rfl Try.sizeOf3 rfl) ?_
    refine oy rfl rfl (y_load_box 3 Try.isAgg3 rfl rfl rfl) ?_
    refine oy rfl rfl (y_eql rfl rfl) ?_
    refine ops_nil ?_
    refine goes_code ?_
    refine run_cond (decide (x18.Kind = 1)) rfl (fun hc48 => ?_) (fun hc48 => ?_)
    ·replace h := cond_t h hc48
     refine run_region' ?_
     refine oy rfl rfl (y_move rfl) ?_
     refine oy rfl rfl (y_add rfl rfl) ?_
     refine oy rfl rfl (y_assign rfl) ?_
     refine ops_nil ?_
     refine goes_blk ?_
     obtain rfl := some_eq h
     exact goes_cut hL16 (((IntKind.i64.wrap (known_2 + 1)), r45.l_), v47) [9, 8, 2, 7] (qv6 rfl rfl rfl rfl rfl rfl) (by decide) rfl rfl
    ·replace h := cond_f h hc48
     refine run_skip ?_
     refine goes_blk ?_
     obtain rfl := some_eq h
     exact goes_cut hL16 ((known_2, r45.l_), v47) [9, 8, 2, 7] (qv6 rfl rfl rfl rfl rfl rfl) (by decide) rfl rfl
   rcases cond2 h with ⟨he49, h⟩ | ⟨he49, h⟩
   ·skip
    refine oy rfl rfl ((y_lookup (κ := Int) (G := fun v : Value => v) (k := x18.Kind) (d0 := .nilFunc) 2 (key_int .i64) Try.runUnderlying82 Try.runUnderlying3 Try.zeroValue81 rfl rfl rfl).to (v' := .func (.func 37) #[boxP m_0b 0] #[]) (mget_at he49 (by kernel_rfl))) ?_
    refine ops_weak [(0, boxP m_0b 0), (2, .int .i64 known_2), (6, .map (some b1)), (8, boxP b22 0), (29, l_1v), (30, .int .i64 (l_1.length : Int)), (31, .int .i64 s_3), (47, .func (.func 37) #[boxP m_0b 0] #[])] [0, 1, 2, 3, 4, 5, 6, 7] [box m_0b [v30], row v30 3 (x_29.map S_api_Instr.enc), mapis b1 (mcells (fun n : Int => Value.int .i64 n) (fun v : Value => v) ([(1, .func (.func 36) #[boxP m_0b 0] #[]), (2, .func (.func 36) #[boxP m_0b 0] #[]), (3, .func (.func 37) #[boxP m_0b 0] #[]), (4, .func (.func 38) #[boxP m_0b 0] #[]), (5, .func (.func 39) #[boxP m_0b 0] #[]), (6, .func (.func 40) #[boxP m_0b 0] #[]), (7, .func (.func 38) #[boxP m_0b 0] #[]), (8, .func (.func 38) #[boxP m_0b 0] #[]), (9, .func (.func 38) #[boxP m_0b 0] #[])] : List (Int × Value))), box b22 [.int .i64 x18.Kind, .int .i64 x18.Slot, .int .i64 x18.N, .string (bs x18.Name), .int .i64 x18.X.Op, .int .i64 x18.X.Type_, .int .i64 x18.X.N, .int .i64 x18.X.Slot, .string (bs x18.X.S), g19, g20, g21], nro g19 NC_api_TExpr_48 x18.X.Args, nro g20 NC_api_TStmt_50 x18.Body, nro g21 NC_api_TStmt_50 x18.Else, nro l_1v NC_api_TStmt_50 l_1] (qv8 rfl rfl rfl rfl rfl rfl rfl rfl) (by decide) rfl ?_
    refine oy rfl rfl (y_load_boxagg (c := [.int .i64 x18.Kind, .int .i64 x18.Slot, .int .i64 x18.N, .string (bs x18.Name), .int .i64 x18.X.Op, .int .i64 x18.X.Type_, .int .i64 x18.X.N, .int .i64 x18.X.Slot, .string (bs x18.X.S), g19, g20, g21]) 3 Try.isAgg50 Try.sizeOf50 rfl rfl rfl) ?_
    refine oy rfl rfl (y_move rfl) ?_
    obtain ⟨r50, hr51, h⟩ := obind_some h
    refine ot rfl rfl (t_callxb (bs := [boxP m_0b 0]) (vs := [.agg #[.int .i64 x18.Kind, .int .i64 x18.Slot, .int .i64 x18.N, .string (bs x18.Name), .int .i64 x18.X.Op, .int .i64 x18.X.Type_, .int .i64 x18.X.N, .int .i64 x18.X.Slot, .string (bs x18.X.S), g19, g20, g21], .int .i64 known_2]) (cs := []) [(1, 2), (0, 2), (4, 0), (5, 0), (6, 0)] rfl Try.call37 rfl (weirgate_compile_maker_header_37_ok  (S_compile_maker.mk x_29) x18 known_2 m_0b v30 g19 g20 g21 hr51) (showsX_lend 1 rfl (showsX_lend 0 rfl (showsX_view 4 rfl views_nro (showsX_view 5 rfl views_nro (showsX_view 6 rfl views_nro showsX_nil))))) rfl (.inl rfl)) ?_
    rintro _ _ ⟨_, ⟨v52, rfl, rfl⟩, rfl⟩
    refine ops_nil ?_
    refine goes_code ?_
    refine run_seq ?_
    refine run_region' ?_
    refine oy rfl rfl (y_fieldAddr_box (sz := 0) Try.runUnderlying50 rfl Try.sizeOf3 rfl) ?_
    refine oy rfl rfl (y_load_box 3 Try.isAgg3 rfl rfl rfl) ?_
    refine oy rfl rfl (y_eql rfl rfl) ?_
    refine ops_nil ?_
    refine goes_code ?_
    refine run_cond (decide (x18.Kind = 1)) rfl (fun hc53 => ?_) (fun hc53 => ?_)
    ·replace h := cond_t h hc53
     refine run_region' ?_
     refine oy rfl rfl (y_move rfl) ?_
     refine oy rfl rfl (y_add rfl rfl) ?_
     refine oy rfl rfl (y_assign rfl) ?_
     refine ops_nil ?_
     refine goes_blk ?_
     obtain rfl := some_eq h
     exact goes_cut hL16 (((IntKind.i64.wrap (known_2 + 1)), r50.l_), v52) [9, 8, 2, 7] (qv6 rfl rfl rfl rfl rfl rfl) (by decide) rfl rfl
    ·replace h := cond_f h hc53
     refine run_skip ?_
     refine goes_blk ?_
     obtain rfl := some_eq h
     exact goes_cut hL16 ((known_2, r50.l_), v52) [9, 8, 2, 7] (qv6 rfl rfl rfl rfl rfl rfl) (by decide) rfl rfl
   rcases cond2 h with ⟨he54, h⟩ | ⟨he54, h⟩
   ·skip
    refine oy rfl rfl ((y_lookup (κ := Int) (G := fun v : Value => v) (k := x18.Kind) (d0 := .nilFunc) 2 (key_int .i64) Try.runUnderlying82 Try.runUnderlying3 Try.zeroValue81 rfl rfl rfl).to (v' := .func (.func 38) #[boxP m_0b 0] #[]) (mget_at he54 (by kernel_rfl))) ?_
    refine ops_weak [(0, boxP m_0b 0), (2, .int .i64 known_2), (6, .map (some b1)), (8, boxP b22 0), (29, l_1v), (30, .int .i64 (l_1.length : Int)), (31, .int .i64 s_3), (47, .func (.func 38) #[boxP m_0b 0] #[])] [0, 1, 2, 3, 4, 5, 6, 7] [box m_0b [v30], row v30 3 (x_29.map S_api_Instr.enc), mapis b1 (mcells (fun n : Int => Value.int .i64 n) (fun v : Value => v) ([(1, .func (.func 36) #[boxP m_0b 0] #[]), (2, .func (.func 36) #[boxP m_0b 0] #[]), (3, .func (.func 37) #[boxP m_0b 0] #[]), (4, .func (.func 38) #[boxP m_0b 0] #[]), (5, .func (.func 39) #[boxP m_0b 0] #[]), (6, .func (.func 40) #[boxP m_0b 0] #[]), (7, .func (.func 38) #[boxP m_0b 0] #[]), (8, .func (.func 38) #[boxP m_0b 0] #[]), (9, .func (.func 38) #[boxP m_0b 0] #[])] : List (Int × Value))), box b22 [.int .i64 x18.Kind, .int .i64 x18.Slot, .int .i64 x18.N, .string (bs x18.Name), .int .i64 x18.X.Op, .int .i64 x18.X.Type_, .int .i64 x18.X.N, .int .i64 x18.X.Slot, .string (bs x18.X.S), g19, g20, g21], nro g19 NC_api_TExpr_48 x18.X.Args, nro g20 NC_api_TStmt_50 x18.Body, nro g21 NC_api_TStmt_50 x18.Else, nro l_1v NC_api_TStmt_50 l_1] (qv8 rfl rfl rfl rfl rfl rfl rfl rfl) (by decide) rfl ?_
    refine oy rfl rfl (y_load_boxagg (c := [.int .i64 x18.Kind, .int .i64 x18.Slot, .int .i64 x18.N, .string (bs x18.Name), .int .i64 x18.X.Op, .int .i64 x18.X.Type_, .int .i64 x18.X.N, .int .i64 x18.X.Slot, .string (bs x18.X.S), g19, g20, g21]) 3 Try.isAgg50 Try.sizeOf50 rfl rfl rfl) ?_
    refine oy rfl rfl (y_move rfl) ?_
    obtain ⟨r55, hr56, h⟩ := obind_some h
    refine ot rfl rfl (t_callxb (bs := [boxP m_0b 0]) (vs := [.agg #[.int .i64 x18.Kind, .int .i64 x18.Slot, .int .i64 x18.N, .string (bs x18.Name), .int .i64 x18.X.Op, .int .i64 x18.X.Type_, .int .i64 x18.X.N, .int .i64 x18.X.Slot, .string (bs x18.X.S), g19, g20, g21], .int .i64 known_2]) (cs := []) [(1, 2), (0, 2), (4, 0), (5, 0), (6, 0)] rfl Try.call38 rfl (weirgate_compile_maker_plain_38_ok  (S_compile_maker.mk x_29) x18 known_2 m_0b v30 g19 g20 g21 hr56) (showsX_lend 1 rfl (showsX_lend 0 rfl (showsX_view 4 rfl views_nro (showsX_view 5 rfl views_nro (showsX_view 6 rfl views_nro showsX_nil))))) rfl (.inl rfl)) ?_
    rintro _ _ ⟨_, ⟨v57, rfl, rfl⟩, rfl⟩
    refine ops_nil ?_
    refine goes_code ?_
    refine run_seq ?_
    refine run_region' ?_
    refine oy rfl rfl (y_fieldAddr_box (sz := 0) Try.runUnderlying50 rfl Try.sizeOf3 rfl) ?_
    refine oy rfl rfl (y_load_box 3 Try.isAgg3 rfl rfl rfl) ?_
    refine oy rfl rfl (y_eql rfl rfl) ?_
    refine ops_nil ?_
    refine goes_code ?_
    refine run_cond (decide (x18.Kind = 1)) rfl (fun hc58 => ?_) (fun hc58 => ?_)
    ·replace h := cond_t h hc58
     refine run_region' ?_
     refine oy rfl rfl (y_move rfl) ?_
     refine oy rfl rfl (y_add rfl rfl) ?_
     refine oy rfl rfl (y_assign rfl) ?_
     refine ops_nil ?_
     refine goes_blk ?_
     obtain rfl := some_eq h
     exact goes_cut hL16 (((IntKind.i64.wrap (known_2 + 1)), r55.l_), v57) [9, 8, 2, 7] (qv6 rfl rfl rfl rfl rfl rfl) (by decide) rfl rfl
    ·replace h := cond_f h hc58
     refine run_skip ?_
     refine goes_blk ?_
     obtain rfl := some_eq h
     exact goes_cut hL16 ((known_2, r55.l_), v57) [9, 8, 2, 7] (qv6 rfl rfl rfl rfl rfl rfl) (by decide) rfl rfl
   rcases cond2 h with ⟨he59, h⟩ | ⟨he59, h⟩
   ·skip
    refine oy rfl rfl ((y_lookup (κ := Int) (G := fun v : Value => v) (k := x18.Kind) (d0 := .nilFunc) 2 (key_int .i64) Try.runUnderlying82 Try.runUnderlying3 Try.zeroValue81 rfl rfl rfl).to (v' := .func (.func 39) #[boxP m_0b 0] #[]) (mget_at he59 (by kernel_rfl))) ?_
    refine ops_weak [(0, boxP m_0b 0), (2, .int .i64 known_2), (6, .map (some b1)), (8, boxP b22 0), (29, l_1v), (30, .int .i64 (l_1.length : Int)), (31, .int .i64 s_3), (47, .func (.func 39) #[boxP m_0b 0] #[])] [0, 1, 2, 3, 4, 5, 6, 7] [box m_0b [v30], row v30 3 (x_29.map S_api_Instr.enc), mapis b1 (mcells (fun n : Int => Value.int .i64 n) (fun v : Value => v) ([(1, .func (.func 36) #[boxP m_0b 0] #[]), (2, .func (.func 36) #[boxP m_0b 0] #[]), (3, .func (.func 37) #[boxP m_0b 0] #[]), (4, .func (.func 38) #[boxP m_0b 0] #[]), (5, .func (.func 39) #[boxP m_0b 0] #[]), (6, .func (.func 40) #[boxP m_0b 0] #[]), (7, .func (.func 38) #[boxP m_0b 0] #[]), (8, .func (.func 38) #[boxP m_0b 0] #[]), (9, .func (.func 38) #[boxP m_0b 0] #[])] : List (Int × Value))), box b22 [.int .i64 x18.Kind, .int .i64 x18.Slot, .int .i64 x18.N, .string (bs x18.Name), .int .i64 x18.X.Op, .int .i64 x18.X.Type_, .int .i64 x18.X.N, .int .i64 x18.X.Slot, .string (bs x18.X.S), g19, g20, g21], nro g19 NC_api_TExpr_48 x18.X.Args, nro g20 NC_api_TStmt_50 x18.Body, nro g21 NC_api_TStmt_50 x18.Else, nro l_1v NC_api_TStmt_50 l_1] (qv8 rfl rfl rfl rfl rfl rfl rfl rfl) (by decide) rfl ?_
    refine oy rfl rfl (y_load_boxagg (c := [.int .i64 x18.Kind, .int .i64 x18.Slot, .int .i64 x18.N, .string (bs x18.Name), .int .i64 x18.X.Op, .int .i64 x18.X.Type_, .int .i64 x18.X.N, .int .i64 x18.X.Slot, .string (bs x18.X.S), g19, g20, g21]) 3 Try.isAgg50 Try.sizeOf50 rfl rfl rfl) ?_
    refine oy rfl rfl (y_move rfl) ?_
    obtain ⟨r60, hr61, h⟩ := obind_some h
    refine ot rfl rfl (t_callxb (bs := [boxP m_0b 0]) (vs := [.agg #[.int .i64 x18.Kind, .int .i64 x18.Slot, .int .i64 x18.N, .string (bs x18.Name), .int .i64 x18.X.Op, .int .i64 x18.X.Type_, .int .i64 x18.X.N, .int .i64 x18.X.Slot, .string (bs x18.X.S), g19, g20, g21], .int .i64 known_2]) (cs := []) [(1, 2), (0, 2), (4, 0), (5, 0), (6, 0)] rfl Try.call39 rfl (weirgate_compile_maker_branch_39_ok rec_weirgate_compile_maker_code_21 hrec_weirgate_compile_maker_code_21 (S_compile_maker.mk x_29) x18 known_2 m_0b v30 g19 g20 g21 hr61) (showsX_lend 1 rfl (showsX_lend 0 rfl (showsX_view 4 rfl views_nro (showsX_view 5 rfl views_nro (showsX_view 6 rfl views_nro showsX_nil))))) rfl (.inl rfl)) ?_
    rintro _ _ ⟨_, ⟨v62, rfl, rfl⟩, rfl⟩
    refine ops_nil ?_
    refine goes_code ?_
    refine run_seq ?_
    refine run_region' ?_
    refine oy rfl rfl (y_fieldAddr_box (sz := 0) Try.runUnderlying50 rfl Try.sizeOf3 rfl) ?_
    refine oy rfl rfl (y_load_box 3 Try.isAgg3 rfl rfl rfl) ?_
    refine oy rfl rfl (y_eql rfl rfl) ?_
    refine ops_nil ?_
    refine goes_code ?_
    refine run_cond (decide (x18.Kind = 1)) rfl (fun hc63 => ?_) (fun hc63 => ?_)
    ·replace h := cond_t h hc63
     refine run_region' ?_
     refine oy rfl rfl (y_move rfl) ?_
     refine oy rfl rfl (y_add rfl rfl) ?_
     refine oy rfl rfl (y_assign rfl) ?_
     refine ops_nil ?_
     refine goes_blk ?_
     obtain rfl := some_eq h
     exact goes_cut hL16 (((IntKind.i64.wrap (known_2 + 1)), r60.l_), v62) [9, 8, 2, 7] (qv6 rfl rfl rfl rfl rfl rfl) (by decide) rfl rfl
    ·replace h := cond_f h hc63
     refine run_skip ?_
     refine goes_blk ?_
     obtain rfl := some_eq h
     exact goes_cut hL16 ((known_2, r60.l_), v62) [9, 8, 2, 7] (qv6 rfl rfl rfl rfl rfl rfl) (by decide) rfl rfl
   rcases cond2 h with ⟨he64, h⟩ | ⟨he64, h⟩
   ·skip
    refine oy rfl rfl ((y_lookup (κ := Int) (G := fun v : Value => v) (k := x18.Kind) (d0 := .nilFunc) 2 (key_int .i64) Try.runUnderlying82 Try.runUnderlying3 Try.zeroValue81 rfl rfl rfl).to (v' := .func (.func 40) #[boxP m_0b 0] #[]) (mget_at he64 (by kernel_rfl))) ?_
    refine ops_weak [(0, boxP m_0b 0), (2, .int .i64 known_2), (6, .map (some b1)), (8, boxP b22 0), (29, l_1v), (30, .int .i64 (l_1.length : Int)), (31, .int .i64 s_3), (47, .func (.func 40) #[boxP m_0b 0] #[])] [0, 1, 2, 3, 4, 5, 6, 7] [box m_0b [v30], row v30 3 (x_29.map S_api_Instr.enc), mapis b1 (mcells (fun n : Int => Value.int .i64 n) (fun v : Value => v) ([(1, .func (.func 36) #[boxP m_0b 0] #[]), (2, .func (.func 36) #[boxP m_0b 0] #[]), (3, .func (.func 37) #[boxP m_0b 0] #[]), (4, .func (.func 38) #[boxP m_0b 0] #[]), (5, .func (.func 39) #[boxP m_0b 0] #[]), (6, .func (.func 40) #[boxP m_0b 0] #[]), (7, .func (.func 38) #[boxP m_0b 0] #[]), (8, .func (.func 38) #[boxP m_0b 0] #[]), (9, .func (.func 38) #[boxP m_0b 0] #[])] : List (Int × Value))), box b22 [.int .i64 x18.Kind, .int .i64 x18.Slot, .int .i64 x18.N, .string (bs x18.Name), .int .i64 x18.X.Op, .int .i64 x18.X.Type_, .int .i64 x18.X.N, .int .i64 x18.X.Slot, .string (bs x18.X.S), g19, g20, g21], nro g19 NC_api_TExpr_48 x18.X.Args, nro g20 NC_api_TStmt_50 x18.Body, nro g21 NC_api_TStmt_50 x18.Else, nro l_1v NC_api_TStmt_50 l_1] (qv8 rfl rfl rfl rfl rfl rfl rfl rfl) (by decide) rfl ?_
    refine oy rfl rfl (y_load_boxagg (c := [.int .i64 x18.Kind, .int .i64 x18.Slot, .int .i64 x18.N, .string (bs x18.Name), .int .i64 x18.X.Op, .int .i64 x18.X.Type_, .int .i64 x18.X.N, .int .i64 x18.X.Slot, .string (bs x18.X.S), g19, g20, g21]) 3 Try.isAgg50 Try.sizeOf50 rfl rfl rfl) ?_
    refine oy rfl rfl (y_move rfl) ?_
    obtain ⟨r65, hr66, h⟩ := obind_some h
    refine ot rfl rfl (t_callxb (bs := [boxP m_0b 0]) (vs := [.agg #[.int .i64 x18.Kind, .int .i64 x18.Slot, .int .i64 x18.N, .string (bs x18.Name), .int .i64 x18.X.Op, .int .i64 x18.X.Type_, .int .i64 x18.X.N, .int .i64 x18.X.Slot, .string (bs x18.X.S), g19, g20, g21], .int .i64 known_2]) (cs := []) [(1, 2), (0, 2), (4, 0), (5, 0), (6, 0)] rfl Try.call40 rfl (weirgate_compile_maker_repeat_40_ok rec_weirgate_compile_maker_code_21 hrec_weirgate_compile_maker_code_21 (S_compile_maker.mk x_29) x18 known_2 m_0b v30 g19 g20 g21 hr66) (showsX_lend 1 rfl (showsX_lend 0 rfl (showsX_view 4 rfl views_nro (showsX_view 5 rfl views_nro (showsX_view 6 rfl views_nro showsX_nil))))) rfl (.inl rfl)) ?_
    rintro _ _ ⟨_, ⟨v67, rfl, rfl⟩, rfl⟩
    refine ops_nil ?_
    refine goes_code ?_
    refine run_seq ?_
    refine run_region' ?_
    refine oy rfl rfl (y_fieldAddr_box (sz := 0) Try.runUnderlying50 rfl Try.sizeOf3 rfl) ?_
    refine oy rfl rfl (y_load_box 3 Try.isAgg3 rfl rfl rfl) ?_
    refine oy rfl rfl (y_eql rfl rfl) ?_
    refine ops_nil ?_
    refine goes_code ?_
    refine run_cond (decide (x18.Kind = 1)) rfl (fun hc68 => ?_) (fun hc68 => ?_)
    ·replace h := cond_t h hc68
     refine run_region' ?_
     refine oy rfl rfl (y_move rfl) ?_
     refine oy rfl rfl (y_add rfl rfl) ?_
     refine oy rfl rfl (y_assign rfl) ?_
     refine ops_nil ?_
     refine goes_blk ?_
     obtain rfl := some_eq h
     exact goes_cut hL16 (((IntKind.i64.wrap (known_2 + 1)), r65.l_), v67) [9, 8, 2, 7] (qv6 rfl rfl rfl rfl rfl rfl) (by decide) rfl rfl
    ·replace h := cond_f h hc68
     refine run_skip ?_
     refine goes_blk ?_
     obtain rfl := some_eq h
     exact goes_cut hL16 ((known_2, r65.l_), v67) [9, 8, 2, 7] (qv6 rfl rfl rfl rfl rfl rfl) (by decide) rfl rfl
   rcases cond2 h with ⟨he69, h⟩ | ⟨he69, h⟩
   ·skip
    refine oy rfl rfl ((y_lookup (κ := Int) (G := fun v : Value => v) (k := x18.Kind) (d0 := .nilFunc) 2 (key_int .i64) Try.runUnderlying82 Try.runUnderlying3 Try.zeroValue81 rfl rfl rfl).to (v' := .func (.func 38) #[boxP m_0b 0] #[]) (mget_at he69 (by kernel_rfl))) ?_
    refine ops_weak [(0, boxP m_0b 0), (2, .int .i64 known_2), (6, .map (some b1)), (8, boxP b22 0), (29, l_1v), (30, .int .i64 (l_1.length : Int)), (31, .int .i64 s_3), (47, .func (.func 38) #[boxP m_0b 0] #[])] [0, 1, 2, 3, 4, 5, 6, 7] [box m_0b [v30], row v30 3 (x_29.map S_api_Instr.enc), mapis b1 (mcells (fun n : Int => Value.int .i64 n) (fun v : Value => v) ([(1, .func (.func 36) #[boxP m_0b 0] #[]), (2, .func (.func 36) #[boxP m_0b 0] #[]), (3, .func (.func 37) #[boxP m_0b 0] #[]), (4, .func (.func 38) #[boxP m_0b 0] #[]), (5, .func (.func 39) #[boxP m_0b 0] #[]), (6, .func (.func 40) #[boxP m_0b 0] #[]), (7, .func (.func 38) #[boxP m_0b 0] #[]), (8, .func (.func 38) #[boxP m_0b 0] #[]), (9, .func (.func 38) #[boxP m_0b 0] #[])] : List (Int × Value))), box b22 [.int .i64 x18.Kind, .int .i64 x18.Slot, .int .i64 x18.N, .string (bs x18.Name), .int .i64 x18.X.Op, .int .i64 x18.X.Type_, .int .i64 x18.X.N, .int .i64 x18.X.Slot, .string (bs x18.X.S), g19, g20, g21], nro g19 NC_api_TExpr_48 x18.X.Args, nro g20 NC_api_TStmt_50 x18.Body, nro g21 NC_api_TStmt_50 x18.Else, nro l_1v NC_api_TStmt_50 l_1] (qv8 rfl rfl rfl rfl rfl rfl rfl rfl) (by decide) rfl ?_
    refine oy rfl rfl (y_load_boxagg (c := [.int .i64 x18.Kind, .int .i64 x18.Slot, .int .i64 x18.N, .string (bs x18.Name), .int .i64 x18.X.Op, .int .i64 x18.X.Type_, .int .i64 x18.X.N, .int .i64 x18.X.Slot, .string (bs x18.X.S), g19, g20, g21]) 3 Try.isAgg50 Try.sizeOf50 rfl rfl rfl) ?_
    refine oy rfl rfl (y_move rfl) ?_
    obtain ⟨r70, hr71, h⟩ := obind_some h
    refine ot rfl rfl (t_callxb (bs := [boxP m_0b 0]) (vs := [.agg #[.int .i64 x18.Kind, .int .i64 x18.Slot, .int .i64 x18.N, .string (bs x18.Name), .int .i64 x18.X.Op, .int .i64 x18.X.Type_, .int .i64 x18.X.N, .int .i64 x18.X.Slot, .string (bs x18.X.S), g19, g20, g21], .int .i64 known_2]) (cs := []) [(1, 2), (0, 2), (4, 0), (5, 0), (6, 0)] rfl Try.call38 rfl (weirgate_compile_maker_plain_38_ok  (S_compile_maker.mk x_29) x18 known_2 m_0b v30 g19 g20 g21 hr71) (showsX_lend 1 rfl (showsX_lend 0 rfl (showsX_view 4 rfl views_nro (showsX_view 5 rfl views_nro (showsX_view 6 rfl views_nro showsX_nil))))) rfl (.inl rfl)) ?_
    rintro _ _ ⟨_, ⟨v72, rfl, rfl⟩, rfl⟩
    refine ops_nil ?_
    refine goes_code ?_
    refine run_seq ?_
    refine run_region' ?_
    refine oy rfl rfl (y_fieldAddr_box (sz := 0) Try.runUnderlying50 rfl Try.sizeOf3 rfl) ?_
    refine oy rfl rfl (y_load_box 3 Try.isAgg3 rfl rfl rfl) ?_
    refine oy rfl rfl (y_eql rfl rfl) ?_
    refine ops_nil ?_
    refine goes_code ?_
    refine run_cond (decide (x18.Kind = 1)) rfl (fun hc73 => ?_) (fun hc73 => ?_)
    ·replace h := cond_t h hc73
     refine run_region' ?_
     refine oy rfl rfl (y_move rfl) ?_
     refine oy rfl rfl (y_add rfl rfl) ?_
     refine oy rfl rfl (y_assign rfl) ?_
     refine ops_nil ?_
     refine goes_blk ?_
     obtain rfl := some_eq h
     exact goes_cut hL16 (((IntKind.i64.wrap (known_2 + 1)), r70.l_), v72) [9, 8, 2, 7] (qv6 rfl rfl rfl rfl rfl rfl) (by decide) rfl rfl
    ·replace h := cond_f h hc73
     refine run_skip ?_
     refine goes_blk ?_
     obtain rfl := some_eq h
     exact goes_cut hL16 ((known_2, r70.l_), v72) [9, 8, 2, 7] (qv6 rfl rfl rfl rfl rfl rfl) (by decide) rfl rfl
   rcases cond2 h with ⟨he74, h⟩ | ⟨he74, h⟩
   ·skip
    refine oy rfl rfl ((y_lookup (κ := Int) (G := fun v : Value => v) (k := x18.Kind) (d0 := .nilFunc) 2 (key_int .i64) Try.runUnderlying82 Try.runUnderlying3 Try.zeroValue81 rfl rfl rfl).to (v' := .func (.func 38) #[boxP m_0b 0] #[]) (mget_at he74 (by kernel_rfl))) ?_
    refine ops_weak [(0, boxP m_0b 0), (2, .int .i64 known_2), (6, .map (some b1)), (8, boxP b22 0), (29, l_1v), (30, .int .i64 (l_1.length : Int)), (31, .int .i64 s_3), (47, .func (.func 38) #[boxP m_0b 0] #[])] [0, 1, 2, 3, 4, 5, 6, 7] [box m_0b [v30], row v30 3 (x_29.map S_api_Instr.enc), mapis b1 (mcells (fun n : Int => Value.int .i64 n) (fun v : Value => v) ([(1, .func (.func 36) #[boxP m_0b 0] #[]), (2, .func (.func 36) #[boxP m_0b 0] #[]), (3, .func (.func 37) #[boxP m_0b 0] #[]), (4, .func (.func 38) #[boxP m_0b 0] #[]), (5, .func (.func 39) #[boxP m_0b 0] #[]), (6, .func (.func 40) #[boxP m_0b 0] #[]), (7, .func (.func 38) #[boxP m_0b 0] #[]), (8, .func (.func 38) #[boxP m_0b 0] #[]), (9, .func (.func 38) #[boxP m_0b 0] #[])] : List (Int × Value))), box b22 [.int .i64 x18.Kind, .int .i64 x18.Slot, .int .i64 x18.N, .string (bs x18.Name), .int .i64 x18.X.Op, .int .i64 x18.X.Type_, .int .i64 x18.X.N, .int .i64 x18.X.Slot, .string (bs x18.X.S), g19, g20, g21], nro g19 NC_api_TExpr_48 x18.X.Args, nro g20 NC_api_TStmt_50 x18.Body, nro g21 NC_api_TStmt_50 x18.Else, nro l_1v NC_api_TStmt_50 l_1] (qv8 rfl rfl rfl rfl rfl rfl rfl rfl) (by decide) rfl ?_
    refine oy rfl rfl (y_load_boxagg (c := [.int .i64 x18.Kind, .int .i64 x18.Slot, .int .i64 x18.N, .string (bs x18.Name), .int .i64 x18.X.Op, .int .i64 x18.X.Type_, .int .i64 x18.X.N, .int .i64 x18.X.Slot, .string (bs x18.X.S), g19, g20, g21]) 3 Try.isAgg50 Try.sizeOf50 rfl rfl rfl) ?_
    refine oy rfl rfl (y_move rfl) ?_
    obtain ⟨r75, hr76, h⟩ := obind_some h
    refine ot rfl rfl (t_callxb (bs := [boxP m_0b 0]) (vs := [.agg #[.int .i64 x18.Kind, .int .i64 x18.Slot, .int .i64 x18.N, .string (bs x18.Name), .int .i64 x18.X.Op, .int .i64 x18.X.Type_, .int .i64 x18.X.N, .int .i64 x18.X.Slot, .string (bs x18.X.S), g19, g20, g21], .int .i64 known_2]) (cs := []) [(1, 2), (0, 2), (4, 0), (5, 0), (6, 0)] rfl Try.call38 rfl (weirgate_compile_maker_plain_38_ok  (S_compile_maker.mk x_29) x18 known_2 m_0b v30 g19 g20 g21 hr76) (showsX_lend 1 rfl (showsX_lend 0 rfl (showsX_view 4 rfl views_nro (showsX_view 5 rfl views_nro (showsX_view 6 rfl views_nro showsX_nil))))) rfl (.inl rfl)) ?_
    rintro _ _ ⟨_, ⟨v77, rfl, rfl⟩, rfl⟩
    refine ops_nil ?_
    refine goes_code ?_
    refine run_seq ?_
    refine run_region' ?_
    refine oy rfl rfl (y_fieldAddr_box (sz := 0) Try.runUnderlying50 rfl Try.sizeOf3 rfl) ?_
    refine oy rfl rfl (y_load_box 3 Try.isAgg3 rfl rfl rfl) ?_
    refine oy rfl rfl (y_eql rfl rfl) ?_
    refine ops_nil ?_
    refine goes_code ?_
    refine run_cond (decide (x18.Kind = 1)) rfl (fun hc78 => ?_) (fun hc78 => ?_)
    ·replace h := cond_t h hc78
     refine run_region' ?_
     refine oy rfl rfl (y_move rfl) ?_
     refine oy rfl rfl (y_add rfl rfl) ?_
     refine oy rfl rfl (y_assign rfl) ?_
     refine ops_nil ?_
     refine goes_blk ?_
     obtain rfl := some_eq h
     exact goes_cut hL16 (((IntKind.i64.wrap (known_2 + 1)), r75.l_), v77) [9, 8, 2, 7] (qv6 rfl rfl rfl rfl rfl rfl) (by decide) rfl rfl
    ·replace h := cond_f h hc78
     refine run_skip ?_
     refine goes_blk ?_
     obtain rfl := some_eq h
     exact goes_cut hL16 ((known_2, r75.l_), v77) [9, 8, 2, 7] (qv6 rfl rfl rfl rfl rfl rfl) (by decide) rfl rfl
   rcases cond2 h with ⟨he79, h⟩ | ⟨he79, h⟩
   ·skip
    refine oy rfl rfl ((y_lookup (κ := Int) (G := fun v : Value => v) (k := x18.Kind) (d0 := .nilFunc) 2 (key_int .i64) Try.runUnderlying82 Try.runUnderlying3 Try.zeroValue81 rfl rfl rfl).to (v' := .func (.func 38) #[boxP m_0b 0] #[]) (mget_at he79 (by kernel_rfl))) ?_
    refine ops_weak [(0, boxP m_0b 0), (2, .int .i64 known_2), (6, .map (some b1)), (8, boxP b22 0), (29, l_1v), (30, .int .i64 (l_1.length : Int)), (31, .int .i64 s_3), (47, .func (.func 38) #[boxP m_0b 0] #[])] [0, 1, 2, 3, 4, 5, 6, 7] [box m_0b [v30], row v30 3 (x_29.map S_api_Instr.enc), mapis b1 (mcells (fun n : Int => Value.int .i64 n) (fun v : Value => v) ([(1, .func (.func 36) #[boxP m_0b 0] #[]), (2, .func (.func 36) #[boxP m_0b 0] #[]), (3, .func (.func 37) #[boxP m_0b 0] #[]), (4, .func (.func 38) #[boxP m_0b 0] #[]), (5, .func (.func 39) #[boxP m_0b 0] #[]), (6, .func (.func 40) #[boxP m_0b 0] #[]), (7, .func (.func 38) #[boxP m_0b 0] #[]), (8, .func (.func 38) #[boxP m_0b 0] #[]), (9, .func (.func 38) #[boxP m_0b 0] #[])] : List (Int × Value))), box b22 [.int .i64 x18.Kind, .int .i64 x18.Slot, .int .i64 x18.N, .string (bs x18.Name), .int .i64 x18.X.Op, .int .i64 x18.X.Type_, .int .i64 x18.X.N, .int .i64 x18.X.Slot, .string (bs x18.X.S), g19, g20, g21], nro g19 NC_api_TExpr_48 x18.X.Args, nro g20 NC_api_TStmt_50 x18.Body, nro g21 NC_api_TStmt_50 x18.Else, nro l_1v NC_api_TStmt_50 l_1] (qv8 rfl rfl rfl rfl rfl rfl rfl rfl) (by decide) rfl ?_
    refine oy rfl rfl (y_load_boxagg (c := [.int .i64 x18.Kind, .int .i64 x18.Slot, .int .i64 x18.N, .string (bs x18.Name), .int .i64 x18.X.Op, .int .i64 x18.X.Type_, .int .i64 x18.X.N, .int .i64 x18.X.Slot, .string (bs x18.X.S), g19, g20, g21]) 3 Try.isAgg50 Try.sizeOf50 rfl rfl rfl) ?_
    refine oy rfl rfl (y_move rfl) ?_
    obtain ⟨r80, hr81, h⟩ := obind_some h
    refine ot rfl rfl (t_callxb (bs := [boxP m_0b 0]) (vs := [.agg #[.int .i64 x18.Kind, .int .i64 x18.Slot, .int .i64 x18.N, .string (bs x18.Name), .int .i64 x18.X.Op, .int .i64 x18.X.Type_, .int .i64 x18.X.N, .int .i64 x18.X.Slot, .string (bs x18.X.S), g19, g20, g21], .int .i64 known_2]) (cs := []) [(1, 2), (0, 2), (4, 0), (5, 0), (6, 0)] rfl Try.call38 rfl (weirgate_compile_maker_plain_38_ok  (S_compile_maker.mk x_29) x18 known_2 m_0b v30 g19 g20 g21 hr81) (showsX_lend 1 rfl (showsX_lend 0 rfl (showsX_view 4 rfl views_nro (showsX_view 5 rfl views_nro (showsX_view 6 rfl views_nro showsX_nil))))) rfl (.inl rfl)) ?_
    rintro _ _ ⟨_, ⟨v82, rfl, rfl⟩, rfl⟩
    refine ops_nil ?_
    refine goes_code ?_
    refine run_seq ?_
    refine run_region' ?_
    refine oy rfl rfl (y_fieldAddr_box (sz := 0) Try.runUnderlying50 rfl Try.sizeOf3 rfl) ?_
    refine oy rfl rfl (y_load_box 3 Try.isAgg3 rfl rfl rfl) ?_
    refine oy rfl rfl (y_eql rfl rfl) ?_
    refine ops_nil ?_
    refine goes_code ?_
    refine run_cond (decide (x18.Kind = 1)) rfl (fun hc83 => ?_) (fun hc83 => ?_)
    ·replace h := cond_t h hc83
     refine run_region' ?_
     refine oy rfl rfl (y_move rfl) ?_
     refine oy rfl rfl (y_add rfl rfl) ?_
     refine oy rfl rfl (y_assign rfl) ?_
     refine ops_nil ?_
     refine goes_blk ?_
     obtain rfl := some_eq h
     exact goes_cut hL16 (((IntKind.i64.wrap (known_2 + 1)), r80.l_), v82) [9, 8, 2, 7] (qv6 rfl rfl rfl rfl rfl rfl) (by decide) rfl rfl
    ·replace h := cond_f h hc83
     refine run_skip ?_
     refine goes_blk ?_
     obtain rfl := some_eq h
     exact goes_cut hL16 ((known_2, r80.l_), v82) [9, 8, 2, 7] (qv6 rfl rfl rfl rfl rfl rfl) (by decide) rfl rfl
   refine oy rfl rfl ((y_lookup (κ := Int) (G := fun v : Value => v) (k := x18.Kind) (d0 := .nilFunc) 2 (key_int .i64) Try.runUnderlying82 Try.runUnderlying3 Try.zeroValue81 rfl rfl rfl).to (v' := .nilFunc) (mget_no (by intro p hp; simp only [List.mem_cons, List.not_mem_nil, or_false] at hp; rcases hp with rfl | rfl | rfl | rfl | rfl | rfl | rfl | rfl | rfl <;> assumption))) ?_
   refine ops_weak [(0, boxP m_0b 0), (2, .int .i64 known_2), (6, .map (some b1)), (8, boxP b22 0), (29, l_1v), (30, .int .i64 (l_1.length : Int)), (31, .int .i64 s_3), (47, .nilFunc)] [0, 1, 2, 3, 4, 5, 6, 7] [box m_0b [v30], row v30 3 (x_29.map S_api_Instr.enc), mapis b1 (mcells (fun n : Int => Value.int .i64 n) (fun v : Value => v) ([(1, .func (.func 36) #[boxP m_0b 0] #[]), (2, .func (.func 36) #[boxP m_0b 0] #[]), (3, .func (.func 37) #[boxP m_0b 0] #[]), (4, .func (.func 38) #[boxP m_0b 0] #[]), (5, .func (.func 39) #[boxP m_0b 0] #[]), (6, .func (.func 40) #[boxP m_0b 0] #[]), (7, .func (.func 38) #[boxP m_0b 0] #[]), (8, .func (.func 38) #[boxP m_0b 0] #[]), (9, .func (.func 38) #[boxP m_0b 0] #[])] : List (Int × Value))), box b22 [.int .i64 x18.Kind, .int .i64 x18.Slot, .int .i64 x18.N, .string (bs x18.Name), .int .i64 x18.X.Op, .int .i64 x18.X.Type_, .int .i64 x18.X.N, .int .i64 x18.X.Slot, .string (bs x18.X.S), g19, g20, g21], nro g19 NC_api_TExpr_48 x18.X.Args, nro g20 NC_api_TStmt_50 x18.Body, nro g21 NC_api_TStmt_50 x18.Else, nro l_1v NC_api_TStmt_50 l_1] (qv8 rfl rfl rfl rfl rfl rfl rfl rfl) (by decide) rfl ?_
   refine oy rfl rfl (y_load_boxagg (c := [.int .i64 x18.Kind, .int .i64 x18.Slot, .int .i64 x18.N, .string (bs x18.Name), .int .i64 x18.X.Op, .int .i64 x18.X.Type_, .int .i64 x18.X.N, .int .i64 x18.X.Slot, .string (bs x18.X.S), g19, g20, g21]) 3 Try.isAgg50 Try.sizeOf50 rfl rfl rfl) ?_
   refine oy rfl rfl (y_move rfl) ?_
   cases h
  rintro ⟨⟨known_11, x_12⟩, v13⟩ hj
  obtain rfl : o14 = _ := hj
  replace h := after_go ho15
  clear ho15
  change Run _ _ _ (VF.of [(2, .int .i64 known_11), (0, boxP m_0b 0), (6, .map (some b1)), (29, l_1v), (30, .int .i64 (l_1.length : Int)), (31, .int .i64 s_3)]) [box m_0b [v13], row v13 3 (x_12.map S_api_Instr.enc), mapis b1 (mcells (fun n : Int => Value.int .i64 n) (fun v : Value => v) ([(1, .func (.func 36) #[boxP m_0b 0] #[]), (2, .func (.func 36) #[boxP m_0b 0] #[]), (3, .func (.func 37) #[boxP m_0b 0] #[]), (4, .func (.func 38) #[boxP m_0b 0] #[]), (5, .func (.func 39) #[boxP m_0b 0] #[]), (6, .func (.func 40) #[boxP m_0b 0] #[]), (7, .func (.func 38) #[boxP m_0b 0] #[]), (8, .func (.func 38) #[boxP m_0b 0] #[]), (9, .func (.func 38) #[boxP m_0b 0] #[])] : List (Int × Value))), nro l_1v NC_api_TStmt_50 l_1]
  refine run_region' ?_
  refine oy rfl rfl (y_add rfl rfl) ?_
  refine oy rfl rfl (y_move rfl) ?_
  refine ops_nil ?_
  obtain rfl := some_eq h
  exact goes_iter hgo7 (known_11, (IntKind.i64.wrap (s_3 + 1)), x_12) v13 [0, 1, 2, 3] rfl (qv6 rfl rfl rfl rfl rfl rfl) (by decide) rfl
 ·replace h := cond_f h hc10
  refine run_exit _ rfl ?_
  refine goes_nil ?_
  obtain rfl := some_eq h
  obtain rfl := hstop8 _ rfl
  refine fin_slots [] [] [1, 0] [row v5 3 (x_4.map S_api_Instr.enc), box m_0b [v5]] Try.results21 rfl (by decide) rfl ?_
  exact ⟨_, rfl, rfl⟩
def weirgate_compile_maker_code_21 : Nat → S_compile_maker → (List S_api_TStmt) → Int → Option (S_compile_maker)
 | 0 => fun _ _ _ => none
 | n + 1 => weirgate_compile_maker_code_21_body n  (weirgate_compile_maker_code_21 n )
theorem weirgate_compile_maker_code_21_ok (n : Nat)  : ∀ (m_0 : S_compile_maker) (l_1 : (List S_api_TStmt)) (known_2 : Int) (m_0b : Nat) (m_0_l_v : Value) (l_1v : Value) {r : S_compile_maker}, weirgate_compile_maker_code_21 n  m_0 l_1 known_2 = some r → Meets Try.prog 21 [boxP m_0b 0, l_1v, .int .i64 known_2] [row m_0_l_v 3 (m_0.l_.map S_api_Instr.enc), box m_0b [m_0_l_v], nro l_1v NC_api_TStmt_50 l_1] (fun v G => ∃ v0, v = .tuple #[] ∧ G = [row v0 3 (r.l_.map S_api_Instr.enc), box m_0b [v0]]) := by
 induction n with
 | zero => intro m_0 l_1 known_2 m_0b m_0_l_v l_1v r h; cases h
 | succ n ih => intro m_0 l_1 known_2 m_0b m_0_l_v l_1v r h; exact weirgate_compile_maker_code_21_body_ok n   (weirgate_compile_maker_code_21 n ) (fun m_0 l_1 known_2 m_0b m_0_l_v l_1v r h => ih m_0 l_1 known_2 m_0b m_0_l_v l_1v h) m_0 l_1 known_2 m_0b m_0_l_v l_1v h

def compile_Compile (n : Nat) (p_0 : S_api_Program) : Option (S_api_Module × Int) :=
 obind (weirgate_compile_maker_code_21 n (S_compile_maker.mk ([] : List S_api_Instr)) p_0.Code 0) fun r4 =>
 cond (decide (65536 < (r4.l_.length : Int)))
  (some ((S_api_Module.mk [] ([] : List Int) ([] : List S_api_Instr)), 2))
  (need (([] : List Int).length + p_0.Effects.length ≤ 4294967296) (
  some ((S_api_Module.mk p_0.Name (([] : List Int) ++ p_0.Effects) r4.l_), 0)))
theorem compile_Compile_ok (n : Nat) (p_0 : S_api_Program) (p_0_Effectsv : Value) (p_0_Codev : Value) {r : S_api_Module × Int} (h : compile_Compile n p_0 = some r) :
  Meets Try.prog 9 [.agg #[.string (bs p_0.Name), p_0_Effectsv, p_0_Codev]] [ro p_0_Effectsv 1 (p_0.Effects.map (eInt .i64)), nro p_0_Codev NC_api_TStmt_50 p_0.Code] (fun v G => ∃ v0 v1, v = .tuple #[.agg #[.string (bs r.1.Name), v0, v1], .int .i64 r.2] ∧ G = [row v0 1 (r.1.Effects.map (eInt .i64)), row v1 3 (r.1.Code.map S_api_Instr.enc)]) := by
 refine fn_of_run Try.func9 rfl Try.ntmps9 rfl (fun w0 o0 => ?_)
 refine run_seq ?_
 refine run_region' ?_
 refine ot rfl rfl (t_box rfl) ?_
 rintro _ _ ⟨b1, rfl, rfl⟩
 refine ot rfl rfl (t_alloc Try.zeroValue31) ?_
 rintro _ _ ⟨b2, rfl, rfl⟩
 refine oy rfl rfl (y_assign rfl) ?_
 refine ops_nil ?_
 refine goes_code ?_
 refine run_seq ?_
 refine run_region' ?_
 refine ot rfl rfl (t_alloc Try.zeroValue58) ?_
 rintro _ _ ⟨b3, rfl, rfl⟩
 refine ops_nil ?_
 refine goes_code ?_
 refine run_seq ?_
 refine run_region' ?_
 refine oy rfl rfl (y_fieldAddr_box (sz := 0) Try.runUnderlying25 rfl Try.sizeOf23 rfl) ?_
 refine oy rfl rfl (y_load_box 2 Try.isAgg23 rfl rfl rfl) ?_
 refine ops_turn (nilrow 3) ?_
 refine ops_turn (retell 5 (g := row (.slice none 0 0) 3 (([] : List S_api_Instr).map S_api_Instr.enc)) rfl rfl) ?_
 obtain ⟨r4, hr5, h⟩ := obind_some h
 refine ot rfl rfl (t_callx (vs := [boxP b3 0, p_0_Codev, .int .i64 0]) (cs := []) [(5, 2), (4, 2), (1, 0)] rfl Try.call21 rfl (weirgate_compile_maker_code_21_ok n  (S_compile_maker.mk ([] : List S_api_Instr)) p_0.Code 0 b3 (.slice none 0 0) p_0_Codev hr5) (showsX_lend 5 rfl (showsX_lend 4 rfl (showsX_view 1 rfl views_nro showsX_nil))) rfl (.inl rfl)) ?_
 rintro _ _ ⟨_, ⟨v6, rfl, rfl⟩, rfl⟩
 refine ops_nil ?_
 refine goes_code ?_
 refine run_seq ?_
 refine run_seq ?_
 refine run_region' ?_
 refine oy rfl rfl (y_fieldAddr_box (sz := 0) Try.runUnderlying58 rfl Try.sizeOf29 rfl) ?_
 refine oy rfl rfl (y_load_box 7 Try.isAgg29 rfl rfl rfl) ?_
 refine oy rfl rfl ((y_len 6 rfl Try.runUnderlying29 rfl rfl reads_row).to (v_len S_api_Instr.enc _)) ?_
 refine oy rfl rfl (y_gtr rfl rfl) ?_
 refine ops_nil ?_
 refine goes_code ?_
 refine run_cond (decide (65536 < (r4.l_.length : Int))) rfl (fun hc7 => ?_) (fun hc7 => ?_)
 ·replace h := cond_t h hc7
  refine run_seq ?_
  refine run_weak [(2, boxP b2 0)] [3] [box b2 [.string (bs []), .slice none 0 0, .slice none 0 0]] (qv1 rfl) (by decide) rfl ?_
  refine run_region' ?_
  refine oy rfl rfl (y_build_struct (cells := #[.string (bs []), .slice none 0 0, .slice none 0 0]) [] [] Try.zeroValue31 Try.runUnderlying31 (fs_cons Try.sizeOf9 (fs_cons Try.sizeOf22 (fs_cons Try.sizeOf29 fs_nil))) rfl rfl rfl) ?_
  refine ot rfl rfl (t_store 0 Try.sizeOf31 rfl rfl rfl rfl (by simp [Value.cells, boxP]) (by simp [Value.cells, Value.oneCell', boxP])) ?_
  rintro _ _ ⟨rfl, rfl⟩
  refine ops_turn (retell 0 (g := box b2 [.string (bs []), .slice none 0 0, .slice none 0 0]) rfl rfl) ?_
  refine oy rfl rfl (y_assign rfl) ?_
  refine ops_nil ?_
  refine goes_code ?_
  refine run_ret ?_
  refine fin_turn (nilrow 1) ?_
  refine fin_turn (retell 1 (g := row (.slice none 0 0) 1 (([] : List Int).map (eInt .i64))) rfl rfl) ?_
  refine fin_turn (nilrow 3) ?_
  refine fin_turn (retell 2 (g := row (.slice none 0 0) 3 (([] : List S_api_Instr).map S_api_Instr.enc)) rfl rfl) ?_
  obtain rfl := some_eq h
  refine fin_res [.cell 2 31, .tmp 3] [.agg #[.string (bs []), (.slice none 0 0), (.slice none 0 0)], .int .i64 2] [1, 2] [row (.slice none 0 0) 1 (([] : List Int).map (eInt .i64)), row (.slice none 0 0) 3 (([] : List S_api_Instr).map S_api_Instr.enc)] Try.results9 rfl (rescons (res_box 0 Try.isAgg31 Try.sizeOf31 rfl rfl rfl) (rescons (res_tmp rfl) resnil)) (by decide) rfl ?_
  exact ⟨_, _, rfl, rfl⟩
 ·replace h := cond_f h hc7
  refine run_skip ?_
  refine goes_code ?_
  refine run_seq ?_
  refine run_weak [(1, boxP b1 0), (2, boxP b2 0), (4, boxP b3 0)] [0, 1, 2, 3, 6, 7] [ro p_0_Effectsv 1 (p_0.Effects.map (eInt .i64)), nro p_0_Codev NC_api_TStmt_50 p_0.Code, box b1 [.string (bs p_0.Name), p_0_Effectsv, p_0_Codev], box b2 [.string (bs []), .slice none 0 0, .slice none 0 0], row v6 3 (r4.l_.map S_api_Instr.enc), box b3 [v6]] (qv3 rfl rfl rfl) (by decide) rfl ?_
  refine run_drawany [ro p_0_Effectsv 1 (p_0.Effects.map (eInt .i64)), nro p_0_Codev NC_api_TStmt_50 p_0.Code, box b1 [.string (bs p_0.Name), p_0_Effectsv, p_0_Codev], HA.emp, row v6 3 (r4.l_.map S_api_Instr.enc), box b3 [v6]] (by kernel_rfl) ?_
  refine any_y 0 rfl (by kernel_rfl) (by kernel_rfl) (by kernel_rfl) (ss (ss (ss (se (ss (ss (sn))))))) (wn rfl) rfl (y_fieldAddr_box (sz := 0) Try.runUnderlying25 rfl Try.sizeOf9 rfl) ?_
  refine any_y 1 rfl (by kernel_rfl) (by kernel_rfl) (by kernel_rfl) (ss (ss (ss (se (ss (ss (sn))))))) (wn rfl) rfl (y_load_box 2 Try.isAgg9 rfl rfl rfl) ?_
  refine any_y 3 rfl (by kernel_rfl) (by kernel_rfl) (by kernel_rfl) (ss (ss (ss (se (ss (ss (sn))))))) (wn rfl) rfl (y_fieldAddr_box (sz := 0) Try.runUnderlying25 rfl Try.sizeOf22 rfl) ?_
  refine any_y 4 rfl (by kernel_rfl) (by kernel_rfl) (by kernel_rfl) (ss (ss (ss (se (ss (ss (sn))))))) (wn rfl) rfl (y_load_box 2 Try.isAgg22 rfl rfl rfl) ?_
  refine any_y 6 rfl (by kernel_rfl) (by kernel_rfl) (by kernel_rfl) (ss (ss (ss (se (ss (ss (sn))))))) (wn rfl) rfl (y_fieldAddr_box (sz := 0) Try.runUnderlying58 rfl Try.sizeOf29 rfl) ?_
  refine any_y 7 rfl (by kernel_rfl) (by kernel_rfl) (by kernel_rfl) (ss (ss (ss (se (ss (ss (sn))))))) (wn rfl) rfl (y_load_box 5 Try.isAgg29 rfl rfl rfl) ?_
  refine any_all [2] (by kernel_rfl) rfl (anyo_cons ?_ anyo_nil)
  refine any_t rfl (wn rfl) rfl (t_lit [] Try.runUnderlying22 Try.sizeOf3 Try.zeroValue3 rfl (by decide) (by decide) rfl (by simp [Value.cells, boxP])) ?_
  rintro v8 _ ⟨rfl, _⟩
  refine ⟨(ss (ss (ss (se (ss (ss (sn))))))), ?_⟩
  refine any_turn (retell 6 (g := row v8 1 (([] : List Int).map (eInt .i64))) rfl rfl) ?_
  refine any_all [5] (by kernel_rfl) rfl (anyo_cons ?_ anyo_nil)
  obtain ⟨hr10, h⟩ := need_some h
  refine any_t rfl (wn rfl) rfl (t_append (es := 1) 6 rfl Try.runUnderlying22 rfl Try.runUnderlying22 (.inr ⟨_, rfl⟩) Try.typeInfo3 rfl (by decide) Try.zeroValue3 rfl rfl rfl rfl (src_reads 0 rfl reads_ro (map_ok (eInt_ok _) _)) (map_room hr10 (by decide)) (map_fit hr10)) ?_
  rintro v9 _ rfl
  refine ⟨(ss (ss (ss (se (ss (ss (sn))))))), ?_⟩
  refine any_turn (retell 6 (g := row v9 1 ((([] : List Int) ++ p_0.Effects).map (eInt .i64))) rfl (congrArg (row _ _) List.map_append.symm)) ?_
  refine any_all [8] (by kernel_rfl) rfl (anyo_cons ?_ anyo_nil)
  refine anyo_slc 4 rfl reads_row (fun hs11 hs11o => ?_)
  refine anyo_slc 6 rfl reads_row (fun hs12 hs12o => ?_)
  refine any_ty rfl (wn rfl) rfl (y_build_struct (cells := #[.string (bs p_0.Name), v9, v6]) [(0, .string (bs p_0.Name)), (1, v9), (2, v6)] [(0, [.string (bs p_0.Name)]), (1, [v9]), (2, [v6])] Try.zeroValue31 Try.runUnderlying31 (fs_cons Try.sizeOf9 (fs_cons Try.sizeOf22 (fs_cons Try.sizeOf29 fs_nil))) rfl (by first | (simp only [List.map_cons, List.map_nil, hs11, hs12]; done) | (simp only [List.map_cons, List.map_nil, hs11, hs12]; rfl)) rfl) ⟨(ss (ss (ss (se (ss (ss (sn))))))), ?_⟩
  refine any_all [9] (by kernel_rfl) rfl (anyo_cons ?_ anyo_nil)
  refine anyo_slc 6 rfl reads_row (fun hs13 hs13o => ?_)
  refine anyo_slc 4 rfl reads_row (fun hs14 hs14o => ?_)
  refine any_t rfl (wn rfl) rfl (t_store 3 Try.sizeOf31 rfl rfl rfl rfl (by simp [Value.cells, boxP]) (allL_cons rfl (allL_cons hs13o (allL_cons hs14o (allL_nil))))) ?_
  rintro _ _ ⟨rfl, rfl⟩
  refine ⟨(ss (ss (ss (se (ss (ss (sn))))))), ?_⟩
  refine any_turn (retell 3 (g := box b2 [.string (bs p_0.Name), v9, v6]) rfl rfl) ?_
  refine any_y 10 rfl (by kernel_rfl) (by kernel_rfl) (by kernel_rfl) (ss (ss (ss (se (ss (ss (sn))))))) (wn rfl) rfl (y_assign rfl) ?_
  refine any_nil (by kernel_rfl) ?_
  refine goes_code ?_
  refine run_ret ?_
  obtain rfl := some_eq h
  refine fin_res [.cell 2 31, .tmp 3] [.agg #[.string (bs p_0.Name), v9, v6], .int .i64 0] [6, 4] [row v9 1 ((([] : List Int) ++ p_0.Effects).map (eInt .i64)), row v6 3 (r4.l_.map S_api_Instr.enc)] Try.results9 rfl (rescons (res_box 3 Try.isAgg31 Try.sizeOf31 rfl rfl rfl) (rescons (res_tmp rfl) resnil)) (by decide) rfl ?_
  exact ⟨_, _, rfl, rfl⟩

def law28_code  : Option ((List S_api_Instr)) :=
 some ([(S_api_Instr.mk 30 0 []), (S_api_Instr.mk 1 1 []), (S_api_Instr.mk 31 0 []), (S_api_Instr.mk 30 0 []), (S_api_Instr.mk 3 0 []), (S_api_Instr.mk 1 2 []), (S_api_Instr.mk 15 0 []), (S_api_Instr.mk 38 13 []), (S_api_Instr.mk 30 0 []), (S_api_Instr.mk 2 0 [97]), (S_api_Instr.mk 34 0 []), (S_api_Instr.mk 41 1 []), (S_api_Instr.mk 37 14 []), (S_api_Instr.mk 41 1 [])] : List S_api_Instr)
theorem law28_code_ok   {r : (List S_api_Instr)} (h : law28_code = some r) :
  Meets Try.prog 19 [] [] (fun v G => ∃ v0, v = v0 ∧ G = [row v0 3 (r.map S_api_Instr.enc)]) := by
 refine fn_of_run Try.func19 rfl Try.ntmps19 rfl (fun w0 o0 => ?_)
 refine run_seq ?_
 refine run_region' ?_
 refine oy rfl rfl (y_assign rfl) ?_
 refine ops_nil ?_
 refine goes_code ?_
 refine run_seq ?_
 refine run_region' ?_
 refine oy rfl rfl (y_build_struct (cells := #[.int .i64 30, .int .i64 0, .string (bs [])]) [(0, .int .i64 30)] [(0, [.int .i64 30])] Try.zeroValue55 Try.runUnderlying55 (fs_cons Try.sizeOf3 (fs_cons Try.sizeOf3 (fs_cons Try.sizeOf9 fs_nil))) rfl rfl rfl) ?_
 refine oy rfl rfl (y_build_struct (cells := #[.int .i64 1, .int .i64 1, .string (bs [])]) [(0, .int .i64 1), (1, .int .i64 1)] [(0, [.int .i64 1]), (1, [.int .i64 1])] Try.zeroValue55 Try.runUnderlying55 (fs_cons Try.sizeOf3 (fs_cons Try.sizeOf3 (fs_cons Try.sizeOf9 fs_nil))) rfl rfl rfl) ?_
 refine oy rfl rfl (y_build_struct (cells := #[.int .i64 31, .int .i64 0, .string (bs [])]) [(0, .int .i64 31)] [(0, [.int .i64 31])] Try.zeroValue55 Try.runUnderlying55 (fs_cons Try.sizeOf3 (fs_cons Try.sizeOf3 (fs_cons Try.sizeOf9 fs_nil))) rfl rfl rfl) ?_
 refine oy rfl rfl (y_build_struct (cells := #[.int .i64 30, .int .i64 0, .string (bs [])]) [(0, .int .i64 30)] [(0, [.int .i64 30])] Try.zeroValue55 Try.runUnderlying55 (fs_cons Try.sizeOf3 (fs_cons Try.sizeOf3 (fs_cons Try.sizeOf9 fs_nil))) rfl rfl rfl) ?_
 refine oy rfl rfl (y_build_struct (cells := #[.int .i64 3, .int .i64 0, .string (bs [])]) [(0, .int .i64 3)] [(0, [.int .i64 3])] Try.zeroValue55 Try.runUnderlying55 (fs_cons Try.sizeOf3 (fs_cons Try.sizeOf3 (fs_cons Try.sizeOf9 fs_nil))) rfl rfl rfl) ?_
 refine oy rfl rfl (y_build_struct (cells := #[.int .i64 1, .int .i64 2, .string (bs [])]) [(0, .int .i64 1), (1, .int .i64 2)] [(0, [.int .i64 1]), (1, [.int .i64 2])] Try.zeroValue55 Try.runUnderlying55 (fs_cons Try.sizeOf3 (fs_cons Try.sizeOf3 (fs_cons Try.sizeOf9 fs_nil))) rfl rfl rfl) ?_
 refine oy rfl rfl (y_build_struct (cells := #[.int .i64 15, .int .i64 0, .string (bs [])]) [(0, .int .i64 15)] [(0, [.int .i64 15])] Try.zeroValue55 Try.runUnderlying55 (fs_cons Try.sizeOf3 (fs_cons Try.sizeOf3 (fs_cons Try.sizeOf9 fs_nil))) rfl rfl rfl) ?_
 refine oy rfl rfl (y_build_struct (cells := #[.int .i64 38, .int .i64 13, .string (bs [])]) [(0, .int .i64 38), (1, .int .i64 13)] [(0, [.int .i64 38]), (1, [.int .i64 13])] Try.zeroValue55 Try.runUnderlying55 (fs_cons Try.sizeOf3 (fs_cons Try.sizeOf3 (fs_cons Try.sizeOf9 fs_nil))) rfl rfl rfl) ?_
 refine oy rfl rfl (y_build_struct (cells := #[.int .i64 30, .int .i64 0, .string (bs [])]) [(0, .int .i64 30)] [(0, [.int .i64 30])] Try.zeroValue55 Try.runUnderlying55 (fs_cons Try.sizeOf3 (fs_cons Try.sizeOf3 (fs_cons Try.sizeOf9 fs_nil))) rfl rfl rfl) ?_
 refine oy rfl rfl (y_build_struct (cells := #[.int .i64 2, .int .i64 0, .string (bs [97])]) [(0, .int .i64 2), (2, .string (bs [97]))] [(0, [.int .i64 2]), (2, [.string (bs [97])])] Try.zeroValue55 Try.runUnderlying55 (fs_cons Try.sizeOf3 (fs_cons Try.sizeOf3 (fs_cons Try.sizeOf9 fs_nil))) rfl rfl rfl) ?_
 refine oy rfl rfl (y_build_struct (cells := #[.int .i64 34, .int .i64 0, .string (bs [])]) [(0, .int .i64 34)] [(0, [.int .i64 34])] Try.zeroValue55 Try.runUnderlying55 (fs_cons Try.sizeOf3 (fs_cons Try.sizeOf3 (fs_cons Try.sizeOf9 fs_nil))) rfl rfl rfl) ?_
 refine oy rfl rfl (y_build_struct (cells := #[.int .i64 41, .int .i64 1, .string (bs [])]) [(0, .int .i64 41), (1, .int .i64 1)] [(0, [.int .i64 41]), (1, [.int .i64 1])] Try.zeroValue55 Try.runUnderlying55 (fs_cons Try.sizeOf3 (fs_cons Try.sizeOf3 (fs_cons Try.sizeOf9 fs_nil))) rfl rfl rfl) ?_
 refine oy rfl rfl (y_build_struct (cells := #[.int .i64 37, .int .i64 14, .string (bs [])]) [(0, .int .i64 37), (1, .int .i64 14)] [(0, [.int .i64 37]), (1, [.int .i64 14])] Try.zeroValue55 Try.runUnderlying55 (fs_cons Try.sizeOf3 (fs_cons Try.sizeOf3 (fs_cons Try.sizeOf9 fs_nil))) rfl rfl rfl) ?_
 refine oy rfl rfl (y_build_struct (cells := #[.int .i64 41, .int .i64 1, .string (bs [])]) [(0, .int .i64 41), (1, .int .i64 1)] [(0, [.int .i64 41]), (1, [.int .i64 1])] Try.zeroValue55 Try.runUnderlying55 (fs_cons Try.sizeOf3 (fs_cons Try.sizeOf3 (fs_cons Try.sizeOf9 fs_nil))) rfl rfl rfl) ?_
 refine ot rfl rfl (t_lit [.agg #[.int .i64 30, .int .i64 0, .string (bs [])], .agg #[.int .i64 1, .int .i64 1, .string (bs [])], .agg #[.int .i64 31, .int .i64 0, .string (bs [])], .agg #[.int .i64 30, .int .i64 0, .string (bs [])], .agg #[.int .i64 3, .int .i64 0, .string (bs [])], .agg #[.int .i64 1, .int .i64 2, .string (bs [])], .agg #[.int .i64 15, .int .i64 0, .string (bs [])], .agg #[.int .i64 38, .int .i64 13, .string (bs [])], .agg #[.int .i64 30, .int .i64 0, .string (bs [])], .agg #[.int .i64 2, .int .i64 0, .string (bs [97])], .agg #[.int .i64 34, .int .i64 0, .string (bs [])], .agg #[.int .i64 41, .int .i64 1, .string (bs [])], .agg #[.int .i64 37, .int .i64 14, .string (bs [])], .agg #[.int .i64 41, .int .i64 1, .string (bs [])]] Try.runUnderlying29 Try.sizeOf55 Try.zeroValue55 rfl (by decide) (by decide) rfl (by simp [Value.cells, boxP])) ?_
 rintro v1 _ ⟨rfl, _⟩
 refine ops_turn (retell 0 (g := row v1 3 (([(S_api_Instr.mk 30 0 []), (S_api_Instr.mk 1 1 []), (S_api_Instr.mk 31 0 []), (S_api_Instr.mk 30 0 []), (S_api_Instr.mk 3 0 []), (S_api_Instr.mk 1 2 []), (S_api_Instr.mk 15 0 []), (S_api_Instr.mk 38 13 []), (S_api_Instr.mk 30 0 []), (S_api_Instr.mk 2 0 [97]), (S_api_Instr.mk 34 0 []), (S_api_Instr.mk 41 1 []), (S_api_Instr.mk 37 14 []), (S_api_Instr.mk 41 1 [])] : List S_api_Instr).map S_api_Instr.enc)) rfl rfl) ?_
 refine ops_weak [(15, v1)] [0] [row v1 3 (([(S_api_Instr.mk 30 0 []), (S_api_Instr.mk 1 1 []), (S_api_Instr.mk 31 0 []), (S_api_Instr.mk 30 0 []), (S_api_Instr.mk 3 0 []), (S_api_Instr.mk 1 2 []), (S_api_Instr.mk 15 0 []), (S_api_Instr.mk 38 13 []), (S_api_Instr.mk 30 0 []), (S_api_Instr.mk 2 0 [97]), (S_api_Instr.mk 34 0 []), (S_api_Instr.mk 41 1 []), (S_api_Instr.mk 37 14 []), (S_api_Instr.mk 41 1 [])] : List S_api_Instr).map S_api_Instr.enc)] (qv1 rfl) (by decide) rfl ?_
 refine oy rfl rfl (y_assign rfl) ?_
 refine ops_nil ?_
 refine goes_code ?_
 refine run_ret ?_
 obtain rfl := some_eq h
 refine fin_slots [0] [v1] [0] [row v1 3 (([(S_api_Instr.mk 30 0 []), (S_api_Instr.mk 1 1 []), (S_api_Instr.mk 31 0 []), (S_api_Instr.mk 30 0 []), (S_api_Instr.mk 3 0 []), (S_api_Instr.mk 1 2 []), (S_api_Instr.mk 15 0 []), (S_api_Instr.mk 38 13 []), (S_api_Instr.mk 30 0 []), (S_api_Instr.mk 2 0 [97]), (S_api_Instr.mk 34 0 []), (S_api_Instr.mk 41 1 []), (S_api_Instr.mk 37 14 []), (S_api_Instr.mk 41 1 [])] : List S_api_Instr).map S_api_Instr.enc)] Try.results19 rfl (by decide) rfl ?_
 exact ⟨_, rfl, rfl⟩

def ref28_ints_L1 (a_0 : (List Int)) (b_1 : (List Int)) : (Int) → Option (Lp (Int) (Lp (Unit) (Bool))) :=
 fun i_6 =>
  cond (decide (i_6 < (a_0.length : Int)))
   (idx a_0 i_6 fun x12 =>
   idx b_1 i_6 fun x13 =>
   cond (decide (x12 ≠ x13))
    (some (.stop (.stop false)))
    (some (.go (IntKind.i64.wrap (i_6 + 1)))))
   (some (.stop (.go ())))
def ref28_ints (n : Nat) (a_0 : (List Int)) (b_1 : (List Int)) : Option (Bool) :=
 cond (decide ((a_0.length : Int) ≠ (b_1.length : Int)))
  (some false)
  (bindJ (S := Unit)
   (iter (ref28_ints_L1 a_0 b_1) n 0)
  (fun _ =>
   some true))
theorem ref28_ints_ok (n : Nat) (a_0 : (List Int)) (b_1 : (List Int)) (a_0v : Value) (b_1v : Value) {r : Bool} (h : ref28_ints n a_0 b_1 = some r) :
  Meets Try.prog 23 [a_0v, b_1v] [ro a_0v 1 (a_0.map (eInt .i64)), ro b_1v 1 (b_1.map (eInt .i64))] (fun v G => v = .bool r ∧ G = []) := by
 refine fn_of_run Try.func23 rfl Try.ntmps23 rfl (fun w0 o0 => ?_)
 refine run_seq ?_
 refine run_region' ?_
 refine oy rfl rfl (y_assign rfl) ?_
 refine ops_nil ?_
 refine goes_code ?_
 refine run_seq ?_
 refine run_seq ?_
 refine run_region' ?_
 refine oy rfl rfl (y_move rfl) ?_
 refine oy rfl rfl ((y_len 0 rfl Try.runUnderlying22 rfl rfl reads_ro).to (v_len (eInt .i64) _)) ?_
 refine oy rfl rfl (y_move rfl) ?_
 refine oy rfl rfl ((y_len 1 rfl Try.runUnderlying22 rfl rfl reads_ro).to (v_len (eInt .i64) _)) ?_
 refine oy rfl rfl (y_neq rfl rfl) ?_
 refine ops_nil ?_
 refine goes_code ?_
 refine run_cond (decide ((a_0.length : Int) ≠ (b_1.length : Int))) rfl (fun hc1 => ?_) (fun hc1 => ?_)
 ·replace h := cond_t h hc1
  refine run_seq ?_
  refine run_region' ?_
  refine oy rfl rfl (y_assign rfl) ?_
  refine ops_nil ?_
  refine goes_code ?_
  refine run_ret ?_
  obtain rfl := some_eq h
  refine fin_slots [4] [.bool false] [] [] Try.results23 rfl (by decide) rfl ?_
  exact ⟨rfl, rfl⟩
 ·replace h := cond_f h hc1
  refine run_skip ?_
  refine goes_code ?_
  obtain ⟨o2, h, ho3⟩ := bindJ_some h
  refine run_cut ((Unit) × (Unit)) (fun σ => []) (fun σ => []) (fun σ => o2 = .go σ.1) (fun L5 hL4 => ?_) ?_
  ·
   refine run_seq ?_
   refine run_region' ?_
   refine oy rfl rfl (y_assign rfl) ?_
   refine ops_nil ?_
   refine goes_code ?_
   refine run_block ?_
   refine run_iter (step := ref28_ints_L1 a_0 b_1) (n := n) (s0 := 0) h (G := Unit) () (fun σ γ => [(5, .int .i64 σ), (0, a_0v), (1, b_1v)]) (fun σ γ => [ro a_0v 1 (a_0.map (eInt .i64)), ro b_1v 1 (b_1.map (eInt .i64))]) [0, 1] (qv3 rfl rfl rfl) (by decide) rfl ?_
   rintro i_6 _ o7 h L10 hgo8 hstop9
   change Run _ _ _ (VF.of [(5, .int .i64 i_6), (0, a_0v), (1, b_1v)]) [ro a_0v 1 (a_0.map (eInt .i64)), ro b_1v 1 (b_1.map (eInt .i64))]
   refine run_seq ?_
   refine run_seq ?_
   refine run_region' ?_
   refine oy rfl rfl (y_move rfl) ?_
   refine oy rfl rfl (y_move rfl) ?_
   refine oy rfl rfl ((y_len 0 rfl Try.runUnderlying22 rfl rfl reads_ro).to (v_len (eInt .i64) _)) ?_
   refine oy rfl rfl (y_lss rfl rfl) ?_
   refine ops_nil ?_
   refine goes_code ?_
   refine run_cond (decide (i_6 < (a_0.length : Int))) rfl (fun hc11 => ?_) (fun hc11 => ?_)
   ·replace h := cond_t h hc11
    refine run_skip ?_
    refine goes_code ?_
    refine run_seq ?_
    refine run_block ?_
    refine run_seq ?_
    refine run_draw (by kernel_rfl) (by kernel_rfl) ?_
    refine sy rfl rfl (y_move rfl) ?_
    refine sy rfl rfl (y_move rfl) ?_
    obtain ⟨x12, hzx12, hlx12, hxx12, h⟩ := idx_some h
    refine sy rfl rfl (y_indexAddrI (kd := .i64) (i := i_6) 0 Try.runUnderlying22 Try.sizeOf3 rfl rfl rfl reads_ro hzx12 (map_lt hlx12)) ?_
    refine sy rfl rfl (y_load_elem (i := i_6.toNat) 0 Try.isAgg3 rfl rfl reads_ro (map_get hxx12)) ?_
    refine sy rfl rfl (y_move rfl) ?_
    refine sy rfl rfl (y_move rfl) ?_
    obtain ⟨x13, hzx13, hlx13, hxx13, h⟩ := idx_some h
    refine sy rfl rfl (y_indexAddrI (kd := .i64) (i := i_6) 1 Try.runUnderlying22 Try.sizeOf3 rfl rfl rfl reads_ro hzx13 (map_lt hlx13)) ?_
    refine sy rfl rfl (y_load_elem (i := i_6.toNat) 1 Try.isAgg3 rfl rfl reads_ro (map_get hxx13)) ?_
    refine sy rfl rfl (y_neq rfl rfl) ?_
    refine still_nil ?_
    refine goes_code ?_
    refine run_cond (decide (x12 ≠ x13)) rfl (fun hc14 => ?_) (fun hc14 => ?_)
    ·replace h := cond_t h hc14
     refine run_seq ?_
     refine run_weak [] [] [] vnil (by decide) rfl ?_
     refine run_region' ?_
     refine oy rfl rfl (y_assign rfl) ?_
     refine ops_nil ?_
     refine goes_code ?_
     refine run_ret ?_
     obtain rfl := some_eq h
     obtain rfl := hstop9 _ rfl
     skip
     obtain rfl := after_stop ho3
     refine fin_slots [4] [.bool false] [] [] Try.results23 rfl (by decide) rfl ?_
     exact ⟨rfl, rfl⟩
    ·replace h := cond_f h hc14
     refine run_skip ?_
     refine goes_blk ?_
     refine goes_code ?_
     refine run_weak [(5, .int .i64 i_6), (0, a_0v), (1, b_1v)] [0, 1] [ro a_0v 1 (a_0.map (eInt .i64)), ro b_1v 1 (b_1.map (eInt .i64))] (qv3 rfl rfl rfl) (by decide) rfl ?_
     refine run_region' ?_
     refine oy rfl rfl (y_move rfl) ?_
     refine oy rfl rfl (y_add rfl rfl) ?_
     refine oy rfl rfl (y_assign rfl) ?_
     refine ops_nil ?_
     obtain rfl := some_eq h
     exact goes_iter hgo8 (IntKind.i64.wrap (i_6 + 1)) () [0, 1] rfl (qv3 rfl rfl rfl) (by decide) rfl
   ·replace h := cond_f h hc11
    refine run_exit _ rfl ?_
    obtain rfl := some_eq h
    obtain rfl := hstop9 _ rfl
    exact goes_cut hL4 ((), ()) [] vnil (by decide) rfl rfl
  rintro ⟨_, _⟩ hj
  obtain rfl : o2 = _ := hj
  replace h := after_go ho3
  clear ho3
  change Run _ _ _ (VF.of []) []
  refine run_seq ?_
  refine run_region' ?_
  refine oy rfl rfl (y_assign rfl) ?_
  refine ops_nil ?_
  refine goes_code ?_
  refine run_ret ?_
  obtain rfl := some_eq h
  refine fin_slots [4] [.bool true] [] [] Try.results23 rfl (by decide) rfl ?_
  exact ⟨rfl, rfl⟩

def ref28_Same_L1 (a_0 : S_api_Module) (b_1 : S_api_Module) : (Int) → Option (Lp (Int) (Lp (Unit) (Bool))) :=
 fun i_19 =>
  cond (decide (i_19 < (a_0.Code.length : Int)))
   (idx a_0.Code i_19 fun x25 =>
   idx b_1.Code i_19 fun x26 =>
   cond (!(decide (x25.Op = x26.Op) && (decide (x25.A = x26.A) && (decide (x25.S = x26.S)))))
    (some (.stop (.stop false)))
    (some (.go (IntKind.i64.wrap (i_19 + 1)))))
   (some (.stop (.go ())))
def ref28_Same (n : Nat) (a_0 : S_api_Module) (b_1 : S_api_Module) : Option (Bool) :=
 bindJ (S := Bool)
  (cond (!decide (a_0.Name = b_1.Name))
   (some (.go true))
   (obind (ref28_ints n a_0.Effects b_1.Effects) fun r9 =>
   some (.go (!r9))))
 (fun b3 =>
  cond (b3 || decide ((a_0.Code.length : Int) ≠ (b_1.Code.length : Int)))
   (some false)
   (bindJ (S := Unit)
    (iter (ref28_Same_L1 a_0 b_1) n 0)
   (fun _ =>
    some true)))
theorem ref28_Same_ok (n : Nat) (a_0 : S_api_Module) (b_1 : S_api_Module) (a_0_Effectsv : Value) (a_0_Codev : Value) (b_1_Effectsv : Value) (b_1_Codev : Value) {r : Bool} (h : ref28_Same n a_0 b_1 = some r) :
  Meets Try.prog 11 [.agg #[.string (bs a_0.Name), a_0_Effectsv, a_0_Codev], .agg #[.string (bs b_1.Name), b_1_Effectsv, b_1_Codev]] [ro a_0_Effectsv 1 (a_0.Effects.map (eInt .i64)), ro a_0_Codev 3 (a_0.Code.map S_api_Instr.enc), row b_1_Effectsv 1 (b_1.Effects.map (eInt .i64)), ro b_1_Codev 3 (b_1.Code.map S_api_Instr.enc)] (fun v G => v = .bool r ∧ G = []) := by
 refine fn_of_run Try.func11 rfl Try.ntmps11 rfl (fun w0 o0 => ?_)
 refine run_seq ?_
 refine run_region' ?_
 refine ot rfl rfl (t_box rfl) ?_
 rintro _ _ ⟨b1, rfl, rfl⟩
 refine ot rfl rfl (t_box rfl) ?_
 rintro _ _ ⟨b2, rfl, rfl⟩
 refine oy rfl rfl (y_assign rfl) ?_
 refine ops_nil ?_
 refine goes_code ?_
 refine run_seq ?_
 refine run_seq ?_
 refine run_region' ?_
 refine oy rfl rfl (y_fieldAddr_box (sz := 0) Try.runUnderlying31 rfl Try.sizeOf9 rfl) ?_
 refine oy rfl rfl (y_load_box 4 Try.isAgg9 rfl rfl rfl) ?_
 refine oy rfl rfl (y_fieldAddr_box (sz := 0) Try.runUnderlying31 rfl Try.sizeOf9 rfl) ?_
 refine oy rfl rfl (y_load_box 5 Try.isAgg9 rfl rfl rfl) ?_
 refine oy rfl rfl (y_sneq rfl rfl) ?_
 refine oy rfl rfl (y_move rfl) ?_
 obtain ⟨o4, h, ho5⟩ := bindJ_some h
 refine ops_cut 7 (Bool) (fun σ => [(2, boxP b1 0), (3, boxP b2 0), (18, .bool σ)]) (fun σ => [ro a_0_Effectsv 1 (a_0.Effects.map (eInt .i64)), ro a_0_Codev 3 (a_0.Code.map S_api_Instr.enc), row b_1_Effectsv 1 (b_1.Effects.map (eInt .i64)), ro b_1_Codev 3 (b_1.Code.map S_api_Instr.enc), box b1 [.string (bs a_0.Name), a_0_Effectsv, a_0_Codev], box b2 [.string (bs b_1.Name), b_1_Effectsv, b_1_Codev]]) (fun σ => o4 = .go σ) (fun L6 hL7 => ?_) ?_
 ·refine ops_split 11 (!decide (a_0.Name = b_1.Name)) rfl (fun hg8 => ?_) (fun hg8 => ?_)
  ·replace h := cond_t h hg8
   refine ops_no 5 false 11 rfl rfl rfl rfl rfl ?_
   refine ops_no 5 false 11 rfl rfl rfl rfl rfl ?_
   refine ops_no 5 false 11 rfl rfl rfl rfl rfl ?_
   refine ops_no 5 false 11 rfl rfl rfl rfl rfl ?_
   refine ops_no 5 false 11 rfl rfl rfl rfl rfl ?_
   refine ops_no 5 false 11 rfl rfl rfl rfl rfl ?_
   refine ops_weak [(2, boxP b1 0), (3, boxP b2 0), (11, .bool true), (17, undef)] [0, 1, 2, 3, 4, 5] [ro a_0_Effectsv 1 (a_0.Effects.map (eInt .i64)), ro a_0_Codev 3 (a_0.Code.map S_api_Instr.enc), row b_1_Effectsv 1 (b_1.Effects.map (eInt .i64)), ro b_1_Codev 3 (b_1.Code.map S_api_Instr.enc), box b1 [.string (bs a_0.Name), a_0_Effectsv, a_0_Codev], box b2 [.string (bs b_1.Name), b_1_Effectsv, b_1_Codev]] (qv4 rfl rfl rfl rfl) (by decide) rfl ?_
   refine oy rfl rfl (y_pick (b := true) rfl rfl) ?_
   refine ops_nil ?_
   obtain rfl := some_eq h
   exact goes_cut hL7 true [0, 1, 2, 3, 4, 5] (qv3 rfl rfl rfl) (by decide) rfl rfl
  ·replace h := cond_f h hg8
   refine ops_y (wg 5 false 11 rfl rfl rfl rfl) rfl (y_fieldAddr_box (sz := 0) Try.runUnderlying31 rfl Try.sizeOf22 rfl) ?_
   refine ops_y (wg 5 false 11 rfl rfl rfl rfl) rfl (y_load_box 4 Try.isAgg22 rfl rfl rfl) ?_
   refine ops_y (wg 5 false 11 rfl rfl rfl rfl) rfl (y_fieldAddr_box (sz := 0) Try.runUnderlying31 rfl Try.sizeOf22 rfl) ?_
   refine ops_y (wg 5 false 11 rfl rfl rfl rfl) rfl (y_load_box 5 Try.isAgg22 rfl rfl rfl) ?_
   obtain ⟨r9, hr10, h⟩ := obind_some h
   refine ops_t (wg 5 false 11 rfl rfl rfl rfl) rfl (t_callx (vs := [a_0_Effectsv, b_1_Effectsv]) (cs := []) [(0, 0), (2, 1)] rfl Try.call23 rfl (ref28_ints_ok n  a_0.Effects b_1.Effects a_0_Effectsv b_1_Effectsv hr10) (showsX_view 0 rfl views_ro (showsX_look 2 rfl views_row showsX_nil)) rfl (.inr (by rintro _ _ ⟨rfl, rfl⟩ g hg; first | (cases hg; done) | (simp only [List.mem_cons, List.not_mem_nil, or_false] at hg; first | (subst hg; first | exact strict_row | exact strict_box) | (rcases hg with rfl | rfl <;> first | exact strict_row | exact strict_box) | (rcases hg with rfl | rfl | rfl <;> first | exact strict_row | exact strict_box))))) ?_
   rintro _ _ ⟨_, ⟨rfl, rfl⟩, rfl⟩
   refine ops_y (wg 5 false 11 rfl rfl rfl rfl) rfl (y_not rfl) ?_
   refine ops_weak [(2, boxP b1 0), (3, boxP b2 0), (11, .bool false), (17, .bool (!r9))] [0, 1, 2, 3, 4, 5] [ro a_0_Effectsv 1 (a_0.Effects.map (eInt .i64)), ro a_0_Codev 3 (a_0.Code.map S_api_Instr.enc), row b_1_Effectsv 1 (b_1.Effects.map (eInt .i64)), ro b_1_Codev 3 (b_1.Code.map S_api_Instr.enc), box b1 [.string (bs a_0.Name), a_0_Effectsv, a_0_Codev], box b2 [.string (bs b_1.Name), b_1_Effectsv, b_1_Codev]] (qv4 rfl rfl rfl rfl) (by decide) rfl ?_
   refine oy rfl rfl (y_pick (b := false) rfl rfl) ?_
   refine ops_nil ?_
   obtain rfl := some_eq h
   exact goes_cut hL7 (!r9) [0, 1, 2, 3, 4, 5] (qv3 rfl rfl rfl) (by decide) rfl rfl
 rintro b3 hj
 obtain rfl : o4 = _ := hj
 replace h := after_go ho5
 clear ho5
 refine oy rfl rfl (y_move rfl) ?_
 refine ops_cut 8 (Bool) (fun σ => [(2, boxP b1 0), (3, boxP b2 0), (27, .bool σ)]) (fun σ => [ro a_0_Effectsv 1 (a_0.Effects.map (eInt .i64)), ro a_0_Codev 3 (a_0.Code.map S_api_Instr.enc), row b_1_Effectsv 1 (b_1.Effects.map (eInt .i64)), ro b_1_Codev 3 (b_1.Code.map S_api_Instr.enc), box b1 [.string (bs a_0.Name), a_0_Effectsv, a_0_Codev], box b2 [.string (bs b_1.Name), b_1_Effectsv, b_1_Codev]]) (fun σ => σ = (b3 || decide ((a_0.Code.length : Int) ≠ (b_1.Code.length : Int)))) (fun L11 hL12 => ?_) ?_
 ·refine ops_split 19 b3 rfl (fun hg13 => ?_) (fun hg13 => ?_)
  ·skip
   refine ops_no 13 false 19 rfl rfl rfl rfl rfl ?_
   refine ops_no 13 false 19 rfl rfl rfl rfl rfl ?_
   refine ops_no 13 false 19 rfl rfl rfl rfl rfl ?_
   refine ops_no 13 false 19 rfl rfl rfl rfl rfl ?_
   refine ops_no 13 false 19 rfl rfl rfl rfl rfl ?_
   refine ops_no 13 false 19 rfl rfl rfl rfl rfl ?_
   refine ops_no 13 false 19 rfl rfl rfl rfl rfl ?_
   refine oy rfl rfl (y_pick (b := true) rfl rfl) ?_
   refine ops_nil ?_
   exact goes_cut hL12 true [0, 1, 2, 3, 4, 5] (qv3 rfl rfl rfl) (by decide) rfl (by rw [hg13]; simp)
  ·skip
   refine ops_y (wg 13 false 19 rfl rfl rfl rfl) rfl (y_fieldAddr_box (sz := 0) Try.runUnderlying31 rfl Try.sizeOf29 rfl) ?_
   refine ops_y (wg 13 false 19 rfl rfl rfl rfl) rfl (y_load_box 4 Try.isAgg29 rfl rfl rfl) ?_
   refine ops_y (wg 13 false 19 rfl rfl rfl rfl) rfl ((y_len 1 rfl Try.runUnderlying29 rfl rfl reads_ro).to (v_len S_api_Instr.enc _)) ?_
   refine ops_y (wg 13 false 19 rfl rfl rfl rfl) rfl (y_fieldAddr_box (sz := 0) Try.runUnderlying31 rfl Try.sizeOf29 rfl) ?_
   refine ops_y (wg 13 false 19 rfl rfl rfl rfl) rfl (y_load_box 5 Try.isAgg29 rfl rfl rfl) ?_
   refine ops_y (wg 13 false 19 rfl rfl rfl rfl) rfl ((y_len 3 rfl Try.runUnderlying29 rfl rfl reads_ro).to (v_len S_api_Instr.enc _)) ?_
   refine ops_y (wg 13 false 19 rfl rfl rfl rfl) rfl (y_neq rfl rfl) ?_
   refine oy rfl rfl (y_pick (b := false) rfl rfl) ?_
   refine ops_nil ?_
   exact goes_cut hL12 (decide ((a_0.Code.length : Int) ≠ (b_1.Code.length : Int))) [0, 1, 2, 3, 4, 5] (qv3 rfl rfl rfl) (by decide) rfl (by rw [hg13]; simp)
 rintro _ rfl
 refine ops_nil ?_
 refine goes_code ?_
 refine run_cond (b3 || decide ((a_0.Code.length : Int) ≠ (b_1.Code.length : Int))) rfl (fun hc14 => ?_) (fun hc14 => ?_)
 ·replace h := cond_t h hc14
  refine run_seq ?_
  refine run_region' ?_
  refine oy rfl rfl (y_assign rfl) ?_
  refine ops_nil ?_
  refine goes_code ?_
  refine run_ret ?_
  obtain rfl := some_eq h
  refine fin_slots [4] [.bool false] [] [] Try.results11 rfl (by decide) rfl ?_
  exact ⟨rfl, rfl⟩
 ·replace h := cond_f h hc14
  refine run_skip ?_
  refine goes_code ?_
  obtain ⟨o15, h, ho16⟩ := bindJ_some h
  refine run_cut ((Unit) × (Unit)) (fun σ => []) (fun σ => []) (fun σ => o15 = .go σ.1) (fun L18 hL17 => ?_) ?_
  ·
   refine run_seq ?_
   refine run_region' ?_
   refine oy rfl rfl (y_assign rfl) ?_
   refine ops_nil ?_
   refine goes_code ?_
   refine run_block ?_
   refine run_iter (step := ref28_Same_L1 a_0 b_1) (n := n) (s0 := 0) h (G := Unit) () (fun σ γ => [(5, .int .i64 σ), (2, boxP b1 0), (3, boxP b2 0)]) (fun σ γ => [box b1 [.string (bs a_0.Name), a_0_Effectsv, a_0_Codev], ro a_0_Effectsv 1 (a_0.Effects.map (eInt .i64)), ro a_0_Codev 3 (a_0.Code.map S_api_Instr.enc), box b2 [.string (bs b_1.Name), b_1_Effectsv, b_1_Codev], row b_1_Effectsv 1 (b_1.Effects.map (eInt .i64)), ro b_1_Codev 3 (b_1.Code.map S_api_Instr.enc)]) [4, 0, 1, 5, 2, 3] (qv3 rfl rfl rfl) (by decide) rfl ?_
   rintro i_19 _ o20 h L23 hgo21 hstop22
   change Run _ _ _ (VF.of [(5, .int .i64 i_19), (2, boxP b1 0), (3, boxP b2 0)]) [box b1 [.string (bs a_0.Name), a_0_Effectsv, a_0_Codev], ro a_0_Effectsv 1 (a_0.Effects.map (eInt .i64)), ro a_0_Codev 3 (a_0.Code.map S_api_Instr.enc), box b2 [.string (bs b_1.Name), b_1_Effectsv, b_1_Codev], row b_1_Effectsv 1 (b_1.Effects.map (eInt .i64)), ro b_1_Codev 3 (b_1.Code.map S_api_Instr.enc)]
   refine run_seq ?_
   refine run_seq ?_
   refine run_region' ?_
   refine oy rfl rfl (y_move rfl) ?_
   refine oy rfl rfl (y_fieldAddr_box (sz := 0) Try.runUnderlying31 rfl Try.sizeOf29 rfl) ?_
   refine oy rfl rfl (y_load_box 0 Try.isAgg29 rfl rfl rfl) ?_
   refine oy rfl rfl ((y_len 2 rfl Try.runUnderlying29 rfl rfl reads_ro).to (v_len S_api_Instr.enc _)) ?_
   refine oy rfl rfl (y_lss rfl rfl) ?_
   refine ops_nil ?_
   refine goes_code ?_
   refine run_cond (decide (i_19 < (a_0.Code.length : Int))) rfl (fun hc24 => ?_) (fun hc24 => ?_)
   ·replace h := cond_t h hc24
    refine run_skip ?_
    refine goes_code ?_
    refine run_seq ?_
    refine run_block ?_
    refine run_seq ?_
    refine run_draw (by kernel_rfl) (by kernel_rfl) ?_
    refine sy rfl rfl (y_fieldAddr_box (sz := 0) Try.runUnderlying31 rfl Try.sizeOf29 rfl) ?_
    refine sy rfl rfl (y_load_box 0 Try.isAgg29 rfl rfl rfl) ?_
    refine sy rfl rfl (y_move rfl) ?_
    obtain ⟨x25, hzx25, hlx25, hxx25, h⟩ := idx_some h
    refine sy rfl rfl (y_indexAddrI (kd := .i64) (i := i_19) 2 Try.runUnderlying29 Try.sizeOf55 rfl rfl rfl reads_ro hzx25 (map_lt hlx25)) ?_
    refine sy rfl rfl (y_load_agg (i := i_19.toNat) (c := [.int .i64 x25.Op, .int .i64 x25.A, .string (bs x25.S)]) 2 Try.isAgg55 Try.sizeOf55 rfl rfl reads_ro (map_get hxx25)) ?_
    refine sy rfl rfl (y_fieldAddr_box (sz := 0) Try.runUnderlying31 rfl Try.sizeOf29 rfl) ?_
    refine sy rfl rfl (y_load_box 3 Try.isAgg29 rfl rfl rfl) ?_
    refine sy rfl rfl (y_move rfl) ?_
    obtain ⟨x26, hzx26, hlx26, hxx26, h⟩ := idx_some h
    refine sy rfl rfl (y_indexAddrI (kd := .i64) (i := i_19) 5 Try.runUnderlying29 Try.sizeOf55 rfl rfl rfl reads_ro hzx26 (map_lt hlx26)) ?_
    refine sy rfl rfl (y_load_agg (i := i_19.toNat) (c := [.int .i64 x26.Op, .int .i64 x26.A, .string (bs x26.S)]) 5 Try.isAgg55 Try.sizeOf55 rfl rfl reads_ro (map_get hxx26)) ?_
    refine sy rfl rfl (y_neS (by kernel_rfl) (by kernel_rfl) Try.runUnderlying55 rfl rfl (.cons (eqf_int (by decide) Try.runUnderlying3 Try.isAgg3 rfl rfl) (.cons (eqf_int (by decide) Try.runUnderlying3 Try.isAgg3 rfl rfl) (.cons (eqf_str (by decide) Try.runUnderlying9 Try.isAgg9 rfl rfl) EqFs.nil)))) ?_
    refine still_nil ?_
    refine goes_code ?_
    refine run_cond (!(decide (x25.Op = x26.Op) && (decide (x25.A = x26.A) && (decide (x25.S = x26.S))))) rfl (fun hc27 => ?_) (fun hc27 => ?_)
    ·replace h := cond_t h hc27
     refine run_seq ?_
     refine run_weak [] [] [] vnil (by decide) rfl ?_
     refine run_region' ?_
     refine oy rfl rfl (y_assign rfl) ?_
     refine ops_nil ?_
     refine goes_code ?_
     refine run_ret ?_
     obtain rfl := some_eq h
     obtain rfl := hstop22 _ rfl
     skip
     obtain rfl := after_stop ho16
     refine fin_slots [4] [.bool false] [] [] Try.results11 rfl (by decide) rfl ?_
     exact ⟨rfl, rfl⟩
    ·replace h := cond_f h hc27
     refine run_skip ?_
     refine goes_blk ?_
     refine goes_code ?_
     refine run_weak [(5, .int .i64 i_19), (2, boxP b1 0), (3, boxP b2 0)] [0, 1, 2, 3, 4, 5] [box b1 [.string (bs a_0.Name), a_0_Effectsv, a_0_Codev], ro a_0_Effectsv 1 (a_0.Effects.map (eInt .i64)), ro a_0_Codev 3 (a_0.Code.map S_api_Instr.enc), box b2 [.string (bs b_1.Name), b_1_Effectsv, b_1_Codev], row b_1_Effectsv 1 (b_1.Effects.map (eInt .i64)), ro b_1_Codev 3 (b_1.Code.map S_api_Instr.enc)] (qv3 rfl rfl rfl) (by decide) rfl ?_
     refine run_region' ?_
     refine oy rfl rfl (y_move rfl) ?_
     refine oy rfl rfl (y_add rfl rfl) ?_
     refine oy rfl rfl (y_assign rfl) ?_
     refine ops_nil ?_
     obtain rfl := some_eq h
     exact goes_iter hgo21 (IntKind.i64.wrap (i_19 + 1)) () [0, 1, 2, 3, 4, 5] rfl (qv3 rfl rfl rfl) (by decide) rfl
   ·replace h := cond_f h hc24
    refine run_exit _ rfl ?_
    obtain rfl := some_eq h
    obtain rfl := hstop22 _ rfl
    exact goes_cut hL17 ((), ()) [] vnil (by decide) rfl rfl
  rintro ⟨_, _⟩ hj
  obtain rfl : o15 = _ := hj
  replace h := after_go ho16
  clear ho16
  change Run _ _ _ (VF.of []) []
  refine run_seq ?_
  refine run_region' ?_
  refine oy rfl rfl (y_assign rfl) ?_
  refine ops_nil ?_
  refine goes_code ?_
  refine run_ret ?_
  obtain rfl := some_eq h
  refine fin_slots [4] [.bool true] [] [] Try.results11 rfl (by decide) rfl ?_
  exact ⟨rfl, rfl⟩

def weirgate_typing_checker_block_53 (deep_2 : Int) : Option (Bool) :=
 some true
theorem weirgate_typing_checker_block_53_ok (deep_2 : Int) (c_0b : Nat) {r : Bool} (h : weirgate_typing_checker_block_53 deep_2 = some r) :
  Meets Try.prog 53 [boxP c_0b 0, .slice none 0 0, .int .i64 deep_2] [box c_0b [.slice none 0 0, .map none, .slice none 0 0]] (fun v G => v = .bool r ∧ G = [box c_0b [.slice none 0 0, .map none, .slice none 0 0]]) := by
 refine fn_of_run Try.func53 rfl Try.ntmps53 rfl (fun w0 o0 => ?_)
 refine run_seq ?_
 refine run_region' ?_
 refine oy rfl rfl (y_assign rfl) ?_
 refine ops_nil ?_
 refine goes_code ?_
 refine run_seq ?_
 refine run_region' ?_
 refine oy rfl rfl (y_move rfl) ?_
 refine oy rfl rfl (y_nilBox rfl) ?_
 refine oy rfl rfl (y_fieldAddr_box (sz := 0) Try.runUnderlying102 rfl Try.sizeOf22 rfl) ?_
 refine oy rfl rfl (y_load_box 0 Try.isAgg22 rfl rfl rfl) ?_
 refine oy rfl rfl (y_len_nil rfl Try.runUnderlying22 rfl) ?_
 refine oy rfl rfl (y_assign rfl) ?_
 refine ops_nil ?_
 refine goes_code ?_
 refine run_seq ?_
 refine run_seq ?_
 refine run_region' ?_
 refine oy rfl rfl (y_move rfl) ?_
 refine oy rfl rfl (y_len_nil rfl Try.runUnderlying23 rfl) ?_
 refine oy rfl rfl (y_move rfl) ?_
 refine ops_nil ?_
 refine goes_code ?_
 refine run_block ?_
 refine run_times 60 ?_
 refine run_seq ?_
 refine run_weak [(0, boxP c_0b 0), (2, .int .i64 deep_2), (7, .int .i64 0), (15, .slice none 0 0), (16, .int .i64 0), (17, .int .i64 0)] [0] [box c_0b [.slice none 0 0, .map none, .slice none 0 0]] (qv6 rfl rfl rfl rfl rfl rfl) (by decide) rfl ?_
 refine run_region' ?_
 refine oy rfl rfl (y_lss rfl rfl) ?_
 refine ops_nil ?_
 refine goes_code ?_
 refine run_seq ?_
 refine run_cond_f rfl ?_
 refine run_exit _ rfl ?_
 refine goes_code ?_
 refine run_seq ?_
 refine run_region' ?_
 refine oy rfl rfl (y_move rfl) ?_
 refine oy rfl rfl (y_move rfl) ?_
 refine oy rfl rfl (y_nilBox rfl) ?_
 refine oy rfl rfl (y_fieldAddr_box (sz := 0) Try.runUnderlying102 rfl Try.sizeOf22 rfl) ?_
 refine oy rfl rfl (y_load_box 0 Try.isAgg22 rfl rfl rfl) ?_
 refine oy rfl rfl (y_move rfl) ?_
 refine oy rfl rfl (y_slice_nil Try.runUnderlying22 Try.sizeOf3 rfl bi0 (bi1 (kd := .i64) rfl)) ?_
 refine oy rfl rfl (y_nilBox rfl) ?_
 refine oy rfl rfl (y_fieldAddr_box (sz := 0) Try.runUnderlying102 rfl Try.sizeOf22 rfl) ?_
 refine ot rfl rfl (t_store 0 Try.sizeOf22 rfl rfl rfl rfl (by simp [Value.cells, boxP]) (by simp [Value.cells, Value.oneCell', boxP])) ?_
 rintro _ _ ⟨rfl, rfl⟩
 refine ops_turn (retell 0 (g := box c_0b [.slice none 0 0, .map none, .slice none 0 0]) rfl rfl) ?_
 refine ops_nil ?_
 refine goes_code ?_
 refine run_seq ?_
 refine run_weak [] [0] [box c_0b [.slice none 0 0, .map none, .slice none 0 0]] vnil (by decide) rfl ?_
 refine run_region' ?_
 refine oy rfl rfl (y_assign rfl) ?_
 refine ops_nil ?_
 refine goes_code ?_
 refine run_ret ?_
 obtain rfl := some_eq h
 refine fin_slots [6] [.bool true] [0] [box c_0b [.slice none 0 0, .map none, .slice none 0 0]] Try.results53 rfl (by decide) rfl ?_
 exact ⟨rfl, rfl⟩

def typing_Right_L1 (p_0 : S_api_Program) : (Int) → Option (Lp (Int) (Lp (Unit) (Bool))) :=
 fun s_6 =>
  cond (decide (s_6 < (p_0.Effects.length : Int)))
   (idx p_0.Effects s_6 fun x12 =>
   bindJ (S := Bool)
    (cond (decide (x12 < 1) || decide (6 < x12))
     (some (.go true))
     (bindJ (S := Bool)
      (cond (decide (0 < s_6))
       (idx p_0.Effects (IntKind.i64.wrap (s_6 - 1)) fun x28 =>
       some (.go (decide (x12 ≤ x28))))
       (some (.go false)))
     (fun b22 =>
      some (.go b22))))
   (fun b16 =>
    cond b16
     (some (.stop (.stop false)))
     (some (.go (IntKind.i64.wrap (s_6 + 1))))))
   (some (.stop (.go ())))
def typing_Right (n : Nat) (p_0 : S_api_Program) : Option (Bool) :=
 bindJ (S := Unit)
  (iter (typing_Right_L1 p_0) n 0)
 (fun _ =>
  obind (weirgate_typing_checker_block_53 1) fun r31 =>
  some r31)
theorem typing_Right_ok (n : Nat) (p_0 : S_api_Program) (p_0_Effectsv : Value) {r : Bool} (h : typing_Right n p_0 = some r) :
  Meets Try.prog 29 [.agg #[.string (bs p_0.Name), p_0_Effectsv, .slice none 0 0]] [ro p_0_Effectsv 1 (p_0.Effects.map (eInt .i64))] (fun v G => v = .bool r ∧ G = []) := by
 refine fn_of_run Try.func29 rfl Try.ntmps29 rfl (fun w0 o0 => ?_)
 refine run_seq ?_
 refine run_region' ?_
 refine ot rfl rfl (t_box rfl) ?_
 rintro _ _ ⟨b1, rfl, rfl⟩
 refine oy rfl rfl (y_assign rfl) ?_
 refine ops_nil ?_
 refine goes_code ?_
 obtain ⟨o2, h, ho3⟩ := bindJ_some h
 refine run_cut ((Unit) × (Unit)) (fun σ => [(1, boxP b1 0)]) (fun σ => [box b1 [.string (bs p_0.Name), p_0_Effectsv, .slice none 0 0], ro p_0_Effectsv 1 (p_0.Effects.map (eInt .i64))]) (fun σ => o2 = .go σ.1) (fun L5 hL4 => ?_) ?_
 ·
  refine run_seq ?_
  refine run_region' ?_
  refine oy rfl rfl (y_fieldAddr_box (sz := 0) Try.runUnderlying25 rfl Try.sizeOf22 rfl) ?_
  refine oy rfl rfl (y_load_box 1 Try.isAgg22 rfl rfl rfl) ?_
  refine oy rfl rfl ((y_len 0 rfl Try.runUnderlying22 rfl rfl reads_ro).to (v_len (eInt .i64) _)) ?_
  refine oy rfl rfl (y_move rfl) ?_
  refine ops_nil ?_
  refine goes_code ?_
  refine run_block ?_
  refine run_iter (step := typing_Right_L1 p_0) (n := n) (s0 := 0) h (G := Unit) () (fun σ γ => [(9, .int .i64 σ), (1, boxP b1 0), (7, p_0_Effectsv), (8, .int .i64 (p_0.Effects.length : Int))]) (fun σ γ => [box b1 [.string (bs p_0.Name), p_0_Effectsv, .slice none 0 0], ro p_0_Effectsv 1 (p_0.Effects.map (eInt .i64))]) [1, 0] (qv4 rfl rfl rfl rfl) (by decide) rfl ?_
  rintro s_6 _ o7 h L10 hgo8 hstop9
  change Run _ _ _ (VF.of [(9, .int .i64 s_6), (1, boxP b1 0), (7, p_0_Effectsv), (8, .int .i64 (p_0.Effects.length : Int))]) [box b1 [.string (bs p_0.Name), p_0_Effectsv, .slice none 0 0], ro p_0_Effectsv 1 (p_0.Effects.map (eInt .i64))]
  refine run_seq ?_
  refine run_region' ?_
  refine oy rfl rfl (y_lss rfl rfl) ?_
  refine ops_nil ?_
  refine goes_code ?_
  refine run_seq ?_
  refine run_cond (decide (s_6 < (p_0.Effects.length : Int))) rfl (fun hc11 => ?_) (fun hc11 => ?_)
  ·replace h := cond_t h hc11
   refine run_skip ?_
   refine goes_code ?_
   refine run_seq ?_
   refine run_block ?_
   refine run_seq ?_
   refine run_region' ?_
   refine oy rfl rfl (y_move rfl) ?_
   obtain ⟨x12, hzx12, hlx12, hxx12, h⟩ := idx_some h
   refine oy rfl rfl (y_indexAddrI (kd := .i64) (i := s_6) 1 Try.runUnderlying22 Try.sizeOf3 rfl rfl rfl reads_ro hzx12 (map_lt hlx12)) ?_
   refine oy rfl rfl (y_load_elem (i := s_6.toNat) 1 Try.isAgg3 rfl rfl reads_ro (map_get hxx12)) ?_
   refine oy rfl rfl (y_assign rfl) ?_
   refine oy rfl rfl (y_assign rfl) ?_
   refine ops_nil ?_
   refine goes_code ?_
   refine run_seq ?_
   refine run_region' ?_
   refine oy rfl rfl (y_move rfl) ?_
   refine oy rfl rfl (y_lss rfl rfl) ?_
   refine oy rfl rfl (y_move rfl) ?_
   refine ops_cut 3 (Bool) (fun σ => [(9, .int .i64 s_6), (1, boxP b1 0), (7, p_0_Effectsv), (8, .int .i64 (p_0.Effects.length : Int)), (3, .int .i64 s_6), (4, .int .i64 x12), (19, .bool σ)]) (fun σ => [box b1 [.string (bs p_0.Name), p_0_Effectsv, .slice none 0 0], ro p_0_Effectsv 1 (p_0.Effects.map (eInt .i64))]) (fun σ => σ = (decide (x12 < 1) || decide (6 < x12))) (fun L13 hL14 => ?_) ?_
   ·refine ops_split 16 (decide (x12 < 1)) rfl (fun hg15 => ?_) (fun hg15 => ?_)
    ·skip
     refine ops_no 2 false 16 rfl rfl rfl rfl rfl ?_
     refine ops_no 2 false 16 rfl rfl rfl rfl rfl ?_
     refine oy rfl rfl (y_pick (b := true) rfl rfl) ?_
     refine ops_nil ?_
     exact goes_cut hL14 true [0, 1] (qv7 rfl rfl rfl rfl rfl rfl rfl) (by decide) rfl (by rw [hg15]; simp)
    ·skip
     refine ops_y (wg 2 false 16 rfl rfl rfl rfl) rfl (y_move rfl) ?_
     refine ops_y (wg 2 false 16 rfl rfl rfl rfl) rfl (y_gtr rfl rfl) ?_
     refine oy rfl rfl (y_pick (b := false) rfl rfl) ?_
     refine ops_nil ?_
     exact goes_cut hL14 (decide (6 < x12)) [0, 1] (qv7 rfl rfl rfl rfl rfl rfl rfl) (by decide) rfl (by rw [hg15]; simp)
   rintro _ rfl
   refine oy rfl rfl (y_move rfl) ?_
   obtain ⟨o17, h, ho18⟩ := bindJ_some h
   refine ops_cut 13 (Bool) (fun σ => [(9, .int .i64 s_6), (1, boxP b1 0), (7, p_0_Effectsv), (8, .int .i64 (p_0.Effects.length : Int)), (33, .bool σ)]) (fun σ => [box b1 [.string (bs p_0.Name), p_0_Effectsv, .slice none 0 0], ro p_0_Effectsv 1 (p_0.Effects.map (eInt .i64))]) (fun σ => o17 = .go σ) (fun L19 hL20 => ?_) ?_
   ·refine ops_split 20 (decide (x12 < 1) || decide (6 < x12)) rfl (fun hg21 => ?_) (fun hg21 => ?_)
    ·replace h := cond_t h hg21
     refine ops_no 6 false 20 rfl rfl rfl rfl rfl ?_
     refine ops_no 6 false 20 rfl rfl rfl rfl rfl ?_
     refine ops_no 6 false 20 rfl rfl rfl rfl rfl ?_
     refine ops_un 9 true 23 rfl rfl rfl rfl rfl ?_
     refine ops_un 9 true 23 rfl rfl rfl rfl rfl ?_
     refine ops_un 9 true 23 rfl rfl rfl rfl rfl ?_
     refine ops_un 9 true 23 rfl rfl rfl rfl rfl ?_
     refine ops_un 9 true 23 rfl rfl rfl rfl rfl ?_
     refine ops_un 9 true 23 rfl rfl rfl rfl rfl ?_
     refine ops_un 9 true 23 rfl rfl rfl rfl rfl ?_
     refine ops_un 9 true 23 rfl rfl rfl rfl rfl ?_
     refine ops_no 6 false 20 rfl rfl rfl rfl rfl ?_
     refine oy rfl rfl (y_pick (b := true) rfl rfl) ?_
     refine ops_nil ?_
     obtain rfl := some_eq h
     exact goes_cut hL20 true [0, 1] (qv5 rfl rfl rfl rfl rfl) (by decide) rfl rfl
    ·replace h := cond_f h hg21
     refine ops_y (wg 6 false 20 rfl rfl rfl rfl) rfl (y_move rfl) ?_
     refine ops_y (wg 6 false 20 rfl rfl rfl rfl) rfl (y_gtr rfl rfl) ?_
     refine ops_y (wg 6 false 20 rfl rfl rfl rfl) rfl (y_move rfl) ?_
     obtain ⟨o23, h, ho24⟩ := bindJ_some h
     refine ops_cut 9 (Bool) (fun σ => [(9, .int .i64 s_6), (1, boxP b1 0), (7, p_0_Effectsv), (8, .int .i64 (p_0.Effects.length : Int)), (20, .bool false), (32, .bool σ)]) (fun σ => [box b1 [.string (bs p_0.Name), p_0_Effectsv, .slice none 0 0], ro p_0_Effectsv 1 (p_0.Effects.map (eInt .i64))]) (fun σ => o23 = .go σ) (fun L25 hL26 => ?_) ?_
     ·refine ops_split 23 (decide (0 < s_6)) rfl (fun hg27 => ?_) (fun hg27 => ?_)
      ·replace h := cond_t h hg27
       refine ops_y (wg 9 true 23 rfl rfl rfl rfl) rfl (y_move rfl) ?_
       refine ops_y (wg 9 true 23 rfl rfl rfl rfl) rfl (y_fieldAddr_box (sz := 0) Try.runUnderlying25 rfl Try.sizeOf22 rfl) ?_
       refine ops_y (wg 9 true 23 rfl rfl rfl rfl) rfl (y_load_box 0 Try.isAgg22 rfl rfl rfl) ?_
       refine ops_y (wg 9 true 23 rfl rfl rfl rfl) rfl (y_move rfl) ?_
       refine ops_y (wg 9 true 23 rfl rfl rfl rfl) rfl (y_sub rfl rfl) ?_
       obtain ⟨x28, hzx28, hlx28, hxx28, h⟩ := idx_some h
       refine ops_y (wg 9 true 23 rfl rfl rfl rfl) rfl (y_indexAddrI (kd := .i64) (i := (IntKind.i64.wrap (s_6 - 1))) 1 Try.runUnderlying22 Try.sizeOf3 rfl rfl rfl reads_ro hzx28 (map_lt hlx28)) ?_
       refine ops_y (wg 9 true 23 rfl rfl rfl rfl) rfl (y_load_elem (i := ((IntKind.i64.wrap (s_6 - 1))).toNat) 1 Try.isAgg3 rfl rfl reads_ro (map_get hxx28)) ?_
       refine ops_y (wg 9 true 23 rfl rfl rfl rfl) rfl (y_leq rfl rfl) ?_
       refine ops_y (wg 6 false 20 rfl rfl rfl rfl) rfl (y_pick (b := true) rfl rfl) ?_
       refine ops_nil ?_
       obtain rfl := some_eq h
       exact goes_cut hL26 (decide (x12 ≤ x28)) [0, 1] (qv6 rfl rfl rfl rfl rfl rfl) (by decide) rfl rfl
      ·replace h := cond_f h hg27
       refine ops_no 9 true 23 rfl rfl rfl rfl rfl ?_
       refine ops_no 9 true 23 rfl rfl rfl rfl rfl ?_
       refine ops_no 9 true 23 rfl rfl rfl rfl rfl ?_
       refine ops_no 9 true 23 rfl rfl rfl rfl rfl ?_
       refine ops_no 9 true 23 rfl rfl rfl rfl rfl ?_
       refine ops_no 9 true 23 rfl rfl rfl rfl rfl ?_
       refine ops_no 9 true 23 rfl rfl rfl rfl rfl ?_
       refine ops_no 9 true 23 rfl rfl rfl rfl rfl ?_
       refine ops_y (wg 6 false 20 rfl rfl rfl rfl) rfl (y_pick (b := false) rfl rfl) ?_
       refine ops_nil ?_
       obtain rfl := some_eq h
       exact goes_cut hL26 false [0, 1] (qv6 rfl rfl rfl rfl rfl rfl) (by decide) rfl rfl
     rintro b22 hj
     obtain rfl : o23 = _ := hj
     replace h := after_go ho24
     clear ho24
     refine oy rfl rfl (y_pick (b := false) rfl rfl) ?_
     refine ops_nil ?_
     obtain rfl := some_eq h
     exact goes_cut hL20 b22 [0, 1] (qv5 rfl rfl rfl rfl rfl) (by decide) rfl rfl
   rintro b16 hj
   obtain rfl : o17 = _ := hj
   replace h := after_go ho18
   clear ho18
   refine ops_nil ?_
   refine goes_code ?_
   refine run_cond b16 rfl (fun hc29 => ?_) (fun hc29 => ?_)
   ·replace h := cond_t h hc29
    refine run_seq ?_
    refine run_region' ?_
    refine oy rfl rfl (y_assign rfl) ?_
    refine ops_nil ?_
    refine goes_code ?_
    refine run_ret ?_
    obtain rfl := some_eq h
    obtain rfl := hstop9 _ rfl
    skip
    obtain rfl := after_stop ho3
    refine fin_slots [2] [.bool false] [] [] Try.results29 rfl (by decide) rfl ?_
    exact ⟨rfl, rfl⟩
   ·replace h := cond_f h hc29
    refine run_skip ?_
    refine goes_blk ?_
    refine goes_code ?_
    refine run_region' ?_
    refine oy rfl rfl (y_add rfl rfl) ?_
    refine oy rfl rfl (y_move rfl) ?_
    refine ops_nil ?_
    obtain rfl := some_eq h
    exact goes_iter hgo8 (IntKind.i64.wrap (s_6 + 1)) () [0, 1] rfl (qv4 rfl rfl rfl rfl) (by decide) rfl
  ·replace h := cond_f h hc11
   refine run_exit _ rfl ?_
   obtain rfl := some_eq h
   obtain rfl := hstop9 _ rfl
   exact goes_cut hL4 ((), ()) [0, 1] (qv1 rfl) (by decide) rfl rfl
 rintro ⟨_, _⟩ hj
 obtain rfl : o2 = _ := hj
 replace h := after_go ho3
 clear ho3
 change Run _ _ _ (VF.of [(1, boxP b1 0)]) [box b1 [.string (bs p_0.Name), p_0_Effectsv, .slice none 0 0], ro p_0_Effectsv 1 (p_0.Effects.map (eInt .i64))]
 refine run_seq ?_
 refine run_region' ?_
 refine oy rfl rfl (y_build_struct (cells := #[.slice none 0 0, .map none, .slice none 0 0]) [] [] Try.zeroValue102 Try.runUnderlying102 (fs_cons Try.sizeOf100 (fs_cons Try.sizeOf22 fs_nil)) rfl rfl rfl) ?_
 refine ot rfl rfl (t_box rfl) ?_
 rintro _ _ ⟨b30, rfl, rfl⟩
 refine oy rfl rfl (y_assign rfl) ?_
 refine ops_nil ?_
 refine goes_code ?_
 refine run_seq ?_
 refine run_region' ?_
 refine oy rfl rfl (y_move rfl) ?_
 refine oy rfl rfl (y_fieldAddr_box (sz := 0) Try.runUnderlying25 rfl Try.sizeOf23 rfl) ?_
 refine oy rfl rfl (y_load_box 0 Try.isAgg23 rfl rfl rfl) ?_
 obtain ⟨r31, hr32, h⟩ := obind_some h
 refine ot rfl rfl (t_callx (vs := [boxP b30 0, .slice none 0 0, .int .i64 1]) (cs := []) [(2, 2)] rfl Try.call53 rfl (weirgate_typing_checker_block_53_ok  1 b30 hr32) (showsX_lend 2 rfl showsX_nil) rfl (.inl rfl)) ?_
 rintro _ _ ⟨_, ⟨rfl, rfl⟩, rfl⟩
 refine oy rfl rfl (y_assign rfl) ?_
 refine ops_nil ?_
 refine goes_code ?_
 refine run_ret ?_
 obtain rfl := some_eq h
 refine fin_slots [2] [.bool r31] [] [] Try.results29 rfl (by decide) rfl ?_
 exact ⟨rfl, rfl⟩

end Go.Proofs.Ytgjdaamkfpbgpaa
