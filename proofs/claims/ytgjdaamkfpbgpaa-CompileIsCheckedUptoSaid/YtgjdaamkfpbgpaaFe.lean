/-
  Functions of the program, lifted: part 5.
-/
import Derived.Test.YtgjdaamkfpbgpaaFd
namespace Go.Proofs.Ytgjdaamkfpbgpaa
open Go.Abs
set_option linter.unusedVariables false
set_option linter.unusedSimpArgs false
set_option maxRecDepth 20000
set_option maxHeartbeats 4000000

def compile_Check_L1 (n : Nat) (m_0 : S_api_Module) : (Int × (List (Int × S_compile_types))) → Option (Lp (Int × (List (Int × S_compile_types))) (Lp ((List (Int × S_compile_types))) (Int))) :=
 fun (s_22, x_23) =>
  cond (decide (s_22 < (m_0.Code.length : Int)))
   (idx m_0.Code s_22 fun x29 =>
   cond (!((mget x_23 s_22).isSome))
    (some (.stop (.stop 280)))
    (obind (weirgate_compile_types_after_32 n (S_compile_types.mk (((mget x_23 s_22).getD (S_compile_types.mk [] [] [])).stack_) (((mget x_23 s_22).getD (S_compile_types.mk [] [] [])).slots_) (((mget x_23 s_22).getD (S_compile_types.mk [] [] [])).loops_)) x29 s_22) fun r39 =>
    cond (!r39.2)
     (some (.stop (.stop 280)))
     (bindJ (S := (List (Int × S_compile_types)))
      (cond ((decide (x29.Op = 37) || decide (x29.Op = 38)) || decide (x29.Op = 40))
       (bindJ (S := Bool)
        (cond (decide (x29.A < 0) || decide ((m_0.Code.length : Int) < x29.A))
         (some (.go true))
         (bindJ (S := Bool)
          (cond (decide (x29.A ≤ s_22))
           (bindJ (S := Bool)
            (cond (decide (x29.Op ≠ 37))
             (some (.go true))
             (idx m_0.Code x29.A fun x81 =>
             some (.go (decide (x81.Op ≠ 40)))))
           (fun b75 =>
            some (.go b75)))
           (some (.go false)))
         (fun b69 =>
          some (.go b69))))
       (fun b63 =>
        cond b63
         (some (.stop (.stop (.stop 280))))
         (bindJ (S := (List Int))
          (cond (decide (x29.Op = 40))
           (need (0 ≤ (0 : Int) ∧ 0 ≤ (IntKind.i64.wrap ((r39.1.loops_.length : Int) - 1)) ∧ (IntKind.i64.wrap ((r39.1.loops_.length : Int) - 1)) ≤ (r39.1.loops_.length : Int)) (
           some (.go (r39.1.loops_.take (((IntKind.i64.wrap ((r39.1.loops_.length : Int) - 1))).toNat)))))
           (some (.go r39.1.loops_)))
         (fun x_87 =>
          obind (compile_Check_1_30 n x29.A (S_compile_types.mk r39.1.stack_ r39.1.slots_ x_87) x_23) fun r96 =>
          cond (!r96.1)
           (some (.stop (.stop (.stop 280))))
           (some (.go r96.2))))))
       (some (.go x_23)))
     (fun x_48 =>
      bindJ (S := Bool × (List (Int × S_compile_types)))
       (cond (decide (x29.Op ≠ 37))
        (obind (compile_Check_1_30 n (IntKind.i64.wrap (s_22 + 1)) r39.1 x_48) fun r106 =>
        some (.go ((!r106.1), r106.2)))
        (some (.go (false, x_48))))
      (fun (b99, y102) =>
       cond b99
        (some (.stop (.stop 280)))
        (some (.go ((IntKind.i64.wrap (s_22 + 1)), y102))))))))
   (some (.stop (.go x_23)))
def compile_Check (n : Nat) (m_0 : S_api_Module) : Option (Int) :=
 bindJ (S := Bool)
  (cond (decide (65536 < (m_0.Code.length : Int)) || decide (200 < (m_0.Name.length : Int)))
   (some (.go true))
   (obind (typing_Right n (S_api_Program.mk [] m_0.Effects [])) fun r12 =>
   some (.go (!r12))))
 (fun b5 =>
  cond b5
   (some 280)
   (bindJ (S := (List (Int × S_compile_types)))
    (iter (compile_Check_L1 n m_0) n (0, (mput ([] : (List (Int × S_compile_types))) (0 : Int) (S_compile_types.mk [] [] []))))
   (fun x_17 =>
    cond (decide (0 < ((((mget x_17 (m_0.Code.length : Int)).getD (S_compile_types.mk [] [] [])).stack_).length : Int)) || decide (0 < ((((mget x_17 (m_0.Code.length : Int)).getD (S_compile_types.mk [] [] [])).loops_).length : Int)))
     (some 280)
     (some 0))))
theorem compile_Check_ok (n : Nat) (m_0 : S_api_Module) (m_0_Effectsv : Value) (m_0_Codev : Value) {r : Int} (h : compile_Check n m_0 = some r) :
  Meets Try.prog 14 [.agg #[.string (bs m_0.Name), m_0_Effectsv, m_0_Codev]] [ro m_0_Effectsv 1 (m_0.Effects.map (eInt .i64)), ro m_0_Codev 3 (m_0.Code.map S_api_Instr.enc)] (fun v G => v = .int .i64 r ∧ G = []) := by
 refine fn_of_run Try.func14 rfl Try.ntmps14 rfl (fun w0 o0 => ?_)
 refine run_seq ?_
 refine run_region' ?_
 refine ot rfl rfl (t_box rfl) ?_
 rintro _ _ ⟨b1, rfl, rfl⟩
 refine oy rfl rfl (y_assign rfl) ?_
 refine ops_nil ?_
 refine goes_code ?_
 refine run_seq ?_
 refine run_region' ?_
 refine oy rfl rfl (y_fieldAddr_box (sz := 0) Try.runUnderlying31 rfl Try.sizeOf29 rfl) ?_
 refine oy rfl rfl (y_load_box 2 Try.isAgg29 rfl rfl rfl) ?_
 refine oy rfl rfl ((y_len 1 rfl Try.runUnderlying29 rfl rfl reads_ro).to (v_len S_api_Instr.enc _)) ?_
 refine oy rfl rfl (y_assign rfl) ?_
 refine ops_nil ?_
 refine goes_code ?_
 refine run_seq ?_
 refine run_seq ?_
 refine run_region' ?_
 refine oy rfl rfl (y_move rfl) ?_
 refine oy rfl rfl (y_gtr rfl rfl) ?_
 refine oy rfl rfl (y_move rfl) ?_
 refine ops_cut 5 (Bool) (fun σ => [(1, boxP b1 0), (3, .int .i64 (m_0.Code.length : Int)), (22, .bool σ)]) (fun σ => [ro m_0_Effectsv 1 (m_0.Effects.map (eInt .i64)), ro m_0_Codev 3 (m_0.Code.map S_api_Instr.enc), box b1 [.string (bs m_0.Name), m_0_Effectsv, m_0_Codev]]) (fun σ => σ = (decide (65536 < (m_0.Code.length : Int)) || decide (200 < (m_0.Name.length : Int)))) (fun L2 hL3 => ?_) ?_
 ·refine ops_split 17 (decide (65536 < (m_0.Code.length : Int))) rfl (fun hg4 => ?_) (fun hg4 => ?_)
  ·skip
   refine ops_no 2 false 17 rfl rfl rfl rfl rfl ?_
   refine ops_no 2 false 17 rfl rfl rfl rfl rfl ?_
   refine ops_no 2 false 17 rfl rfl rfl rfl rfl ?_
   refine ops_no 2 false 17 rfl rfl rfl rfl rfl ?_
   refine oy rfl rfl (y_pick (b := true) rfl rfl) ?_
   refine ops_nil ?_
   exact goes_cut hL3 true [0, 1, 2] (qv3 rfl rfl rfl) (by decide) rfl (by rw [hg4]; simp)
  ·skip
   refine ops_y (wg 2 false 17 rfl rfl rfl rfl) rfl (y_fieldAddr_box (sz := 0) Try.runUnderlying31 rfl Try.sizeOf9 rfl) ?_
   refine ops_y (wg 2 false 17 rfl rfl rfl rfl) rfl (y_load_box 2 Try.isAgg9 rfl rfl rfl) ?_
   refine ops_y (wg 2 false 17 rfl rfl rfl rfl) rfl (y_len_str rfl Try.runUnderlying9 rfl) ?_
   refine ops_y (wg 2 false 17 rfl rfl rfl rfl) rfl (y_gtr rfl rfl) ?_
   refine oy rfl rfl (y_pick (b := false) rfl rfl) ?_
   refine ops_nil ?_
   exact goes_cut hL3 (decide (200 < (m_0.Name.length : Int))) [0, 1, 2] (qv3 rfl rfl rfl) (by decide) rfl (by rw [hg4]; simp)
 rintro _ rfl
 refine oy rfl rfl (y_move rfl) ?_
 obtain ⟨o6, h, ho7⟩ := bindJ_some h
 refine ops_cut 6 (Bool) (fun σ => [(1, boxP b1 0), (3, .int .i64 (m_0.Code.length : Int)), (29, .bool σ)]) (fun σ => [ro m_0_Effectsv 1 (m_0.Effects.map (eInt .i64)), ro m_0_Codev 3 (m_0.Code.map S_api_Instr.enc), box b1 [.string (bs m_0.Name), m_0_Effectsv, m_0_Codev]]) (fun σ => o6 = .go σ) (fun L8 hL9 => ?_) ?_
 ·refine ops_split 23 (decide (65536 < (m_0.Code.length : Int)) || decide (200 < (m_0.Name.length : Int))) rfl (fun hg10 => ?_) (fun hg10 => ?_)
  ·replace h := cond_t h hg10
   refine ops_no 8 false 23 rfl rfl rfl rfl rfl ?_
   refine ops_no 8 false 23 rfl rfl rfl rfl rfl ?_
   refine ops_no 8 false 23 rfl rfl rfl rfl rfl ?_
   refine ops_no 8 false 23 rfl rfl rfl rfl rfl ?_
   refine ops_no 8 false 23 rfl rfl rfl rfl rfl ?_
   refine oy rfl rfl (y_pick (b := true) rfl rfl) ?_
   refine ops_nil ?_
   obtain rfl := some_eq h
   exact goes_cut hL9 true [0, 1, 2] (qv3 rfl rfl rfl) (by decide) rfl rfl
  ·replace h := cond_f h hg10
   refine ops_y (wg 8 false 23 rfl rfl rfl rfl) rfl (y_fieldAddr_box (sz := 0) Try.runUnderlying31 rfl Try.sizeOf22 rfl) ?_
   refine ops_y (wg 8 false 23 rfl rfl rfl rfl) rfl (y_load_box 2 Try.isAgg22 rfl rfl rfl) ?_
   refine ops_slc 0 rfl reads_ro (fun hs11 hs11o => ?_)
   refine ops_y (wg 8 false 23 rfl rfl rfl rfl) rfl (y_build_struct (cells := #[.string (bs []), m_0_Effectsv, .slice none 0 0]) [(1, m_0_Effectsv)] [(1, [m_0_Effectsv])] Try.zeroValue25 Try.runUnderlying25 (fs_cons Try.sizeOf9 (fs_cons Try.sizeOf22 (fs_cons Try.sizeOf23 fs_nil))) rfl (by first | (simp only [List.map_cons, List.map_nil, hs11]; done) | (simp only [List.map_cons, List.map_nil, hs11]; rfl)) rfl) ?_
   obtain ⟨r12, hr13, h⟩ := obind_some h
   refine ops_t (wg 8 false 23 rfl rfl rfl rfl) rfl (t_callx (vs := [.agg #[.string (bs []), m_0_Effectsv, .slice none 0 0]]) (cs := []) [(0, 0)] rfl Try.call29 rfl (typing_Right_ok n  (S_api_Program.mk [] m_0.Effects []) m_0_Effectsv hr13) (showsX_view 0 rfl views_ro showsX_nil) rfl (.inl rfl)) ?_
   rintro _ _ ⟨_, ⟨rfl, rfl⟩, rfl⟩
   refine ops_y (wg 8 false 23 rfl rfl rfl rfl) rfl (y_not rfl) ?_
   refine oy rfl rfl (y_pick (b := false) rfl rfl) ?_
   refine ops_nil ?_
   obtain rfl := some_eq h
   exact goes_cut hL9 (!r12) [0, 1, 2] (qv3 rfl rfl rfl) (by decide) rfl rfl
 rintro b5 hj
 obtain rfl : o6 = _ := hj
 replace h := after_go ho7
 clear ho7
 refine ops_nil ?_
 refine goes_code ?_
 refine run_cond b5 rfl (fun hc14 => ?_) (fun hc14 => ?_)
 ·replace h := cond_t h hc14
  refine run_seq ?_
  refine run_region' ?_
  refine oy rfl rfl (y_assign rfl) ?_
  refine ops_nil ?_
  refine goes_code ?_
  refine run_ret ?_
  obtain rfl := some_eq h
  refine fin_slots [2] [.int .i64 280] [] [] Try.results14 rfl (by decide) rfl ?_
  exact ⟨rfl, rfl⟩
 ·replace h := cond_f h hc14
  refine run_skip ?_
  refine goes_code ?_
  refine run_seq ?_
  refine run_region' ?_
  refine ot rfl rfl (t_makeMap) ?_
  rintro _ _ ⟨b15, rfl, rfl⟩
  refine ops_turn (turn_nmap0 (K := (fun n : Int => Value.int .i64 n)) (C := NC_compile_types_71) 3 rfl) ?_
  refine oy rfl rfl (y_build_struct (cells := #[.slice none 0 0, .slice none 0 0, .slice none 0 0]) [] [] Try.zeroValue71 Try.runUnderlying71 (fs_cons Try.sizeOf22 (fs_cons Try.sizeOf22 (fs_cons Try.sizeOf22 fs_nil))) rfl rfl rfl) ?_
  refine ot rfl rfl (t_nput (C := NC_compile_types_71) (k := (0 : Int)) (v := (S_compile_types.mk [] [] [])) ((.slice none 0 0), (.slice none 0 0), (.slice none 0 0)) 3 (key_int .i64) Try.runUnderlying72 Try.runUnderlying3 rfl rfl rfl rfl (has_true nil_ro_any (has_true nil_ro_any (has_true nil_ro_any has_nil))) true) ?_
  rintro _ _ ⟨rfl, rfl⟩
  refine oy rfl rfl (y_move rfl) ?_
  refine ot rfl rfl (t_alloc Try.zeroValue72) ?_
  rintro _ _ ⟨b16, rfl, rfl⟩
  refine ot rfl rfl (t_store 4 Try.sizeOf72 rfl rfl rfl rfl (by simp [Value.cells, mapV, boxP]) (by simp [Value.cells, Value.oneCell', mapV, boxP])) ?_
  rintro _ _ ⟨rfl, rfl⟩
  refine ops_turn (retell 4 (g := box b16 [.map (some b15)]) rfl rfl) ?_
  refine ops_nil ?_
  refine goes_code ?_
  refine run_seq ?_
  refine run_region' ?_
  refine oy rfl rfl (y_makeFunc (vs := [boxP b16 0]) rfl) ?_
  refine oy rfl rfl (y_assign rfl) ?_
  refine ops_nil ?_
  refine goes_code ?_
  obtain ⟨o18, h, ho19⟩ := bindJ_some h
  refine run_cut (((List (Int × S_compile_types))) × (Unit)) (fun σ => [(3, .int .i64 (m_0.Code.length : Int)), (4, boxP b16 0)]) (fun σ => [box b16 [.map (some b15)], nmap b15 (fun n : Int => Value.int .i64 n) NC_compile_types_71 σ.1]) (fun σ => o18 = .go σ.1) (fun L21 hL20 => ?_) ?_
  ·
   refine run_seq ?_
   refine run_weak [(1, boxP b1 0), (3, .int .i64 (m_0.Code.length : Int)), (4, boxP b16 0), (5, .func (.func 30) #[] #[boxP b16 0])] [0, 1, 2, 3, 4] [ro m_0_Effectsv 1 (m_0.Effects.map (eInt .i64)), ro m_0_Codev 3 (m_0.Code.map S_api_Instr.enc), box b1 [.string (bs m_0.Name), m_0_Effectsv, m_0_Codev], nmap b15 (fun n : Int => Value.int .i64 n) NC_compile_types_71 (mput ([] : (List (Int × S_compile_types))) (0 : Int) (S_compile_types.mk [] [] [])), box b16 [.map (some b15)]] (qv4 rfl rfl rfl rfl) (by decide) rfl ?_
   refine run_region' ?_
   refine oy rfl rfl (y_fieldAddr_box (sz := 0) Try.runUnderlying31 rfl Try.sizeOf29 rfl) ?_
   refine oy rfl rfl (y_load_box 2 Try.isAgg29 rfl rfl rfl) ?_
   refine oy rfl rfl ((y_len 1 rfl Try.runUnderlying29 rfl rfl reads_ro).to (v_len S_api_Instr.enc _)) ?_
   refine oy rfl rfl (y_move rfl) ?_
   refine ops_nil ?_
   refine goes_code ?_
   refine run_block ?_
   refine run_iter (step := compile_Check_L1 n m_0) (n := n) (s0 := (0, (mput ([] : (List (Int × S_compile_types))) (0 : Int) (S_compile_types.mk [] [] [])))) h (G := Unit) () (fun σ γ => [(37, .int .i64 σ.1), (1, boxP b1 0), (3, .int .i64 (m_0.Code.length : Int)), (4, boxP b16 0), (5, .func (.func 30) #[] #[boxP b16 0]), (35, m_0_Codev), (36, .int .i64 (m_0.Code.length : Int))]) (fun σ γ => [box b1 [.string (bs m_0.Name), m_0_Effectsv, m_0_Codev], ro m_0_Effectsv 1 (m_0.Effects.map (eInt .i64)), ro m_0_Codev 3 (m_0.Code.map S_api_Instr.enc), box b16 [.map (some b15)], nmap b15 (fun n : Int => Value.int .i64 n) NC_compile_types_71 σ.2]) [2, 0, 1, 4, 3] (qv7 rfl rfl rfl rfl rfl rfl rfl) (by decide) rfl ?_
   rintro ⟨s_22, x_23⟩ _ o24 h L27 hgo25 hstop26
   change Run _ _ _ (VF.of [(37, .int .i64 s_22), (1, boxP b1 0), (3, .int .i64 (m_0.Code.length : Int)), (4, boxP b16 0), (5, .func (.func 30) #[] #[boxP b16 0]), (35, m_0_Codev), (36, .int .i64 (m_0.Code.length : Int))]) [box b1 [.string (bs m_0.Name), m_0_Effectsv, m_0_Codev], ro m_0_Effectsv 1 (m_0.Effects.map (eInt .i64)), ro m_0_Codev 3 (m_0.Code.map S_api_Instr.enc), box b16 [.map (some b15)], nmap b15 (fun n : Int => Value.int .i64 n) NC_compile_types_71 x_23]
   refine run_seq ?_
   refine run_region' ?_
   refine oy rfl rfl (y_lss rfl rfl) ?_
   refine ops_nil ?_
   refine goes_code ?_
   refine run_seq ?_
   refine run_cond (decide (s_22 < (m_0.Code.length : Int))) rfl (fun hc28 => ?_) (fun hc28 => ?_)
   ·replace h := cond_t h hc28
    refine run_skip ?_
    refine goes_code ?_
    refine run_seq ?_
    refine run_block ?_
    refine run_seq ?_
    refine run_region' ?_
    refine oy rfl rfl (y_move rfl) ?_
    obtain ⟨x29, hzx29, hlx29, hxx29, h⟩ := idx_some h
    refine oy rfl rfl (y_indexAddrI (kd := .i64) (i := s_22) 2 Try.runUnderlying29 Try.sizeOf55 rfl rfl rfl reads_ro hzx29 (map_lt hlx29)) ?_
    refine oy rfl rfl (y_load_agg (i := s_22.toNat) (c := [.int .i64 x29.Op, .int .i64 x29.A, .string (bs x29.S)]) 2 Try.isAgg55 Try.sizeOf55 rfl rfl reads_ro (map_get hxx29)) ?_
    refine ot rfl rfl (t_alloc Try.zeroValue55) ?_
    rintro _ _ ⟨b30, rfl, rfl⟩
    refine oy rfl rfl (y_assign rfl) ?_
    refine ot rfl rfl (t_store 5 Try.sizeOf55 rfl rfl rfl rfl (by simp [Value.cells, boxP]) (by simp [Value.cells, Value.oneCell', boxP])) ?_
    rintro _ _ ⟨rfl, rfl⟩
    refine ops_turn (retell 5 (g := box b30 [.int .i64 x29.Op, .int .i64 x29.A, .string (bs x29.S)]) rfl rfl) ?_
    refine ops_nil ?_
    refine goes_code ?_
    refine run_seq ?_
    refine run_region' ?_
    refine oy rfl rfl (y_load_box 3 Try.isAgg72 rfl rfl rfl) ?_
    refine oy rfl rfl (y_move rfl) ?_
    refine ot rfl rfl (t_nlookup2 (C := NC_compile_types_71) (k := s_22) (z0 := (S_compile_types.mk [] [] [])) (q := ((mget x_23 s_22).getD (S_compile_types.mk [] [] []))) (g0 := ((.slice none 0 0), (.slice none 0 0), (.slice none 0 0))) 4 (key_int .i64) Try.runUnderlying72 Try.runUnderlying3 Try.zeroValue71 (has_all (has_true nil_ro_any (has_true nil_ro_any (has_true nil_ro_any has_nil)))) rfl rfl rfl rfl) ?_
    rintro _ _ ⟨⟨g31, g32, g33⟩, rfl, rfl⟩
    refine oy rfl rfl (y_move rfl) ?_
    refine oy rfl rfl (y_extract rfl rfl) ?_
    refine oy rfl rfl (y_extract rfl rfl) ?_
    refine ot rfl rfl (t_alloc Try.zeroValue71) ?_
    rintro _ _ ⟨b34, rfl, rfl⟩
    refine ops_slc 6 rfl reads_ro (fun hs35 hs35o => ?_)
    refine ops_slc 7 rfl reads_ro (fun hs36 hs36o => ?_)
    refine ops_slc 8 rfl reads_ro (fun hs37 hs37o => ?_)
    refine ot rfl rfl (t_store 9 Try.sizeOf71 rfl rfl rfl rfl (by simp [Value.cells, boxP]) (allL_cons hs35o (allL_cons hs36o (allL_cons hs37o (allL_nil))))) ?_
    rintro _ _ ⟨rfl, rfl⟩
    refine ops_turn (retell 9 (g := box b34 [g31, g32, g33]) rfl rfl) ?_
    refine oy rfl rfl (y_assign rfl) ?_
    refine ops_nil ?_
    refine goes_code ?_
    refine run_seq ?_
    refine run_seq ?_
    refine run_weak [(37, .int .i64 s_22), (1, boxP b1 0), (3, .int .i64 (m_0.Code.length : Int)), (4, boxP b16 0), (5, .func (.func 30) #[] #[boxP b16 0]), (35, m_0_Codev), (36, .int .i64 (m_0.Code.length : Int)), (7, boxP b30 0), (6, .int .i64 s_22), (8, boxP b34 0), (9, .bool ((mget x_23 s_22).isSome))] [0, 1, 2, 3, 4, 5, 6, 7, 8, 9] [box b1 [.string (bs m_0.Name), m_0_Effectsv, m_0_Codev], ro m_0_Effectsv 1 (m_0.Effects.map (eInt .i64)), ro m_0_Codev 3 (m_0.Code.map S_api_Instr.enc), box b16 [.map (some b15)], nmap b15 (fun n : Int => Value.int .i64 n) NC_compile_types_71 x_23, box b30 [.int .i64 x29.Op, .int .i64 x29.A, .string (bs x29.S)], ro g31 1 ((((mget x_23 s_22).getD (S_compile_types.mk [] [] [])).stack_).map (eInt .i64)), ro g32 1 ((((mget x_23 s_22).getD (S_compile_types.mk [] [] [])).slots_).map (eInt .i64)), ro g33 1 ((((mget x_23 s_22).getD (S_compile_types.mk [] [] [])).loops_).map (eInt .i64)), box b34 [g31, g32, g33]] (qv11 rfl rfl rfl rfl rfl rfl rfl rfl rfl rfl rfl) (by decide) rfl ?_
    refine run_region' ?_
    refine oy rfl rfl (y_move rfl) ?_
    refine oy rfl rfl (y_not rfl) ?_
    refine ops_nil ?_
    refine goes_code ?_
    refine run_cond (!((mget x_23 s_22).isSome)) rfl (fun hc38 => ?_) (fun hc38 => ?_)
    ·replace h := cond_t h hc38
     refine run_seq ?_
     refine run_region' ?_
     refine oy rfl rfl (y_assign rfl) ?_
     refine ops_nil ?_
     refine goes_code ?_
     refine run_ret ?_
     obtain rfl := some_eq h
     obtain rfl := hstop26 _ rfl
     skip
     obtain rfl := after_stop ho19
     refine fin_slots [2] [.int .i64 280] [] [] Try.results14 rfl (by decide) rfl ?_
     exact ⟨rfl, rfl⟩
    ·replace h := cond_f h hc38
     refine run_skip ?_
     refine goes_code ?_
     refine run_seq ?_
     refine run_seq ?_
     refine run_region' ?_
     refine oy rfl rfl (y_load_boxagg (c := [g31, g32, g33]) 9 Try.isAgg71 Try.sizeOf71 rfl rfl rfl) ?_
     refine oy rfl rfl (y_load_boxagg (c := [.int .i64 x29.Op, .int .i64 x29.A, .string (bs x29.S)]) 5 Try.isAgg55 Try.sizeOf55 rfl rfl rfl) ?_
     refine oy rfl rfl (y_move rfl) ?_
     obtain ⟨r39, hr40, h⟩ := obind_some h
     refine ot rfl rfl (t_callx (vs := [.agg #[g31, g32, g33], .agg #[.int .i64 x29.Op, .int .i64 x29.A, .string (bs x29.S)], .int .i64 s_22]) (cs := []) [(6, 0), (7, 0), (8, 0)] rfl Try.call32 rfl (weirgate_compile_types_after_32_ok n  (S_compile_types.mk (((mget x_23 s_22).getD (S_compile_types.mk [] [] [])).stack_) (((mget x_23 s_22).getD (S_compile_types.mk [] [] [])).slots_) (((mget x_23 s_22).getD (S_compile_types.mk [] [] [])).loops_)) x29 s_22 g31 g32 g33 hr40) (showsX_view 6 rfl views_ro (showsX_view 7 rfl views_ro (showsX_view 8 rfl views_ro showsX_nil))) rfl (.inl rfl)) ?_
     rintro _ _ ⟨_, ⟨v41, v42, v43, rfl, rfl⟩, rfl⟩
     refine oy rfl rfl (y_move rfl) ?_
     refine oy rfl rfl (y_extract rfl rfl) ?_
     refine oy rfl rfl (y_extract rfl rfl) ?_
     refine ops_slc 10 rfl reads_ro (fun hs44 hs44o => ?_)
     refine ops_slc 11 rfl reads_ro (fun hs45 hs45o => ?_)
     refine ops_slc 12 rfl reads_ro (fun hs46 hs46o => ?_)
     refine ot rfl rfl (t_store 9 Try.sizeOf71 rfl rfl rfl rfl (by simp [Value.cells, boxP]) (allL_cons hs44o (allL_cons hs45o (allL_cons hs46o (allL_nil))))) ?_
     rintro _ _ ⟨rfl, rfl⟩
     refine ops_turn (retell 9 (g := box b34 [v41, v42, v43]) rfl rfl) ?_
     refine oy rfl rfl (y_assign rfl) ?_
     refine ops_nil ?_
     refine goes_code ?_
     refine run_seq ?_
     refine run_weak [(37, .int .i64 s_22), (1, boxP b1 0), (3, .int .i64 (m_0.Code.length : Int)), (4, boxP b16 0), (5, .func (.func 30) #[] #[boxP b16 0]), (35, m_0_Codev), (36, .int .i64 (m_0.Code.length : Int)), (7, boxP b30 0), (6, .int .i64 s_22), (8, boxP b34 0), (9, .bool r39.2)] [0, 1, 2, 3, 4, 5, 9, 10, 11, 12] [box b1 [.string (bs m_0.Name), m_0_Effectsv, m_0_Codev], ro m_0_Effectsv 1 (m_0.Effects.map (eInt .i64)), ro m_0_Codev 3 (m_0.Code.map S_api_Instr.enc), box b16 [.map (some b15)], nmap b15 (fun n : Int => Value.int .i64 n) NC_compile_types_71 x_23, box b30 [.int .i64 x29.Op, .int .i64 x29.A, .string (bs x29.S)], box b34 [v41, v42, v43], ro v41 1 (r39.1.stack_.map (eInt .i64)), ro v42 1 (r39.1.slots_.map (eInt .i64)), ro v43 1 (r39.1.loops_.map (eInt .i64))] (qv11 rfl rfl rfl rfl rfl rfl rfl rfl rfl rfl rfl) (by decide) rfl ?_
     refine run_region' ?_
     refine oy rfl rfl (y_move rfl) ?_
     refine oy rfl rfl (y_not rfl) ?_
     refine ops_nil ?_
     refine goes_code ?_
     refine run_cond (!r39.2) rfl (fun hc47 => ?_) (fun hc47 => ?_)
     ·replace h := cond_t h hc47
      refine run_seq ?_
      refine run_region' ?_
      refine oy rfl rfl (y_assign rfl) ?_
      refine ops_nil ?_
      refine goes_code ?_
      refine run_ret ?_
      obtain rfl := some_eq h
      obtain rfl := hstop26 _ rfl
      skip
      obtain rfl := after_stop ho19
      refine fin_slots [2] [.int .i64 280] [] [] Try.results14 rfl (by decide) rfl ?_
      exact ⟨rfl, rfl⟩
     ·replace h := cond_f h hc47
      refine run_skip ?_
      refine goes_code ?_
      obtain ⟨o49, h, ho50⟩ := bindJ_some h
      refine run_cut (((List (Int × S_compile_types))) × (Unit)) (fun σ => [(1, boxP b1 0), (3, .int .i64 (m_0.Code.length : Int)), (4, boxP b16 0), (5, .func (.func 30) #[] #[boxP b16 0]), (6, .int .i64 s_22), (7, boxP b30 0), (8, boxP b34 0), (35, m_0_Codev), (36, .int .i64 (m_0.Code.length : Int)), (37, .int .i64 s_22)]) (fun σ => [box b1 [.string (bs m_0.Name), m_0_Effectsv, m_0_Codev], ro m_0_Effectsv 1 (m_0.Effects.map (eInt .i64)), ro m_0_Codev 3 (m_0.Code.map S_api_Instr.enc), box b16 [.map (some b15)], nmap b15 (fun n : Int => Value.int .i64 n) NC_compile_types_71 σ.1, box b30 [.int .i64 x29.Op, .int .i64 x29.A, .string (bs x29.S)], box b34 [v41, v42, v43], ro v41 1 (r39.1.stack_.map (eInt .i64)), ro v42 1 (r39.1.slots_.map (eInt .i64)), ro v43 1 (r39.1.loops_.map (eInt .i64))]) (fun σ => o49 = .go σ.1) (fun L52 hL51 => ?_) ?_
      ·
       refine run_seq ?_
       refine run_region' ?_
       refine oy rfl rfl (y_fieldAddr_box (sz := 0) Try.runUnderlying55 rfl Try.sizeOf3 rfl) ?_
       refine oy rfl rfl (y_load_box 5 Try.isAgg3 rfl rfl rfl) ?_
       refine oy rfl rfl (y_eql rfl rfl) ?_
       refine oy rfl rfl (y_move rfl) ?_
       refine ops_cut 4 (Bool) (fun σ => [(37, .int .i64 s_22), (1, boxP b1 0), (3, .int .i64 (m_0.Code.length : Int)), (4, boxP b16 0), (5, .func (.func 30) #[] #[boxP b16 0]), (35, m_0_Codev), (36, .int .i64 (m_0.Code.length : Int)), (7, boxP b30 0), (6, .int .i64 s_22), (8, boxP b34 0), (66, .bool σ)]) (fun σ => [box b1 [.string (bs m_0.Name), m_0_Effectsv, m_0_Codev], ro m_0_Effectsv 1 (m_0.Effects.map (eInt .i64)), ro m_0_Codev 3 (m_0.Code.map S_api_Instr.enc), box b16 [.map (some b15)], nmap b15 (fun n : Int => Value.int .i64 n) NC_compile_types_71 x_23, box b30 [.int .i64 x29.Op, .int .i64 x29.A, .string (bs x29.S)], box b34 [v41, v42, v43], ro v41 1 (r39.1.stack_.map (eInt .i64)), ro v42 1 (r39.1.slots_.map (eInt .i64)), ro v43 1 (r39.1.loops_.map (eInt .i64))]) (fun σ => σ = (decide (x29.Op = 37) || decide (x29.Op = 38))) (fun L53 hL54 => ?_) ?_
       ·refine ops_split 62 (decide (x29.Op = 37)) rfl (fun hg55 => ?_) (fun hg55 => ?_)
        ·skip
         refine ops_no 3 false 62 rfl rfl rfl rfl rfl ?_
         refine ops_no 3 false 62 rfl rfl rfl rfl rfl ?_
         refine ops_no 3 false 62 rfl rfl rfl rfl rfl ?_
         refine oy rfl rfl (y_pick (b := true) rfl rfl) ?_
         refine ops_nil ?_
         exact goes_cut hL54 true [0, 1, 2, 3, 4, 5, 6, 7, 8, 9] (qv11 rfl rfl rfl rfl rfl rfl rfl rfl rfl rfl rfl) (by decide) rfl (by rw [hg55]; simp)
        ·skip
         refine ops_y (wg 3 false 62 rfl rfl rfl rfl) rfl (y_fieldAddr_box (sz := 0) Try.runUnderlying55 rfl Try.sizeOf3 rfl) ?_
         refine ops_y (wg 3 false 62 rfl rfl rfl rfl) rfl (y_load_box 5 Try.isAgg3 rfl rfl rfl) ?_
         refine ops_y (wg 3 false 62 rfl rfl rfl rfl) rfl (y_eql rfl rfl) ?_
         refine oy rfl rfl (y_pick (b := false) rfl rfl) ?_
         refine ops_nil ?_
         exact goes_cut hL54 (decide (x29.Op = 38)) [0, 1, 2, 3, 4, 5, 6, 7, 8, 9] (qv11 rfl rfl rfl rfl rfl rfl rfl rfl rfl rfl rfl) (by decide) rfl (by rw [hg55]; simp)
       rintro _ rfl
       refine oy rfl rfl (y_move rfl) ?_
       refine ops_cut 4 (Bool) (fun σ => [(37, .int .i64 s_22), (1, boxP b1 0), (3, .int .i64 (m_0.Code.length : Int)), (4, boxP b16 0), (5, .func (.func 30) #[] #[boxP b16 0]), (35, m_0_Codev), (36, .int .i64 (m_0.Code.length : Int)), (7, boxP b30 0), (6, .int .i64 s_22), (8, boxP b34 0), (71, .bool σ)]) (fun σ => [box b1 [.string (bs m_0.Name), m_0_Effectsv, m_0_Codev], ro m_0_Effectsv 1 (m_0.Effects.map (eInt .i64)), ro m_0_Codev 3 (m_0.Code.map S_api_Instr.enc), box b16 [.map (some b15)], nmap b15 (fun n : Int => Value.int .i64 n) NC_compile_types_71 x_23, box b30 [.int .i64 x29.Op, .int .i64 x29.A, .string (bs x29.S)], box b34 [v41, v42, v43], ro v41 1 (r39.1.stack_.map (eInt .i64)), ro v42 1 (r39.1.slots_.map (eInt .i64)), ro v43 1 (r39.1.loops_.map (eInt .i64))]) (fun σ => σ = ((decide (x29.Op = 37) || decide (x29.Op = 38)) || decide (x29.Op = 40))) (fun L56 hL57 => ?_) ?_
       ·refine ops_split 67 (decide (x29.Op = 37) || decide (x29.Op = 38)) rfl (fun hg58 => ?_) (fun hg58 => ?_)
        ·skip
         refine ops_no 8 false 67 rfl rfl rfl rfl rfl ?_
         refine ops_no 8 false 67 rfl rfl rfl rfl rfl ?_
         refine ops_no 8 false 67 rfl rfl rfl rfl rfl ?_
         refine oy rfl rfl (y_pick (b := true) rfl rfl) ?_
         refine ops_nil ?_
         exact goes_cut hL57 true [0, 1, 2, 3, 4, 5, 6, 7, 8, 9] (qv11 rfl rfl rfl rfl rfl rfl rfl rfl rfl rfl rfl) (by decide) rfl (by rw [hg58]; simp)
        ·skip
         refine ops_y (wg 8 false 67 rfl rfl rfl rfl) rfl (y_fieldAddr_box (sz := 0) Try.runUnderlying55 rfl Try.sizeOf3 rfl) ?_
         refine ops_y (wg 8 false 67 rfl rfl rfl rfl) rfl (y_load_box 5 Try.isAgg3 rfl rfl rfl) ?_
         refine ops_y (wg 8 false 67 rfl rfl rfl rfl) rfl (y_eql rfl rfl) ?_
         refine oy rfl rfl (y_pick (b := false) rfl rfl) ?_
         refine ops_nil ?_
         exact goes_cut hL57 (decide (x29.Op = 40)) [0, 1, 2, 3, 4, 5, 6, 7, 8, 9] (qv11 rfl rfl rfl rfl rfl rfl rfl rfl rfl rfl rfl) (by decide) rfl (by rw [hg58]; simp)
       rintro _ rfl
       refine ops_nil ?_
       refine goes_code ?_
       refine run_cond ((decide (x29.Op = 37) || decide (x29.Op = 38)) || decide (x29.Op = 40)) rfl (fun hc59 => ?_) (fun hc59 => ?_)
       ·replace h := cond_t h hc59
        refine run_seq ?_
        refine run_seq ?_
        refine run_region' ?_
        refine oy rfl rfl (y_fieldAddr_box (sz := 0) Try.runUnderlying55 rfl Try.sizeOf3 rfl) ?_
        refine oy rfl rfl (y_load_box 5 Try.isAgg3 rfl rfl rfl) ?_
        refine oy rfl rfl (y_lss rfl rfl) ?_
        refine oy rfl rfl (y_move rfl) ?_
        refine ops_cut 5 (Bool) (fun σ => [(37, .int .i64 s_22), (1, boxP b1 0), (3, .int .i64 (m_0.Code.length : Int)), (4, boxP b16 0), (5, .func (.func 30) #[] #[boxP b16 0]), (35, m_0_Codev), (36, .int .i64 (m_0.Code.length : Int)), (7, boxP b30 0), (6, .int .i64 s_22), (8, boxP b34 0), (80, .bool σ)]) (fun σ => [box b1 [.string (bs m_0.Name), m_0_Effectsv, m_0_Codev], ro m_0_Effectsv 1 (m_0.Effects.map (eInt .i64)), ro m_0_Codev 3 (m_0.Code.map S_api_Instr.enc), box b16 [.map (some b15)], nmap b15 (fun n : Int => Value.int .i64 n) NC_compile_types_71 x_23, box b30 [.int .i64 x29.Op, .int .i64 x29.A, .string (bs x29.S)], box b34 [v41, v42, v43], ro v41 1 (r39.1.stack_.map (eInt .i64)), ro v42 1 (r39.1.slots_.map (eInt .i64)), ro v43 1 (r39.1.loops_.map (eInt .i64))]) (fun σ => σ = (decide (x29.A < 0) || decide ((m_0.Code.length : Int) < x29.A))) (fun L60 hL61 => ?_) ?_
        ·refine ops_split 75 (decide (x29.A < 0)) rfl (fun hg62 => ?_) (fun hg62 => ?_)
         ·skip
          refine ops_no 3 false 75 rfl rfl rfl rfl rfl ?_
          refine ops_no 3 false 75 rfl rfl rfl rfl rfl ?_
          refine ops_no 3 false 75 rfl rfl rfl rfl rfl ?_
          refine ops_no 3 false 75 rfl rfl rfl rfl rfl ?_
          refine oy rfl rfl (y_pick (b := true) rfl rfl) ?_
          refine ops_nil ?_
          exact goes_cut hL61 true [0, 1, 2, 3, 4, 5, 6, 7, 8, 9] (qv11 rfl rfl rfl rfl rfl rfl rfl rfl rfl rfl rfl) (by decide) rfl (by rw [hg62]; simp)
         ·skip
          refine ops_y (wg 3 false 75 rfl rfl rfl rfl) rfl (y_fieldAddr_box (sz := 0) Try.runUnderlying55 rfl Try.sizeOf3 rfl) ?_
          refine ops_y (wg 3 false 75 rfl rfl rfl rfl) rfl (y_load_box 5 Try.isAgg3 rfl rfl rfl) ?_
          refine ops_y (wg 3 false 75 rfl rfl rfl rfl) rfl (y_move rfl) ?_
          refine ops_y (wg 3 false 75 rfl rfl rfl rfl) rfl (y_gtr rfl rfl) ?_
          refine oy rfl rfl (y_pick (b := false) rfl rfl) ?_
          refine ops_nil ?_
          exact goes_cut hL61 (decide ((m_0.Code.length : Int) < x29.A)) [0, 1, 2, 3, 4, 5, 6, 7, 8, 9] (qv11 rfl rfl rfl rfl rfl rfl rfl rfl rfl rfl rfl) (by decide) rfl (by rw [hg62]; simp)
        rintro _ rfl
        refine oy rfl rfl (y_move rfl) ?_
        obtain ⟨o64, h, ho65⟩ := bindJ_some h
        refine ops_cut 20 (Bool) (fun σ => [(37, .int .i64 s_22), (1, boxP b1 0), (3, .int .i64 (m_0.Code.length : Int)), (4, boxP b16 0), (5, .func (.func 30) #[] #[boxP b16 0]), (35, m_0_Codev), (36, .int .i64 (m_0.Code.length : Int)), (7, boxP b30 0), (6, .int .i64 s_22), (8, boxP b34 0), (101, .bool σ)]) (fun σ => [box b1 [.string (bs m_0.Name), m_0_Effectsv, m_0_Codev], ro m_0_Effectsv 1 (m_0.Effects.map (eInt .i64)), ro m_0_Codev 3 (m_0.Code.map S_api_Instr.enc), box b16 [.map (some b15)], nmap b15 (fun n : Int => Value.int .i64 n) NC_compile_types_71 x_23, box b30 [.int .i64 x29.Op, .int .i64 x29.A, .string (bs x29.S)], box b34 [v41, v42, v43], ro v41 1 (r39.1.stack_.map (eInt .i64)), ro v42 1 (r39.1.slots_.map (eInt .i64)), ro v43 1 (r39.1.loops_.map (eInt .i64))]) (fun σ => o64 = .go σ) (fun L66 hL67 => ?_) ?_
        ·refine ops_split 81 (decide (x29.A < 0) || decide ((m_0.Code.length : Int) < x29.A)) rfl (fun hg68 => ?_) (fun hg68 => ?_)
         ·replace h := cond_t h hg68
          refine ops_no 9 false 81 rfl rfl rfl rfl rfl ?_
          refine ops_no 9 false 81 rfl rfl rfl rfl rfl ?_
          refine ops_no 9 false 81 rfl rfl rfl rfl rfl ?_
          refine ops_no 9 false 81 rfl rfl rfl rfl rfl ?_
          refine ops_no 9 false 81 rfl rfl rfl rfl rfl ?_
          refine ops_un 14 true 86 rfl rfl rfl rfl rfl ?_
          refine ops_un 14 true 86 rfl rfl rfl rfl rfl ?_
          refine ops_un 14 true 86 rfl rfl rfl rfl rfl ?_
          refine ops_un 14 true 86 rfl rfl rfl rfl rfl ?_
          refine ops_un 18 false 90 rfl rfl rfl rfl rfl ?_
          refine ops_un 18 false 90 rfl rfl rfl rfl rfl ?_
          refine ops_un 18 false 90 rfl rfl rfl rfl rfl ?_
          refine ops_un 18 false 90 rfl rfl rfl rfl rfl ?_
          refine ops_un 18 false 90 rfl rfl rfl rfl rfl ?_
          refine ops_weak [(37, .int .i64 s_22), (1, boxP b1 0), (3, .int .i64 (m_0.Code.length : Int)), (4, boxP b16 0), (5, .func (.func 30) #[] #[boxP b16 0]), (35, m_0_Codev), (36, .int .i64 (m_0.Code.length : Int)), (7, boxP b30 0), (6, .int .i64 s_22), (8, boxP b34 0), (81, .bool true), (86, undef), (90, undef), (95, undef)] [0, 1, 2, 3, 4, 5, 6, 7, 8, 9] [box b1 [.string (bs m_0.Name), m_0_Effectsv, m_0_Codev], ro m_0_Effectsv 1 (m_0.Effects.map (eInt .i64)), ro m_0_Codev 3 (m_0.Code.map S_api_Instr.enc), box b16 [.map (some b15)], nmap b15 (fun n : Int => Value.int .i64 n) NC_compile_types_71 x_23, box b30 [.int .i64 x29.Op, .int .i64 x29.A, .string (bs x29.S)], box b34 [v41, v42, v43], ro v41 1 (r39.1.stack_.map (eInt .i64)), ro v42 1 (r39.1.slots_.map (eInt .i64)), ro v43 1 (r39.1.loops_.map (eInt .i64))] (qw6 rfl rfl rfl rfl rfl rfl (qv8 rfl rfl rfl rfl rfl rfl rfl rfl)) (by decide) rfl ?_
          refine ops_un 18 false 90 rfl rfl rfl rfl rfl ?_
          refine ops_un 18 false 90 rfl rfl rfl rfl rfl ?_
          refine ops_un 18 false 90 rfl rfl rfl rfl rfl ?_
          refine ops_un 14 true 86 rfl rfl rfl rfl rfl ?_
          refine ops_no 9 false 81 rfl rfl rfl rfl rfl ?_
          refine oy rfl rfl (y_pick (b := true) rfl rfl) ?_
          refine ops_nil ?_
          obtain rfl := some_eq h
          exact goes_cut hL67 true [0, 1, 2, 3, 4, 5, 6, 7, 8, 9] (qv11 rfl rfl rfl rfl rfl rfl rfl rfl rfl rfl rfl) (by decide) rfl rfl
         ·replace h := cond_f h hg68
          refine ops_y (wg 9 false 81 rfl rfl rfl rfl) rfl (y_fieldAddr_box (sz := 0) Try.runUnderlying55 rfl Try.sizeOf3 rfl) ?_
          refine ops_y (wg 9 false 81 rfl rfl rfl rfl) rfl (y_load_box 5 Try.isAgg3 rfl rfl rfl) ?_
          refine ops_y (wg 9 false 81 rfl rfl rfl rfl) rfl (y_move rfl) ?_
          refine ops_y (wg 9 false 81 rfl rfl rfl rfl) rfl (y_leq rfl rfl) ?_
          refine ops_y (wg 9 false 81 rfl rfl rfl rfl) rfl (y_move rfl) ?_
          obtain ⟨o70, h, ho71⟩ := bindJ_some h
          refine ops_cut 14 (Bool) (fun σ => [(37, .int .i64 s_22), (1, boxP b1 0), (3, .int .i64 (m_0.Code.length : Int)), (4, boxP b16 0), (5, .func (.func 30) #[] #[boxP b16 0]), (35, m_0_Codev), (36, .int .i64 (m_0.Code.length : Int)), (7, boxP b30 0), (6, .int .i64 s_22), (8, boxP b34 0), (81, .bool false), (100, .bool σ)]) (fun σ => [box b1 [.string (bs m_0.Name), m_0_Effectsv, m_0_Codev], ro m_0_Effectsv 1 (m_0.Effects.map (eInt .i64)), ro m_0_Codev 3 (m_0.Code.map S_api_Instr.enc), box b16 [.map (some b15)], nmap b15 (fun n : Int => Value.int .i64 n) NC_compile_types_71 x_23, box b30 [.int .i64 x29.Op, .int .i64 x29.A, .string (bs x29.S)], box b34 [v41, v42, v43], ro v41 1 (r39.1.stack_.map (eInt .i64)), ro v42 1 (r39.1.slots_.map (eInt .i64)), ro v43 1 (r39.1.loops_.map (eInt .i64))]) (fun σ => o70 = .go σ) (fun L72 hL73 => ?_) ?_
          ·refine ops_split 86 (decide (x29.A ≤ s_22)) rfl (fun hg74 => ?_) (fun hg74 => ?_)
           ·replace h := cond_t h hg74
            refine ops_y (wg 14 true 86 rfl rfl rfl rfl) rfl (y_fieldAddr_box (sz := 0) Try.runUnderlying55 rfl Try.sizeOf3 rfl) ?_
            refine ops_y (wg 14 true 86 rfl rfl rfl rfl) rfl (y_load_box 5 Try.isAgg3 rfl rfl rfl) ?_
            refine ops_y (wg 14 true 86 rfl rfl rfl rfl) rfl (y_neq rfl rfl) ?_
            refine ops_y (wg 14 true 86 rfl rfl rfl rfl) rfl (y_move rfl) ?_
            obtain ⟨o76, h, ho77⟩ := bindJ_some h
            refine ops_cut 9 (Bool) (fun σ => [(37, .int .i64 s_22), (1, boxP b1 0), (3, .int .i64 (m_0.Code.length : Int)), (4, boxP b16 0), (5, .func (.func 30) #[] #[boxP b16 0]), (35, m_0_Codev), (36, .int .i64 (m_0.Code.length : Int)), (7, boxP b30 0), (6, .int .i64 s_22), (8, boxP b34 0), (81, .bool false), (86, .bool true), (99, .bool σ)]) (fun σ => [box b1 [.string (bs m_0.Name), m_0_Effectsv, m_0_Codev], ro m_0_Effectsv 1 (m_0.Effects.map (eInt .i64)), ro m_0_Codev 3 (m_0.Code.map S_api_Instr.enc), box b16 [.map (some b15)], nmap b15 (fun n : Int => Value.int .i64 n) NC_compile_types_71 x_23, box b30 [.int .i64 x29.Op, .int .i64 x29.A, .string (bs x29.S)], box b34 [v41, v42, v43], ro v41 1 (r39.1.stack_.map (eInt .i64)), ro v42 1 (r39.1.slots_.map (eInt .i64)), ro v43 1 (r39.1.loops_.map (eInt .i64))]) (fun σ => o76 = .go σ) (fun L78 hL79 => ?_) ?_
            ·refine ops_split 90 (decide (x29.Op ≠ 37)) rfl (fun hg80 => ?_) (fun hg80 => ?_)
             ·replace h := cond_t h hg80
              refine ops_no 18 false 90 rfl rfl rfl rfl rfl ?_
              refine ops_no 18 false 90 rfl rfl rfl rfl rfl ?_
              refine ops_no 18 false 90 rfl rfl rfl rfl rfl ?_
              refine ops_weak [(37, .int .i64 s_22), (1, boxP b1 0), (3, .int .i64 (m_0.Code.length : Int)), (4, boxP b16 0), (5, .func (.func 30) #[] #[boxP b16 0]), (35, m_0_Codev), (36, .int .i64 (m_0.Code.length : Int)), (7, boxP b30 0), (6, .int .i64 s_22), (8, boxP b34 0), (81, .bool false), (86, .bool true), (90, .bool true), (92, undef), (93, undef)] [0, 1, 2, 3, 4, 5, 6, 7, 8, 9] [box b1 [.string (bs m_0.Name), m_0_Effectsv, m_0_Codev], ro m_0_Effectsv 1 (m_0.Effects.map (eInt .i64)), ro m_0_Codev 3 (m_0.Code.map S_api_Instr.enc), box b16 [.map (some b15)], nmap b15 (fun n : Int => Value.int .i64 n) NC_compile_types_71 x_23, box b30 [.int .i64 x29.Op, .int .i64 x29.A, .string (bs x29.S)], box b34 [v41, v42, v43], ro v41 1 (r39.1.stack_.map (eInt .i64)), ro v42 1 (r39.1.slots_.map (eInt .i64)), ro v43 1 (r39.1.loops_.map (eInt .i64))] (qw6 rfl rfl rfl rfl rfl rfl (qv9 rfl rfl rfl rfl rfl rfl rfl rfl rfl)) (by decide) rfl ?_
              refine ops_no 18 false 90 rfl rfl rfl rfl rfl ?_
              refine ops_no 18 false 90 rfl rfl rfl rfl rfl ?_
              refine ops_no 18 false 90 rfl rfl rfl rfl rfl ?_
              refine ops_no 18 false 90 rfl rfl rfl rfl rfl ?_
              refine ops_no 18 false 90 rfl rfl rfl rfl rfl ?_
              refine ops_y (wg 14 true 86 rfl rfl rfl rfl) rfl (y_pick (b := true) rfl rfl) ?_
              refine ops_nil ?_
              obtain rfl := some_eq h
              exact goes_cut hL79 true [0, 1, 2, 3, 4, 5, 6, 7, 8, 9] (qw6 rfl rfl rfl rfl rfl rfl (qv7 rfl rfl rfl rfl rfl rfl rfl)) (by decide) rfl rfl
             ·replace h := cond_f h hg80
              refine ops_y (wg 18 false 90 rfl rfl rfl rfl) rfl (y_fieldAddr_box (sz := 0) Try.runUnderlying31 rfl Try.sizeOf29 rfl) ?_
              refine ops_y (wg 18 false 90 rfl rfl rfl rfl) rfl (y_load_box 0 Try.isAgg29 rfl rfl rfl) ?_
              refine ops_y (wg 18 false 90 rfl rfl rfl rfl) rfl (y_fieldAddr_box (sz := 0) Try.runUnderlying55 rfl Try.sizeOf3 rfl) ?_
              refine ops_weak [(37, .int .i64 s_22), (1, boxP b1 0), (3, .int .i64 (m_0.Code.length : Int)), (4, boxP b16 0), (5, .func (.func 30) #[] #[boxP b16 0]), (35, m_0_Codev), (36, .int .i64 (m_0.Code.length : Int)), (7, boxP b30 0), (6, .int .i64 s_22), (8, boxP b34 0), (81, .bool false), (86, .bool true), (90, .bool false), (92, m_0_Codev), (93, boxP b30 1)] [0, 1, 2, 3, 4, 5, 6, 7, 8, 9] [box b1 [.string (bs m_0.Name), m_0_Effectsv, m_0_Codev], ro m_0_Effectsv 1 (m_0.Effects.map (eInt .i64)), ro m_0_Codev 3 (m_0.Code.map S_api_Instr.enc), box b16 [.map (some b15)], nmap b15 (fun n : Int => Value.int .i64 n) NC_compile_types_71 x_23, box b30 [.int .i64 x29.Op, .int .i64 x29.A, .string (bs x29.S)], box b34 [v41, v42, v43], ro v41 1 (r39.1.stack_.map (eInt .i64)), ro v42 1 (r39.1.slots_.map (eInt .i64)), ro v43 1 (r39.1.loops_.map (eInt .i64))] (qw6 rfl rfl rfl rfl rfl rfl (qv9 rfl rfl rfl rfl rfl rfl rfl rfl rfl)) (by decide) rfl ?_
              refine ops_y (wg 18 false 90 rfl rfl rfl rfl) rfl (y_load_box 5 Try.isAgg3 rfl rfl rfl) ?_
              obtain ⟨x81, hzx81, hlx81, hxx81, h⟩ := idx_some h
              refine ops_y (wg 18 false 90 rfl rfl rfl rfl) rfl (y_indexAddrI (kd := .i64) (i := x29.A) 2 Try.runUnderlying29 Try.sizeOf55 rfl rfl rfl reads_ro hzx81 (map_lt hlx81)) ?_
              refine ops_y (wg 18 false 90 rfl rfl rfl rfl) rfl (y_fieldAddr_elem (sz := 0) Try.runUnderlying55 rfl Try.sizeOf3 rfl) ?_
              refine ops_y (wg 18 false 90 rfl rfl rfl rfl) rfl (y_load_field (i := (x29.A).toNat) (j := 0) 2 Try.isAgg3 rfl rfl reads_ro (map_get hxx81) rfl) ?_
              refine ops_y (wg 18 false 90 rfl rfl rfl rfl) rfl (y_neq rfl rfl) ?_
              refine ops_y (wg 14 true 86 rfl rfl rfl rfl) rfl (y_pick (b := false) rfl rfl) ?_
              refine ops_nil ?_
              obtain rfl := some_eq h
              exact goes_cut hL79 (decide (x81.Op ≠ 40)) [0, 1, 2, 3, 4, 5, 6, 7, 8, 9] (qw6 rfl rfl rfl rfl rfl rfl (qv7 rfl rfl rfl rfl rfl rfl rfl)) (by decide) rfl rfl
            rintro b75 hj
            obtain rfl : o76 = _ := hj
            replace h := after_go ho77
            clear ho77
            refine ops_y (wg 9 false 81 rfl rfl rfl rfl) rfl (y_pick (b := true) rfl rfl) ?_
            refine ops_nil ?_
            obtain rfl := some_eq h
            exact goes_cut hL73 b75 [0, 1, 2, 3, 4, 5, 6, 7, 8, 9] (qv12 rfl rfl rfl rfl rfl rfl rfl rfl rfl rfl rfl rfl) (by decide) rfl rfl
           ·replace h := cond_f h hg74
            refine ops_no 14 true 86 rfl rfl rfl rfl rfl ?_
            refine ops_no 14 true 86 rfl rfl rfl rfl rfl ?_
            refine ops_no 14 true 86 rfl rfl rfl rfl rfl ?_
            refine ops_no 14 true 86 rfl rfl rfl rfl rfl ?_
            refine ops_un 18 false 90 rfl rfl rfl rfl rfl ?_
            refine ops_un 18 false 90 rfl rfl rfl rfl rfl ?_
            refine ops_un 18 false 90 rfl rfl rfl rfl rfl ?_
            refine ops_un 18 false 90 rfl rfl rfl rfl rfl ?_
            refine ops_weak [(37, .int .i64 s_22), (1, boxP b1 0), (3, .int .i64 (m_0.Code.length : Int)), (4, boxP b16 0), (5, .func (.func 30) #[] #[boxP b16 0]), (35, m_0_Codev), (36, .int .i64 (m_0.Code.length : Int)), (7, boxP b30 0), (6, .int .i64 s_22), (8, boxP b34 0), (81, .bool false), (86, .bool false), (90, undef), (92, undef), (94, undef)] [0, 1, 2, 3, 4, 5, 6, 7, 8, 9] [box b1 [.string (bs m_0.Name), m_0_Effectsv, m_0_Codev], ro m_0_Effectsv 1 (m_0.Effects.map (eInt .i64)), ro m_0_Codev 3 (m_0.Code.map S_api_Instr.enc), box b16 [.map (some b15)], nmap b15 (fun n : Int => Value.int .i64 n) NC_compile_types_71 x_23, box b30 [.int .i64 x29.Op, .int .i64 x29.A, .string (bs x29.S)], box b34 [v41, v42, v43], ro v41 1 (r39.1.stack_.map (eInt .i64)), ro v42 1 (r39.1.slots_.map (eInt .i64)), ro v43 1 (r39.1.loops_.map (eInt .i64))] (qw6 rfl rfl rfl rfl rfl rfl (qv9 rfl rfl rfl rfl rfl rfl rfl rfl rfl)) (by decide) rfl ?_
            refine ops_un 18 false 90 rfl rfl rfl rfl rfl ?_
            refine ops_un 18 false 90 rfl rfl rfl rfl rfl ?_
            refine ops_un 18 false 90 rfl rfl rfl rfl rfl ?_
            refine ops_un 18 false 90 rfl rfl rfl rfl rfl ?_
            refine ops_no 14 true 86 rfl rfl rfl rfl rfl ?_
            refine ops_y (wg 9 false 81 rfl rfl rfl rfl) rfl (y_pick (b := false) rfl rfl) ?_
            refine ops_nil ?_
            obtain rfl := some_eq h
            exact goes_cut hL73 false [0, 1, 2, 3, 4, 5, 6, 7, 8, 9] (qv12 rfl rfl rfl rfl rfl rfl rfl rfl rfl rfl rfl rfl) (by decide) rfl rfl
          rintro b69 hj
          obtain rfl : o70 = _ := hj
          replace h := after_go ho71
          clear ho71
          refine oy rfl rfl (y_pick (b := false) rfl rfl) ?_
          refine ops_nil ?_
          obtain rfl := some_eq h
          exact goes_cut hL67 b69 [0, 1, 2, 3, 4, 5, 6, 7, 8, 9] (qv11 rfl rfl rfl rfl rfl rfl rfl rfl rfl rfl rfl) (by decide) rfl rfl
        rintro b63 hj
        obtain rfl : o64 = _ := hj
        replace h := after_go ho65
        clear ho65
        refine ops_nil ?_
        refine goes_code ?_
        refine run_cond b63 rfl (fun hc82 => ?_) (fun hc82 => ?_)
        ·replace h := cond_t h hc82
         refine run_seq ?_
         refine run_region' ?_
         refine oy rfl rfl (y_assign rfl) ?_
         refine ops_nil ?_
         refine goes_code ?_
         refine run_ret ?_
         obtain rfl := some_eq h
         obtain rfl := after_stop ho50
         skip
         obtain rfl := hstop26 _ rfl
         skip
         obtain rfl := after_stop ho19
         refine fin_slots [2] [.int .i64 280] [] [] Try.results14 rfl (by decide) rfl ?_
         exact ⟨rfl, rfl⟩
        ·replace h := cond_f h hc82
         refine run_skip ?_
         refine goes_code ?_
         refine run_seq ?_
         refine run_region' ?_
         refine oy rfl rfl (y_load_boxagg (c := [v41, v42, v43]) 6 Try.isAgg71 Try.sizeOf71 rfl rfl rfl) ?_
         refine ot rfl rfl (t_alloc Try.zeroValue71) ?_
         rintro _ _ ⟨b83, rfl, rfl⟩
         refine ops_slc 7 rfl reads_ro (fun hs84 hs84o => ?_)
         refine ops_slc 8 rfl reads_ro (fun hs85 hs85o => ?_)
         refine ops_slc 9 rfl reads_ro (fun hs86 hs86o => ?_)
         refine ot rfl rfl (t_store 10 Try.sizeOf71 rfl rfl rfl rfl (by simp [Value.cells, boxP]) (allL_cons hs84o (allL_cons hs85o (allL_cons hs86o (allL_nil))))) ?_
         rintro _ _ ⟨rfl, rfl⟩
         refine ops_turn (retell 10 (g := box b83 [v41, v42, v43]) rfl rfl) ?_
         refine ops_nil ?_
         refine goes_code ?_
         obtain ⟨o89, h, ho90⟩ := bindJ_some h
         refine run_cut (((List Int)) × (Value)) (fun σ => [(1, boxP b1 0), (3, .int .i64 (m_0.Code.length : Int)), (4, boxP b16 0), (5, .func (.func 30) #[] #[boxP b16 0]), (6, .int .i64 s_22), (7, boxP b30 0), (8, boxP b34 0), (10, boxP b83 0), (35, m_0_Codev), (36, .int .i64 (m_0.Code.length : Int)), (37, .int .i64 s_22)]) (fun σ => [box b1 [.string (bs m_0.Name), m_0_Effectsv, m_0_Codev], ro m_0_Effectsv 1 (m_0.Effects.map (eInt .i64)), ro m_0_Codev 3 (m_0.Code.map S_api_Instr.enc), box b16 [.map (some b15)], nmap b15 (fun n : Int => Value.int .i64 n) NC_compile_types_71 x_23, box b30 [.int .i64 x29.Op, .int .i64 x29.A, .string (bs x29.S)], box b34 [v41, v42, v43], ro v41 1 (r39.1.stack_.map (eInt .i64)), ro v42 1 (r39.1.slots_.map (eInt .i64)), ro v43 1 (r39.1.loops_.map (eInt .i64)), box b83 [v41, v42, σ.2], ro σ.2 1 (σ.1.map (eInt .i64))]) (fun σ => o89 = .go σ.1) (fun L92 hL91 => ?_) ?_
         ·
          refine run_seq ?_
          refine run_region' ?_
          refine oy rfl rfl (y_fieldAddr_box (sz := 0) Try.runUnderlying55 rfl Try.sizeOf3 rfl) ?_
          refine oy rfl rfl (y_load_box 5 Try.isAgg3 rfl rfl rfl) ?_
          refine oy rfl rfl (y_eql rfl rfl) ?_
          refine ops_nil ?_
          refine goes_code ?_
          refine run_cond (decide (x29.Op = 40)) rfl (fun hc93 => ?_) (fun hc93 => ?_)
          ·replace h := cond_t h hc93
           refine run_region' ?_
           refine oy rfl rfl (y_fieldAddr_box (sz := 0) Try.runUnderlying71 rfl Try.sizeOf22 rfl) ?_
           refine oy rfl rfl (y_load_box 6 Try.isAgg22 rfl rfl rfl) ?_
           refine oy rfl rfl (y_fieldAddr_box (sz := 0) Try.runUnderlying71 rfl Try.sizeOf22 rfl) ?_
           refine oy rfl rfl (y_load_box 6 Try.isAgg22 rfl rfl rfl) ?_
           refine oy rfl rfl ((y_len 9 rfl Try.runUnderlying22 rfl rfl reads_ro).to (v_len (eInt .i64) _)) ?_
           refine oy rfl rfl (y_sub rfl rfl) ?_
           obtain ⟨hb94, h⟩ := need_some h
           refine oy rfl rfl (y_slice (l := 0) (r := (IntKind.i64.wrap ((r39.1.loops_.length : Int) - 1))) 9 Try.runUnderlying22 Try.sizeOf3 rfl rfl reads_ro bi0 (bi1 (kd := .i64) rfl) hb94.1 hb94.2.1 (map_len_le hb94.2.2)) ?_
           refine ops_turn (turn_sub (l := (0 : Int).toNat) (r := ((IntKind.i64.wrap ((r39.1.loops_.length : Int) - 1))).toNat) 9 rfl (by first | omega | exact Int.toNat_le_toNat hb94.2.1) (map_toNat_le hb94.2.2)) ?_
           refine ops_turn (retell 11 (g := ro (subS v43 1 ((0 : Int).toNat) (((IntKind.i64.wrap ((r39.1.loops_.length : Int) - 1))).toNat)) 1 ((r39.1.loops_.take (((IntKind.i64.wrap ((r39.1.loops_.length : Int) - 1))).toNat)).map (eInt .i64))) rfl (congrArg (ro _ _) (sub_hi _ _ _))) ?_
           refine oy rfl rfl (y_fieldAddr_box (sz := 0) Try.runUnderlying71 rfl Try.sizeOf22 rfl) ?_
           refine ops_slc 11 rfl reads_ro (fun hs95 hs95o => ?_)
           refine ot rfl rfl (t_store 10 Try.sizeOf22 rfl rfl rfl (by rw [hs95]; rfl) (by simp [Value.cells, boxP]) (by rw [hs95]; exact allL_cons hs95o (allL_nil))) ?_
           rintro _ _ ⟨rfl, rfl⟩
           refine ops_turn (retell 10 (g := box b83 [v41, v42, (subS v43 1 ((0 : Int).toNat) (((IntKind.i64.wrap ((r39.1.loops_.length : Int) - 1))).toNat))]) rfl (by rw [hs95]; rfl)) ?_
           refine ops_nil ?_
           obtain rfl := some_eq h
           exact goes_cut hL91 ((r39.1.loops_.take (((IntKind.i64.wrap ((r39.1.loops_.length : Int) - 1))).toNat)), (subS v43 1 ((0 : Int).toNat) (((IntKind.i64.wrap ((r39.1.loops_.length : Int) - 1))).toNat))) [0, 1, 2, 3, 4, 5, 6, 7, 8, 9, 10, 11] (qv11 rfl rfl rfl rfl rfl rfl rfl rfl rfl rfl rfl) (by decide) rfl rfl
          ·replace h := cond_f h hc93
           refine run_skip ?_
           refine goes_turn (turn_dup 9 free_ro rfl) ?_
           obtain rfl := some_eq h
           exact goes_cut hL91 (r39.1.loops_, v43) [0, 1, 2, 3, 4, 5, 6, 7, 8, 9, 10, 11] (qv11 rfl rfl rfl rfl rfl rfl rfl rfl rfl rfl rfl) (by decide) rfl rfl
         rintro ⟨x_87, v88⟩ hj
         obtain rfl : o89 = _ := hj
         replace h := after_go ho90
         clear ho90
         change Run _ _ _ (VF.of [(1, boxP b1 0), (3, .int .i64 (m_0.Code.length : Int)), (4, boxP b16 0), (5, .func (.func 30) #[] #[boxP b16 0]), (6, .int .i64 s_22), (7, boxP b30 0), (8, boxP b34 0), (10, boxP b83 0), (35, m_0_Codev), (36, .int .i64 (m_0.Code.length : Int)), (37, .int .i64 s_22)]) [box b1 [.string (bs m_0.Name), m_0_Effectsv, m_0_Codev], ro m_0_Effectsv 1 (m_0.Effects.map (eInt .i64)), ro m_0_Codev 3 (m_0.Code.map S_api_Instr.enc), box b16 [.map (some b15)], nmap b15 (fun n : Int => Value.int .i64 n) NC_compile_types_71 x_23, box b30 [.int .i64 x29.Op, .int .i64 x29.A, .string (bs x29.S)], box b34 [v41, v42, v43], ro v41 1 (r39.1.stack_.map (eInt .i64)), ro v42 1 (r39.1.slots_.map (eInt .i64)), ro v43 1 (r39.1.loops_.map (eInt .i64)), box b83 [v41, v42, v88], ro v88 1 (x_87.map (eInt .i64))]
         refine run_seq ?_
         refine run_region' ?_
         refine oy rfl rfl (y_move rfl) ?_
         refine oy rfl rfl (y_fieldAddr_box (sz := 0) Try.runUnderlying55 rfl Try.sizeOf3 rfl) ?_
         refine oy rfl rfl (y_load_box 5 Try.isAgg3 rfl rfl rfl) ?_
         refine oy rfl rfl (y_load_boxagg (c := [v41, v42, v88]) 10 Try.isAgg71 Try.sizeOf71 rfl rfl rfl) ?_
         obtain ⟨r96, hr97, h⟩ := obind_some h
         refine ot rfl rfl (t_callx (vs := [.int .i64 x29.A, .agg #[v41, v42, v88]]) (cs := [boxP b16 0]) [(7, 0), (8, 0), (11, 0), (4, 2), (3, 2)] rfl Try.call30 rfl (compile_Check_1_30_ok n  x29.A (S_compile_types.mk r39.1.stack_ r39.1.slots_ x_87) x_23 v41 v42 v88 b16 b15 hr97) (showsX_view 7 rfl views_ro (showsX_view 8 rfl views_ro (showsX_view 11 rfl views_ro (showsX_lend 4 rfl (showsX_lend 3 rfl showsX_nil))))) rfl (.inl rfl)) ?_
         rintro _ _ ⟨_, ⟨rfl, rfl⟩, rfl⟩
         refine oy rfl rfl (y_not rfl) ?_
         refine ops_nil ?_
         refine goes_code ?_
         refine run_cond (!r96.1) rfl (fun hc98 => ?_) (fun hc98 => ?_)
         ·replace h := cond_t h hc98
          refine run_seq ?_
          refine run_region' ?_
          refine oy rfl rfl (y_assign rfl) ?_
          refine ops_nil ?_
          refine goes_code ?_
          refine run_ret ?_
          obtain rfl := some_eq h
          obtain rfl := after_stop ho50
          skip
          obtain rfl := hstop26 _ rfl
          skip
          obtain rfl := after_stop ho19
          refine fin_slots [2] [.int .i64 280] [] [] Try.results14 rfl (by decide) rfl ?_
          exact ⟨rfl, rfl⟩
         ·replace h := cond_f h hc98
          refine run_skip ?_
          obtain rfl := some_eq h
          exact goes_cut hL51 (r96.2, ()) [0, 1, 2, 13, 12, 5, 6, 7, 8, 9] (qv10 rfl rfl rfl rfl rfl rfl rfl rfl rfl rfl) (by decide) rfl rfl
       ·replace h := cond_f h hc59
        refine run_skip ?_
        obtain rfl := some_eq h
        exact goes_cut hL51 (x_23, ()) [0, 1, 2, 3, 4, 5, 6, 7, 8, 9] (qv10 rfl rfl rfl rfl rfl rfl rfl rfl rfl rfl) (by decide) rfl rfl
      rintro ⟨x_48, _⟩ hj
      obtain rfl : o49 = _ := hj
      replace h := after_go ho50
      clear ho50
      change Run _ _ _ (VF.of [(1, boxP b1 0), (3, .int .i64 (m_0.Code.length : Int)), (4, boxP b16 0), (5, .func (.func 30) #[] #[boxP b16 0]), (6, .int .i64 s_22), (7, boxP b30 0), (8, boxP b34 0), (35, m_0_Codev), (36, .int .i64 (m_0.Code.length : Int)), (37, .int .i64 s_22)]) [box b1 [.string (bs m_0.Name), m_0_Effectsv, m_0_Codev], ro m_0_Effectsv 1 (m_0.Effects.map (eInt .i64)), ro m_0_Codev 3 (m_0.Code.map S_api_Instr.enc), box b16 [.map (some b15)], nmap b15 (fun n : Int => Value.int .i64 n) NC_compile_types_71 x_48, box b30 [.int .i64 x29.Op, .int .i64 x29.A, .string (bs x29.S)], box b34 [v41, v42, v43], ro v41 1 (r39.1.stack_.map (eInt .i64)), ro v42 1 (r39.1.slots_.map (eInt .i64)), ro v43 1 (r39.1.loops_.map (eInt .i64))]
      refine run_seq ?_
      refine run_region' ?_
      refine oy rfl rfl (y_fieldAddr_box (sz := 0) Try.runUnderlying55 rfl Try.sizeOf3 rfl) ?_
      refine oy rfl rfl (y_load_box 5 Try.isAgg3 rfl rfl rfl) ?_
      refine oy rfl rfl (y_neq rfl rfl) ?_
      refine oy rfl rfl (y_move rfl) ?_
      obtain ⟨o100, h, ho101⟩ := bindJ_some h
      refine ops_cut 7 (Bool × (List (Int × S_compile_types))) (fun σ => [(1, boxP b1 0), (3, .int .i64 (m_0.Code.length : Int)), (4, boxP b16 0), (5, .func (.func 30) #[] #[boxP b16 0]), (35, m_0_Codev), (36, .int .i64 (m_0.Code.length : Int)), (37, .int .i64 s_22), (130, .bool σ.1)]) (fun σ => [box b1 [.string (bs m_0.Name), m_0_Effectsv, m_0_Codev], ro m_0_Effectsv 1 (m_0.Effects.map (eInt .i64)), ro m_0_Codev 3 (m_0.Code.map S_api_Instr.enc), box b16 [.map (some b15)], nmap b15 (fun n : Int => Value.int .i64 n) NC_compile_types_71 σ.2]) (fun σ => o100 = .go σ) (fun L103 hL104 => ?_) ?_
      ·refine ops_split 123 (decide (x29.Op ≠ 37)) rfl (fun hg105 => ?_) (fun hg105 => ?_)
       ·replace h := cond_t h hg105
        refine ops_y (wg 3 true 123 rfl rfl rfl rfl) rfl (y_move rfl) ?_
        refine ops_y (wg 3 true 123 rfl rfl rfl rfl) rfl (y_move rfl) ?_
        refine ops_y (wg 3 true 123 rfl rfl rfl rfl) rfl (y_add rfl rfl) ?_
        refine ops_y (wg 3 true 123 rfl rfl rfl rfl) rfl (y_load_boxagg (c := [v41, v42, v43]) 6 Try.isAgg71 Try.sizeOf71 rfl rfl rfl) ?_
        obtain ⟨r106, hr107, h⟩ := obind_some h
        refine ops_t (wg 3 true 123 rfl rfl rfl rfl) rfl (t_callx (vs := [.int .i64 (IntKind.i64.wrap (s_22 + 1)), .agg #[v41, v42, v43]]) (cs := [boxP b16 0]) [(7, 0), (8, 0), (9, 0), (4, 2), (3, 2)] rfl Try.call30 rfl (compile_Check_1_30_ok n  (IntKind.i64.wrap (s_22 + 1)) r39.1 x_48 v41 v42 v43 b16 b15 hr107) (showsX_view 7 rfl views_ro (showsX_view 8 rfl views_ro (showsX_view 9 rfl views_ro (showsX_lend 4 rfl (showsX_lend 3 rfl showsX_nil))))) rfl (.inl rfl)) ?_
        rintro _ _ ⟨_, ⟨rfl, rfl⟩, rfl⟩
        refine ops_y (wg 3 true 123 rfl rfl rfl rfl) rfl (y_not rfl) ?_
        refine oy rfl rfl (y_pick (b := true) rfl rfl) ?_
        refine ops_nil ?_
        obtain rfl := some_eq h
        exact goes_cut hL104 ((!r106.1), r106.2) [0, 1, 2, 11, 10] (qv8 rfl rfl rfl rfl rfl rfl rfl rfl) (by decide) rfl rfl
       ·replace h := cond_f h hg105
        refine ops_no 3 true 123 rfl rfl rfl rfl rfl ?_
        refine ops_no 3 true 123 rfl rfl rfl rfl rfl ?_
        refine ops_no 3 true 123 rfl rfl rfl rfl rfl ?_
        refine ops_no 3 true 123 rfl rfl rfl rfl rfl ?_
        refine ops_no 3 true 123 rfl rfl rfl rfl rfl ?_
        refine ops_no 3 true 123 rfl rfl rfl rfl rfl ?_
        refine oy rfl rfl (y_pick (b := false) rfl rfl) ?_
        refine ops_nil ?_
        obtain rfl := some_eq h
        exact goes_cut hL104 (false, x_48) [0, 1, 2, 3, 4] (qv8 rfl rfl rfl rfl rfl rfl rfl rfl) (by decide) rfl rfl
      rintro ⟨b99, y102⟩ hj
      obtain rfl : o100 = _ := hj
      replace h := after_go ho101
      clear ho101
      refine ops_nil ?_
      refine goes_code ?_
      refine run_cond b99 rfl (fun hc108 => ?_) (fun hc108 => ?_)
      ·replace h := cond_t h hc108
       refine run_seq ?_
       refine run_region' ?_
       refine oy rfl rfl (y_assign rfl) ?_
       refine ops_nil ?_
       refine goes_code ?_
       refine run_ret ?_
       obtain rfl := some_eq h
       obtain rfl := hstop26 _ rfl
       skip
       obtain rfl := after_stop ho19
       refine fin_slots [2] [.int .i64 280] [] [] Try.results14 rfl (by decide) rfl ?_
       exact ⟨rfl, rfl⟩
      ·replace h := cond_f h hc108
       refine run_skip ?_
       refine goes_blk ?_
       refine goes_code ?_
       refine run_region' ?_
       refine oy rfl rfl (y_add rfl rfl) ?_
       refine oy rfl rfl (y_move rfl) ?_
       refine ops_nil ?_
       obtain rfl := some_eq h
       exact goes_iter hgo25 ((IntKind.i64.wrap (s_22 + 1)), y102) () [0, 1, 2, 3, 4] rfl (qv7 rfl rfl rfl rfl rfl rfl rfl) (by decide) rfl
   ·replace h := cond_f h hc28
    refine run_exit _ rfl ?_
    obtain rfl := some_eq h
    obtain rfl := hstop26 _ rfl
    exact goes_cut hL20 (x_23, ()) [3, 4] (qv2 rfl rfl) (by decide) rfl rfl
  rintro ⟨x_17, _⟩ hj
  obtain rfl : o18 = _ := hj
  replace h := after_go ho19
  clear ho19
  change Run _ _ _ (VF.of [(3, .int .i64 (m_0.Code.length : Int)), (4, boxP b16 0)]) [box b16 [.map (some b15)], nmap b15 (fun n : Int => Value.int .i64 n) NC_compile_types_71 x_17]
  refine run_seq ?_
  refine run_seq ?_
  refine run_region' ?_
  refine oy rfl rfl (y_load_box 0 Try.isAgg72 rfl rfl rfl) ?_
  refine oy rfl rfl (y_move rfl) ?_
  refine ot rfl rfl (t_nlookup (C := NC_compile_types_71) (k := (m_0.Code.length : Int)) (z0 := (S_compile_types.mk [] [] [])) (q := ((mget x_17 (m_0.Code.length : Int)).getD (S_compile_types.mk [] [] []))) (g0 := ((.slice none 0 0), (.slice none 0 0), (.slice none 0 0))) 1 (key_int .i64) Try.runUnderlying72 Try.runUnderlying3 Try.zeroValue71 (has_all (has_true nil_ro_any (has_true nil_ro_any (has_true nil_ro_any has_nil)))) rfl rfl rfl rfl) ?_
  rintro _ _ ⟨⟨g109, g110, g111⟩, rfl, rfl⟩
  refine ot rfl rfl (t_alloc Try.zeroValue71) ?_
  rintro _ _ ⟨b112, rfl, rfl⟩
  refine ops_slc 2 rfl reads_ro (fun hs113 hs113o => ?_)
  refine ops_slc 3 rfl reads_ro (fun hs114 hs114o => ?_)
  refine ops_slc 4 rfl reads_ro (fun hs115 hs115o => ?_)
  refine ot rfl rfl (t_store 5 Try.sizeOf71 rfl rfl rfl rfl (by simp [Value.cells, boxP]) (allL_cons hs113o (allL_cons hs114o (allL_cons hs115o (allL_nil))))) ?_
  rintro _ _ ⟨rfl, rfl⟩
  refine ops_turn (retell 5 (g := box b112 [g109, g110, g111]) rfl rfl) ?_
  refine ops_nil ?_
  refine goes_code ?_
  refine run_seq ?_
  refine run_region' ?_
  refine oy rfl rfl (y_fieldAddr_box (sz := 0) Try.runUnderlying71 rfl Try.sizeOf22 rfl) ?_
  refine oy rfl rfl (y_load_box 5 Try.isAgg22 rfl rfl rfl) ?_
  refine oy rfl rfl ((y_len 2 rfl Try.runUnderlying22 rfl rfl reads_ro).to (v_len (eInt .i64) _)) ?_
  refine oy rfl rfl (y_gtr rfl rfl) ?_
  refine oy rfl rfl (y_move rfl) ?_
  refine ops_cut 5 (Bool) (fun σ => [(144, .bool σ)]) (fun σ => []) (fun σ => σ = (decide (0 < ((((mget x_17 (m_0.Code.length : Int)).getD (S_compile_types.mk [] [] [])).stack_).length : Int)) || decide (0 < ((((mget x_17 (m_0.Code.length : Int)).getD (S_compile_types.mk [] [] [])).loops_).length : Int)))) (fun L116 hL117 => ?_) ?_
  ·refine ops_split 139 (decide (0 < ((((mget x_17 (m_0.Code.length : Int)).getD (S_compile_types.mk [] [] [])).stack_).length : Int))) rfl (fun hg118 => ?_) (fun hg118 => ?_)
   ·skip
    refine ops_no 4 false 139 rfl rfl rfl rfl rfl ?_
    refine ops_no 4 false 139 rfl rfl rfl rfl rfl ?_
    refine ops_no 4 false 139 rfl rfl rfl rfl rfl ?_
    refine ops_no 4 false 139 rfl rfl rfl rfl rfl ?_
    refine oy rfl rfl (y_pick (b := true) rfl rfl) ?_
    refine ops_nil ?_
    exact goes_cut hL117 true [] (qv1 rfl) (by decide) rfl (by rw [hg118]; simp)
   ·skip
    refine ops_y (wg 4 false 139 rfl rfl rfl rfl) rfl (y_fieldAddr_box (sz := 0) Try.runUnderlying71 rfl Try.sizeOf22 rfl) ?_
    refine ops_y (wg 4 false 139 rfl rfl rfl rfl) rfl (y_load_box 5 Try.isAgg22 rfl rfl rfl) ?_
    refine ops_y (wg 4 false 139 rfl rfl rfl rfl) rfl ((y_len 4 rfl Try.runUnderlying22 rfl rfl reads_ro).to (v_len (eInt .i64) _)) ?_
    refine ops_y (wg 4 false 139 rfl rfl rfl rfl) rfl (y_gtr rfl rfl) ?_
    refine oy rfl rfl (y_pick (b := false) rfl rfl) ?_
    refine ops_nil ?_
    exact goes_cut hL117 (decide (0 < ((((mget x_17 (m_0.Code.length : Int)).getD (S_compile_types.mk [] [] [])).loops_).length : Int))) [] (qv1 rfl) (by decide) rfl (by rw [hg118]; simp)
  rintro _ rfl
  refine ops_nil ?_
  refine goes_code ?_
  refine run_cond (decide (0 < ((((mget x_17 (m_0.Code.length : Int)).getD (S_compile_types.mk [] [] [])).stack_).length : Int)) || decide (0 < ((((mget x_17 (m_0.Code.length : Int)).getD (S_compile_types.mk [] [] [])).loops_).length : Int))) rfl (fun hc119 => ?_) (fun hc119 => ?_)
  ·replace h := cond_t h hc119
   refine run_seq ?_
   refine run_region' ?_
   refine oy rfl rfl (y_assign rfl) ?_
   refine ops_nil ?_
   refine goes_code ?_
   refine run_ret ?_
   obtain rfl := some_eq h
   refine fin_slots [2] [.int .i64 280] [] [] Try.results14 rfl (by decide) rfl ?_
   exact ⟨rfl, rfl⟩
  ·replace h := cond_f h hc119
   refine run_skip ?_
   refine goes_code ?_
   refine run_seq ?_
   refine run_region' ?_
   refine oy rfl rfl (y_assign rfl) ?_
   refine ops_nil ?_
   refine goes_code ?_
   refine run_ret ?_
   obtain rfl := some_eq h
   refine fin_slots [2] [.int .i64 0] [] [] Try.results14 rfl (by decide) rfl ?_
   exact ⟨rfl, rfl⟩

end Go.Proofs.Ytgjdaamkfpbgpaa
