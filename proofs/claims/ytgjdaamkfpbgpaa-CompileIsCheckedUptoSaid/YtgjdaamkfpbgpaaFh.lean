/-
  Functions of the program, lifted: part 8.
-/
import Derived.Test.YtgjdaamkfpbgpaaFg
namespace Go.Proofs.Ytgjdaamkfpbgpaa
open Go.Abs
set_option linter.unusedVariables false
set_option linter.unusedSimpArgs false
set_option maxRecDepth 20000
set_option maxHeartbeats 4000000

def compile_Decode_L1 (r2 : (List (List UInt8)) × Int × Int) (r15 : (List Int) × Int × Int) : (Int × (List S_api_Instr)) → Option (Lp (Int × (List S_api_Instr)) (Lp ((List S_api_Instr)) (S_api_Module × Int))) :=
 fun (s_36, x_37) =>
  cond (decide (s_36 < ((r2.1.drop ((1 : Int).toNat)).length : Int)))
   (idx (r2.1.drop ((1 : Int).toNat)) s_36 fun x44 =>
   idx r15.1 (IntKind.i64.wrap (2 * s_36)) fun x45 =>
   idx r15.1 (IntKind.i64.wrap ((IntKind.i64.wrap (2 * s_36)) + 1)) fun x46 =>
   need (x_37.length + ([(S_api_Instr.mk x45 x46 x44)] : List S_api_Instr).length ≤ 4294967296) (
   some (.go ((IntKind.i64.wrap (s_36 + 1)), (x_37 ++ ([(S_api_Instr.mk x45 x46 x44)] : List S_api_Instr))))))
   (some (.stop (.go x_37)))
def compile_Decode (n : Nat) (b_0 : (List UInt8)) : Option (S_api_Module × Int) :=
 obind (wire_GetStrings n b_0) fun r2 =>
 cond (decide (r2.2.2 ≠ 0) || decide ((r2.1.length : Int) = 0))
  (some ((S_api_Module.mk [] ([] : List Int) ([] : List S_api_Instr)), 11))
  (need (0 ≤ r2.2.1 ∧ r2.2.1 ≤ (b_0.length : Int) ∧ (b_0.length : Int) ≤ (b_0.length : Int)) (
  obind (wire_GetInts n (b_0.drop ((r2.2.1).toNat))) fun r10 =>
  cond (decide (r10.2.2 ≠ 0))
   (some ((S_api_Module.mk [] ([] : List Int) ([] : List S_api_Instr)), 11))
   (need (0 ≤ (IntKind.i64.wrap (r2.2.1 + r10.2.1)) ∧ (IntKind.i64.wrap (r2.2.1 + r10.2.1)) ≤ (b_0.length : Int) ∧ (b_0.length : Int) ≤ (b_0.length : Int)) (
   obind (wire_GetInts n (b_0.drop (((IntKind.i64.wrap (r2.2.1 + r10.2.1))).toNat))) fun r15 =>
   cond ((decide (r15.2.2 ≠ 0) || decide ((IntKind.i64.wrap ((IntKind.i64.wrap (r2.2.1 + r10.2.1)) + r15.2.1)) ≠ (b_0.length : Int))) || decide ((r15.1.length : Int) ≠ (IntKind.i64.wrap ((IntKind.i64.wrap (2 * (r2.1.length : Int))) - 2))))
    (some ((S_api_Module.mk [] ([] : List Int) ([] : List S_api_Instr)), 11))
    (idx r2.1 0 fun x25 =>
    bindJ (S := (List S_api_Instr))
     (need (0 ≤ (1 : Int) ∧ 1 ≤ (r2.1.length : Int) ∧ (r2.1.length : Int) ≤ (r2.1.length : Int)) (
     iter (compile_Decode_L1 r2 r15) n (0, ([] : List S_api_Instr))))
    (fun x_29 =>
     obind (compile_Check n (S_api_Module.mk x25 r10.1 x_29)) fun r64 =>
     cond (decide (r64 ≠ 0))
      (some ((S_api_Module.mk [] ([] : List Int) ([] : List S_api_Instr)), 11))
      (some ((S_api_Module.mk x25 r10.1 x_29), 0))))))))
theorem compile_Decode_ok (n : Nat) (b_0 : (List UInt8)) (b_0v : Value) {r : S_api_Module × Int} (h : compile_Decode n b_0 = some r) :
  Meets Try.prog 12 [b_0v] [ro b_0v 1 (b_0.map eB8)] (fun v G => ∃ v0 v1, v = .tuple #[.agg #[.string (bs r.1.Name), v0, v1], .int .i64 r.2] ∧ G = [row v0 1 (r.1.Effects.map (eInt .i64)), row v1 3 (r.1.Code.map S_api_Instr.enc)]) := by
 refine fn_of_run Try.func12 rfl Try.ntmps12 rfl (fun w0 o0 => ?_)
 refine run_seq ?_
 refine run_region' ?_
 refine ot rfl rfl (t_alloc Try.zeroValue31) ?_
 rintro _ _ ⟨b1, rfl, rfl⟩
 refine oy rfl rfl (y_assign rfl) ?_
 refine ops_nil ?_
 refine goes_code ?_
 refine run_seq ?_
 refine run_region' ?_
 refine oy rfl rfl (y_move rfl) ?_
 obtain ⟨r2, hr3, h⟩ := obind_some h
 refine ot rfl rfl (t_callx (vs := [b_0v]) (cs := []) [(0, 0)] rfl Try.call24 rfl (wire_GetStrings_ok n  b_0 b_0v hr3) (showsX_view 0 rfl views_ro showsX_nil) rfl (.inl rfl)) ?_
 rintro _ _ ⟨_, ⟨v4, rfl, rfl⟩, rfl⟩
 refine oy rfl rfl (y_move rfl) ?_
 refine oy rfl rfl (y_extract rfl rfl) ?_
 refine oy rfl rfl (y_extract rfl rfl) ?_
 refine oy rfl rfl (y_extract rfl rfl) ?_
 refine oy rfl rfl (y_assign rfl) ?_
 refine oy rfl rfl (y_assign rfl) ?_
 refine oy rfl rfl (y_assign rfl) ?_
 refine ops_nil ?_
 refine goes_code ?_
 refine run_seq ?_
 refine run_seq ?_
 refine run_weak [(0, b_0v), (2, boxP b1 0), (4, v4), (5, .int .i64 r2.2.1), (6, .int .i64 r2.2.2)] [0, 1, 2] [ro b_0v 1 (b_0.map eB8), box b1 [.string (bs []), .slice none 0 0, .slice none 0 0], row v4 1 (r2.1.map eStr)] (qv5 rfl rfl rfl rfl rfl) (by decide) rfl ?_
 refine run_region' ?_
 refine oy rfl rfl (y_move rfl) ?_
 refine oy rfl rfl (y_neq rfl rfl) ?_
 refine oy rfl rfl (y_move rfl) ?_
 refine ops_cut 4 (Bool) (fun σ => [(0, b_0v), (2, boxP b1 0), (4, v4), (5, .int .i64 r2.2.1), (26, .bool σ)]) (fun σ => [ro b_0v 1 (b_0.map eB8), box b1 [.string (bs []), .slice none 0 0, .slice none 0 0], row v4 1 (r2.1.map eStr)]) (fun σ => σ = (decide (r2.2.2 ≠ 0) || decide ((r2.1.length : Int) = 0))) (fun L5 hL6 => ?_) ?_
 ·refine ops_split 22 (decide (r2.2.2 ≠ 0)) rfl (fun hg7 => ?_) (fun hg7 => ?_)
  ·skip
   refine ops_no 2 false 22 rfl rfl rfl rfl rfl ?_
   refine ops_no 2 false 22 rfl rfl rfl rfl rfl ?_
   refine ops_no 2 false 22 rfl rfl rfl rfl rfl ?_
   refine oy rfl rfl (y_pick (b := true) rfl rfl) ?_
   refine ops_nil ?_
   exact goes_cut hL6 true [0, 1, 2] (qv5 rfl rfl rfl rfl rfl) (by decide) rfl (by rw [hg7]; simp)
  ·skip
   refine ops_y (wg 2 false 22 rfl rfl rfl rfl) rfl (y_move rfl) ?_
   refine ops_y (wg 2 false 22 rfl rfl rfl rfl) rfl ((y_len 2 rfl Try.runUnderlying62 rfl rfl reads_row).to (v_len eStr _)) ?_
   refine ops_y (wg 2 false 22 rfl rfl rfl rfl) rfl (y_eql rfl rfl) ?_
   refine oy rfl rfl (y_pick (b := false) rfl rfl) ?_
   refine ops_nil ?_
   exact goes_cut hL6 (decide ((r2.1.length : Int) = 0)) [0, 1, 2] (qv5 rfl rfl rfl rfl rfl) (by decide) rfl (by rw [hg7]; simp)
 rintro _ rfl
 refine ops_nil ?_
 refine goes_code ?_
 refine run_cond (decide (r2.2.2 ≠ 0) || decide ((r2.1.length : Int) = 0)) rfl (fun hc8 => ?_) (fun hc8 => ?_)
 ·replace h := cond_t h hc8
  refine run_seq ?_
  refine run_region' ?_
  refine oy rfl rfl (y_build_struct (cells := #[.string (bs []), .slice none 0 0, .slice none 0 0]) [] [] Try.zeroValue31 Try.runUnderlying31 (fs_cons Try.sizeOf9 (fs_cons Try.sizeOf22 (fs_cons Try.sizeOf29 fs_nil))) rfl rfl rfl) ?_
  refine ot rfl rfl (t_store 1 Try.sizeOf31 rfl rfl rfl rfl (by simp [Value.cells, boxP]) (by simp [Value.cells, Value.oneCell', boxP])) ?_
  rintro _ _ ⟨rfl, rfl⟩
  refine ops_turn (retell 1 (g := box b1 [.string (bs []), .slice none 0 0, .slice none 0 0]) rfl rfl) ?_
  refine oy rfl rfl (y_assign rfl) ?_
  refine ops_nil ?_
  refine goes_code ?_
  refine run_ret ?_
  refine fin_turn (nilrow 1) ?_
  refine fin_turn (retell 3 (g := row (.slice none 0 0) 1 (([] : List Int).map (eInt .i64))) rfl rfl) ?_
  refine fin_turn (nilrow 3) ?_
  refine fin_turn (retell 4 (g := row (.slice none 0 0) 3 (([] : List S_api_Instr).map S_api_Instr.enc)) rfl rfl) ?_
  obtain rfl := some_eq h
  refine fin_res [.cell 2 31, .tmp 3] [.agg #[.string (bs []), (.slice none 0 0), (.slice none 0 0)], .int .i64 11] [3, 4] [row (.slice none 0 0) 1 (([] : List Int).map (eInt .i64)), row (.slice none 0 0) 3 (([] : List S_api_Instr).map S_api_Instr.enc)] Try.results12 rfl (rescons (res_box 1 Try.isAgg31 Try.sizeOf31 rfl rfl rfl) (rescons (res_tmp rfl) resnil)) (by decide) rfl ?_
  exact ⟨_, _, rfl, rfl⟩
 ·replace h := cond_f h hc8
  refine run_skip ?_
  refine goes_code ?_
  refine run_seq ?_
  refine run_region' ?_
  refine oy rfl rfl (y_move rfl) ?_
  refine oy rfl rfl (y_move rfl) ?_
  obtain ⟨hb9, h⟩ := need_some h
  refine oy rfl rfl (y_slice (l := r2.2.1) (r := (b_0.length : Int)) 0 Try.runUnderlying40 Try.sizeOf5 rfl rfl reads_ro (bi1 (kd := .i64) rfl) bi0m hb9.1 hb9.2.1 (map_len_le hb9.2.2)) ?_
  refine ops_turn (turn_sub (l := (r2.2.1).toNat) (r := ((b_0.length : Int)).toNat) 0 rfl (by first | omega | exact Int.toNat_le_toNat hb9.2.1) (map_toNat_le hb9.2.2)) ?_
  refine ops_turn (retell 3 (g := ro (subS b_0v 1 ((r2.2.1).toNat) (((b_0.length : Int)).toNat)) 1 ((b_0.drop ((r2.2.1).toNat)).map eB8)) rfl (congrArg (ro _ _) (sub_lo _ _ _))) ?_
  obtain ⟨r10, hr11, h⟩ := obind_some h
  refine ot rfl rfl (t_callx (vs := [(subS b_0v 1 ((r2.2.1).toNat) (((b_0.length : Int)).toNat))]) (cs := []) [(3, 0)] rfl Try.call25 rfl (wire_GetInts_ok n  (b_0.drop ((r2.2.1).toNat)) (subS b_0v 1 ((r2.2.1).toNat) (((b_0.length : Int)).toNat)) hr11) (showsX_view 3 rfl views_ro showsX_nil) rfl (.inl rfl)) ?_
  rintro _ _ ⟨_, ⟨v12, rfl, rfl⟩, rfl⟩
  refine oy rfl rfl (y_move rfl) ?_
  refine oy rfl rfl (y_extract rfl rfl) ?_
  refine oy rfl rfl (y_extract rfl rfl) ?_
  refine oy rfl rfl (y_extract rfl rfl) ?_
  refine oy rfl rfl (y_assign rfl) ?_
  refine oy rfl rfl (y_assign rfl) ?_
  refine oy rfl rfl (y_assign rfl) ?_
  refine ops_nil ?_
  refine goes_code ?_
  refine run_seq ?_
  refine run_seq ?_
  refine run_weak [(0, b_0v), (2, boxP b1 0), (4, v4), (5, .int .i64 r2.2.1), (7, v12), (8, .int .i64 r10.2.1), (6, .int .i64 r10.2.2)] [0, 1, 2, 4] [ro b_0v 1 (b_0.map eB8), box b1 [.string (bs []), .slice none 0 0, .slice none 0 0], row v4 1 (r2.1.map eStr), row v12 1 (r10.1.map (eInt .i64))] (qv7 rfl rfl rfl rfl rfl rfl rfl) (by decide) rfl ?_
  refine run_region' ?_
  refine oy rfl rfl (y_move rfl) ?_
  refine oy rfl rfl (y_neq rfl rfl) ?_
  refine ops_nil ?_
  refine goes_code ?_
  refine run_cond (decide (r10.2.2 ≠ 0)) rfl (fun hc13 => ?_) (fun hc13 => ?_)
  ·replace h := cond_t h hc13
   refine run_seq ?_
   refine run_region' ?_
   refine oy rfl rfl (y_build_struct (cells := #[.string (bs []), .slice none 0 0, .slice none 0 0]) [] [] Try.zeroValue31 Try.runUnderlying31 (fs_cons Try.sizeOf9 (fs_cons Try.sizeOf22 (fs_cons Try.sizeOf29 fs_nil))) rfl rfl rfl) ?_
   refine ot rfl rfl (t_store 1 Try.sizeOf31 rfl rfl rfl rfl (by simp [Value.cells, boxP]) (by simp [Value.cells, Value.oneCell', boxP])) ?_
   rintro _ _ ⟨rfl, rfl⟩
   refine ops_turn (retell 1 (g := box b1 [.string (bs []), .slice none 0 0, .slice none 0 0]) rfl rfl) ?_
   refine oy rfl rfl (y_assign rfl) ?_
   refine ops_nil ?_
   refine goes_code ?_
   refine run_ret ?_
   refine fin_turn (nilrow 1) ?_
   refine fin_turn (retell 4 (g := row (.slice none 0 0) 1 (([] : List Int).map (eInt .i64))) rfl rfl) ?_
   refine fin_turn (nilrow 3) ?_
   refine fin_turn (retell 5 (g := row (.slice none 0 0) 3 (([] : List S_api_Instr).map S_api_Instr.enc)) rfl rfl) ?_
   obtain rfl := some_eq h
   refine fin_res [.cell 2 31, .tmp 3] [.agg #[.string (bs []), (.slice none 0 0), (.slice none 0 0)], .int .i64 11] [4, 5] [row (.slice none 0 0) 1 (([] : List Int).map (eInt .i64)), row (.slice none 0 0) 3 (([] : List S_api_Instr).map S_api_Instr.enc)] Try.results12 rfl (rescons (res_box 1 Try.isAgg31 Try.sizeOf31 rfl rfl rfl) (rescons (res_tmp rfl) resnil)) (by decide) rfl ?_
   exact ⟨_, _, rfl, rfl⟩
  ·replace h := cond_f h hc13
   refine run_skip ?_
   refine goes_code ?_
   refine run_seq ?_
   refine run_region' ?_
   refine oy rfl rfl (y_move rfl) ?_
   refine oy rfl rfl (y_move rfl) ?_
   refine oy rfl rfl (y_move rfl) ?_
   refine oy rfl rfl (y_add rfl rfl) ?_
   obtain ⟨hb14, h⟩ := need_some h
   refine oy rfl rfl (y_slice (l := (IntKind.i64.wrap (r2.2.1 + r10.2.1))) (r := (b_0.length : Int)) 0 Try.runUnderlying40 Try.sizeOf5 rfl rfl reads_ro (bi1 (kd := .i64) rfl) bi0m hb14.1 hb14.2.1 (map_len_le hb14.2.2)) ?_
   refine ops_turn (turn_sub (l := ((IntKind.i64.wrap (r2.2.1 + r10.2.1))).toNat) (r := ((b_0.length : Int)).toNat) 0 rfl (by first | omega | exact Int.toNat_le_toNat hb14.2.1) (map_toNat_le hb14.2.2)) ?_
   refine ops_turn (retell 4 (g := ro (subS b_0v 1 (((IntKind.i64.wrap (r2.2.1 + r10.2.1))).toNat) (((b_0.length : Int)).toNat)) 1 ((b_0.drop (((IntKind.i64.wrap (r2.2.1 + r10.2.1))).toNat)).map eB8)) rfl (congrArg (ro _ _) (sub_lo _ _ _))) ?_
   obtain ⟨r15, hr16, h⟩ := obind_some h
   refine ot rfl rfl (t_callx (vs := [(subS b_0v 1 (((IntKind.i64.wrap (r2.2.1 + r10.2.1))).toNat) (((b_0.length : Int)).toNat))]) (cs := []) [(4, 0)] rfl Try.call25 rfl (wire_GetInts_ok n  (b_0.drop (((IntKind.i64.wrap (r2.2.1 + r10.2.1))).toNat)) (subS b_0v 1 (((IntKind.i64.wrap (r2.2.1 + r10.2.1))).toNat) (((b_0.length : Int)).toNat)) hr16) (showsX_view 4 rfl views_ro showsX_nil) rfl (.inl rfl)) ?_
   rintro _ _ ⟨_, ⟨v17, rfl, rfl⟩, rfl⟩
   refine oy rfl rfl (y_move rfl) ?_
   refine oy rfl rfl (y_extract rfl rfl) ?_
   refine oy rfl rfl (y_extract rfl rfl) ?_
   refine oy rfl rfl (y_extract rfl rfl) ?_
   refine oy rfl rfl (y_assign rfl) ?_
   refine oy rfl rfl (y_assign rfl) ?_
   refine oy rfl rfl (y_assign rfl) ?_
   refine ops_nil ?_
   refine goes_code ?_
   refine run_seq ?_
   refine run_seq ?_
   refine run_weak [(0, b_0v), (2, boxP b1 0), (4, v4), (5, .int .i64 r2.2.1), (7, v12), (8, .int .i64 r10.2.1), (6, .int .i64 r15.2.2), (9, v17), (10, .int .i64 r15.2.1)] [0, 1, 2, 3, 5] [ro b_0v 1 (b_0.map eB8), box b1 [.string (bs []), .slice none 0 0, .slice none 0 0], row v4 1 (r2.1.map eStr), row v12 1 (r10.1.map (eInt .i64)), row v17 1 (r15.1.map (eInt .i64))] (qv9 rfl rfl rfl rfl rfl rfl rfl rfl rfl) (by decide) rfl ?_
   refine run_region' ?_
   refine oy rfl rfl (y_move rfl) ?_
   refine oy rfl rfl (y_neq rfl rfl) ?_
   refine oy rfl rfl (y_move rfl) ?_
   refine ops_cut 9 (Bool) (fun σ => [(2, boxP b1 0), (4, v4), (7, v12), (9, v17), (60, .bool σ)]) (fun σ => [box b1 [.string (bs []), .slice none 0 0, .slice none 0 0], row v4 1 (r2.1.map eStr), row v12 1 (r10.1.map (eInt .i64)), row v17 1 (r15.1.map (eInt .i64))]) (fun σ => σ = (decide (r15.2.2 ≠ 0) || decide ((IntKind.i64.wrap ((IntKind.i64.wrap (r2.2.1 + r10.2.1)) + r15.2.1)) ≠ (b_0.length : Int)))) (fun L18 hL19 => ?_) ?_
   ·refine ops_split 51 (decide (r15.2.2 ≠ 0)) rfl (fun hg20 => ?_) (fun hg20 => ?_)
    ·skip
     refine ops_no 2 false 51 rfl rfl rfl rfl rfl ?_
     refine ops_no 2 false 51 rfl rfl rfl rfl rfl ?_
     refine ops_no 2 false 51 rfl rfl rfl rfl rfl ?_
     refine ops_no 2 false 51 rfl rfl rfl rfl rfl ?_
     refine ops_no 2 false 51 rfl rfl rfl rfl rfl ?_
     refine ops_no 2 false 51 rfl rfl rfl rfl rfl ?_
     refine ops_no 2 false 51 rfl rfl rfl rfl rfl ?_
     refine ops_no 2 false 51 rfl rfl rfl rfl rfl ?_
     refine oy rfl rfl (y_pick (b := true) rfl rfl) ?_
     refine ops_nil ?_
     exact goes_cut hL19 true [1, 2, 3, 4] (qv5 rfl rfl rfl rfl rfl) (by decide) rfl (by rw [hg20]; simp)
    ·skip
     refine ops_y (wg 2 false 51 rfl rfl rfl rfl) rfl (y_move rfl) ?_
     refine ops_y (wg 2 false 51 rfl rfl rfl rfl) rfl (y_move rfl) ?_
     refine ops_y (wg 2 false 51 rfl rfl rfl rfl) rfl (y_add rfl rfl) ?_
     refine ops_y (wg 2 false 51 rfl rfl rfl rfl) rfl (y_move rfl) ?_
     refine ops_y (wg 2 false 51 rfl rfl rfl rfl) rfl (y_add rfl rfl) ?_
     refine ops_y (wg 2 false 51 rfl rfl rfl rfl) rfl (y_move rfl) ?_
     refine ops_y (wg 2 false 51 rfl rfl rfl rfl) rfl ((y_len 0 rfl Try.runUnderlying40 rfl rfl reads_ro).to (v_len eB8 _)) ?_
     refine ops_y (wg 2 false 51 rfl rfl rfl rfl) rfl (y_neq rfl rfl) ?_
     refine oy rfl rfl (y_pick (b := false) rfl rfl) ?_
     refine ops_nil ?_
     exact goes_cut hL19 (decide ((IntKind.i64.wrap ((IntKind.i64.wrap (r2.2.1 + r10.2.1)) + r15.2.1)) ≠ (b_0.length : Int))) [1, 2, 3, 4] (qv5 rfl rfl rfl rfl rfl) (by decide) rfl (by rw [hg20]; simp)
   rintro _ rfl
   refine oy rfl rfl (y_move rfl) ?_
   refine ops_cut 8 (Bool) (fun σ => [(2, boxP b1 0), (4, v4), (7, v12), (9, v17), (69, .bool σ)]) (fun σ => [box b1 [.string (bs []), .slice none 0 0, .slice none 0 0], row v4 1 (r2.1.map eStr), row v12 1 (r10.1.map (eInt .i64)), row v17 1 (r15.1.map (eInt .i64))]) (fun σ => σ = ((decide (r15.2.2 ≠ 0) || decide ((IntKind.i64.wrap ((IntKind.i64.wrap (r2.2.1 + r10.2.1)) + r15.2.1)) ≠ (b_0.length : Int))) || decide ((r15.1.length : Int) ≠ (IntKind.i64.wrap ((IntKind.i64.wrap (2 * (r2.1.length : Int))) - 2))))) (fun L21 hL22 => ?_) ?_
   ·refine ops_split 61 (decide (r15.2.2 ≠ 0) || decide ((IntKind.i64.wrap ((IntKind.i64.wrap (r2.2.1 + r10.2.1)) + r15.2.1)) ≠ (b_0.length : Int))) rfl (fun hg23 => ?_) (fun hg23 => ?_)
    ·skip
     refine ops_no 12 false 61 rfl rfl rfl rfl rfl ?_
     refine ops_no 12 false 61 rfl rfl rfl rfl rfl ?_
     refine ops_no 12 false 61 rfl rfl rfl rfl rfl ?_
     refine ops_no 12 false 61 rfl rfl rfl rfl rfl ?_
     refine ops_no 12 false 61 rfl rfl rfl rfl rfl ?_
     refine ops_no 12 false 61 rfl rfl rfl rfl rfl ?_
     refine ops_no 12 false 61 rfl rfl rfl rfl rfl ?_
     refine oy rfl rfl (y_pick (b := true) rfl rfl) ?_
     refine ops_nil ?_
     exact goes_cut hL22 true [0, 1, 2, 3] (qv5 rfl rfl rfl rfl rfl) (by decide) rfl (by rw [hg23]; simp)
    ·skip
     refine ops_y (wg 12 false 61 rfl rfl rfl rfl) rfl (y_move rfl) ?_
     refine ops_y (wg 12 false 61 rfl rfl rfl rfl) rfl ((y_len 3 rfl Try.runUnderlying22 rfl rfl reads_row).to (v_len (eInt .i64) _)) ?_
     refine ops_y (wg 12 false 61 rfl rfl rfl rfl) rfl (y_move rfl) ?_
     refine ops_y (wg 12 false 61 rfl rfl rfl rfl) rfl ((y_len 1 rfl Try.runUnderlying62 rfl rfl reads_row).to (v_len eStr _)) ?_
     refine ops_y (wg 12 false 61 rfl rfl rfl rfl) rfl (y_mul rfl rfl) ?_
     refine ops_y (wg 12 false 61 rfl rfl rfl rfl) rfl (y_sub rfl rfl) ?_
     refine ops_y (wg 12 false 61 rfl rfl rfl rfl) rfl (y_neq rfl rfl) ?_
     refine oy rfl rfl (y_pick (b := false) rfl rfl) ?_
     refine ops_nil ?_
     exact goes_cut hL22 (decide ((r15.1.length : Int) ≠ (IntKind.i64.wrap ((IntKind.i64.wrap (2 * (r2.1.length : Int))) - 2)))) [0, 1, 2, 3] (qv5 rfl rfl rfl rfl rfl) (by decide) rfl (by rw [hg23]; simp)
   rintro _ rfl
   refine ops_nil ?_
   refine goes_code ?_
   refine run_cond ((decide (r15.2.2 ≠ 0) || decide ((IntKind.i64.wrap ((IntKind.i64.wrap (r2.2.1 + r10.2.1)) + r15.2.1)) ≠ (b_0.length : Int))) || decide ((r15.1.length : Int) ≠ (IntKind.i64.wrap ((IntKind.i64.wrap (2 * (r2.1.length : Int))) - 2)))) rfl (fun hc24 => ?_) (fun hc24 => ?_)
   ·replace h := cond_t h hc24
    refine run_seq ?_
    refine run_region' ?_
    refine oy rfl rfl (y_build_struct (cells := #[.string (bs []), .slice none 0 0, .slice none 0 0]) [] [] Try.zeroValue31 Try.runUnderlying31 (fs_cons Try.sizeOf9 (fs_cons Try.sizeOf22 (fs_cons Try.sizeOf29 fs_nil))) rfl rfl rfl) ?_
    refine ot rfl rfl (t_store 0 Try.sizeOf31 rfl rfl rfl rfl (by simp [Value.cells, boxP]) (by simp [Value.cells, Value.oneCell', boxP])) ?_
    rintro _ _ ⟨rfl, rfl⟩
    refine ops_turn (retell 0 (g := box b1 [.string (bs []), .slice none 0 0, .slice none 0 0]) rfl rfl) ?_
    refine oy rfl rfl (y_assign rfl) ?_
    refine ops_nil ?_
    refine goes_code ?_
    refine run_ret ?_
    refine fin_turn (nilrow 1) ?_
    refine fin_turn (retell 4 (g := row (.slice none 0 0) 1 (([] : List Int).map (eInt .i64))) rfl rfl) ?_
    refine fin_turn (nilrow 3) ?_
    refine fin_turn (retell 5 (g := row (.slice none 0 0) 3 (([] : List S_api_Instr).map S_api_Instr.enc)) rfl rfl) ?_
    obtain rfl := some_eq h
    refine fin_res [.cell 2 31, .tmp 3] [.agg #[.string (bs []), (.slice none 0 0), (.slice none 0 0)], .int .i64 11] [4, 5] [row (.slice none 0 0) 1 (([] : List Int).map (eInt .i64)), row (.slice none 0 0) 3 (([] : List S_api_Instr).map S_api_Instr.enc)] Try.results12 rfl (rescons (res_box 0 Try.isAgg31 Try.sizeOf31 rfl rfl rfl) (rescons (res_tmp rfl) resnil)) (by decide) rfl ?_
    exact ⟨_, _, rfl, rfl⟩
   ·replace h := cond_f h hc24
    refine run_skip ?_
    refine goes_code ?_
    refine run_seq ?_
    refine run_region' ?_
    refine oy rfl rfl (y_move rfl) ?_
    obtain ⟨x25, hzx25, hlx25, hxx25, h⟩ := idx_some h
    refine oy rfl rfl (y_indexAddrI (kd := .i64) (i := 0) 1 Try.runUnderlying62 Try.sizeOf9 rfl rfl rfl reads_row hzx25 (map_lt hlx25)) ?_
    refine oy rfl rfl (y_load_elem (i := (0 : Int).toNat) 1 Try.isAgg9 rfl rfl reads_row (map_get hxx25)) ?_
    refine oy rfl rfl (y_move rfl) ?_
    refine ops_slc 2 rfl reads_row (fun hs26 hs26o => ?_)
    refine oy rfl rfl (y_build_struct (cells := #[.string (bs x25), v12, .slice none 0 0]) [(0, .string (bs x25)), (1, v12)] [(0, [.string (bs x25)]), (1, [v12])] Try.zeroValue31 Try.runUnderlying31 (fs_cons Try.sizeOf9 (fs_cons Try.sizeOf22 (fs_cons Try.sizeOf29 fs_nil))) rfl (by first | (simp only [List.map_cons, List.map_nil, hs26]; done) | (simp only [List.map_cons, List.map_nil, hs26]; rfl)) rfl) ?_
    refine ot rfl rfl (t_alloc Try.zeroValue31) ?_
    rintro _ _ ⟨b27, rfl, rfl⟩
    refine ops_slc 2 rfl reads_row (fun hs28 hs28o => ?_)
    refine ot rfl rfl (t_store 4 Try.sizeOf31 rfl rfl rfl rfl (by simp [Value.cells, boxP]) (allL_cons rfl (allL_cons hs28o (allL_cons rfl (allL_nil))))) ?_
    rintro _ _ ⟨rfl, rfl⟩
    refine ops_turn (retell 4 (g := box b27 [.string (bs x25), v12, .slice none 0 0]) rfl rfl) ?_
    refine ops_nil ?_
    refine goes_code ?_
    obtain ⟨o31, h, ho32⟩ := bindJ_some h
    refine run_cut (((List S_api_Instr)) × (Value)) (fun σ => [(2, boxP b1 0), (11, boxP b27 0)]) (fun σ => [box b1 [.string (bs []), .slice none 0 0, .slice none 0 0], box b27 [.string (bs x25), v12, σ.2], row v12 1 (r10.1.map (eInt .i64)), row σ.2 3 (σ.1.map S_api_Instr.enc)]) (fun σ => o31 = .go σ.1) (fun L34 hL33 => ?_) ?_
    ·
     refine run_seq ?_
     refine run_region' ?_
     refine oy rfl rfl (y_move rfl) ?_
     obtain ⟨hb35, h⟩ := need_some h
     refine ops_turn (Go.Abs.freeze 1 rfl) ?_
     refine oy rfl rfl (y_slice (l := 1) (r := (r2.1.length : Int)) 1 Try.runUnderlying62 Try.sizeOf9 rfl rfl reads_ro (bi1 (kd := .i64) rfl) bi0m hb35.1 hb35.2.1 (map_len_le hb35.2.2)) ?_
     refine ops_turn (turn_sub (l := (1 : Int).toNat) (r := ((r2.1.length : Int)).toNat) 1 rfl (by first | omega | exact Int.toNat_le_toNat hb35.2.1) (map_toNat_le hb35.2.2)) ?_
     refine ops_turn (retell 5 (g := ro (subS v4 1 ((1 : Int).toNat) (((r2.1.length : Int)).toNat)) 1 ((r2.1.drop ((1 : Int).toNat)).map eStr)) rfl (congrArg (ro _ _) (sub_lo _ _ _))) ?_
     refine oy rfl rfl ((y_len 5 rfl Try.runUnderlying62 rfl rfl reads_ro).to (v_len eStr _)) ?_
     refine oy rfl rfl (y_move rfl) ?_
     refine ops_nil ?_
     refine goes_code ?_
     refine run_block ?_
     refine run_turn (nilrow 3) ?_
     refine run_turn (retell 6 (g := row (.slice none 0 0) 3 (([] : List S_api_Instr).map S_api_Instr.enc)) rfl rfl) ?_
     refine run_iter (step := compile_Decode_L1 r2 r15) (n := n) (s0 := (0, ([] : List S_api_Instr))) h (G := Value) (.slice none 0 0) (fun σ γ => [(79, .int .i64 σ.1), (2, boxP b1 0), (9, v17), (11, boxP b27 0), (77, (subS v4 1 ((1 : Int).toNat) (((r2.1.length : Int)).toNat))), (78, .int .i64 ((r2.1.drop ((1 : Int).toNat)).length : Int))]) (fun σ γ => [box b1 [.string (bs []), .slice none 0 0, .slice none 0 0], row v17 1 (r15.1.map (eInt .i64)), box b27 [.string (bs x25), v12, γ], row v12 1 (r10.1.map (eInt .i64)), row γ 3 (σ.2.map S_api_Instr.enc), ro (subS v4 1 ((1 : Int).toNat) (((r2.1.length : Int)).toNat)) 1 ((r2.1.drop ((1 : Int).toNat)).map eStr)]) [0, 3, 4, 2, 6, 5] (qv6 rfl rfl rfl rfl rfl rfl) (by decide) rfl ?_
     rintro ⟨s_36, x_37⟩ v38 o39 h L42 hgo40 hstop41
     change Run _ _ _ (VF.of [(79, .int .i64 s_36), (2, boxP b1 0), (9, v17), (11, boxP b27 0), (77, (subS v4 1 ((1 : Int).toNat) (((r2.1.length : Int)).toNat))), (78, .int .i64 ((r2.1.drop ((1 : Int).toNat)).length : Int))]) [box b1 [.string (bs []), .slice none 0 0, .slice none 0 0], row v17 1 (r15.1.map (eInt .i64)), box b27 [.string (bs x25), v12, v38], row v12 1 (r10.1.map (eInt .i64)), row v38 3 (x_37.map S_api_Instr.enc), ro (subS v4 1 ((1 : Int).toNat) (((r2.1.length : Int)).toNat)) 1 ((r2.1.drop ((1 : Int).toNat)).map eStr)]
     refine run_seq ?_
     refine run_region' ?_
     refine oy rfl rfl (y_lss rfl rfl) ?_
     refine ops_nil ?_
     refine goes_code ?_
     refine run_seq ?_
     refine run_cond (decide (s_36 < ((r2.1.drop ((1 : Int).toNat)).length : Int))) rfl (fun hc43 => ?_) (fun hc43 => ?_)
     ·replace h := cond_t h hc43
      refine run_skip ?_
      refine goes_code ?_
      refine run_seq ?_
      refine run_block ?_
      refine run_seq ?_
      refine run_region' ?_
      refine oy rfl rfl (y_move rfl) ?_
      obtain ⟨x44, hzx44, hlx44, hxx44, h⟩ := idx_some h
      refine oy rfl rfl (y_indexAddrI (kd := .i64) (i := s_36) 5 Try.runUnderlying62 Try.sizeOf9 rfl rfl rfl reads_ro hzx44 (map_lt hlx44)) ?_
      refine oy rfl rfl (y_load_elem (i := s_36.toNat) 5 Try.isAgg9 rfl rfl reads_ro (map_get hxx44)) ?_
      refine oy rfl rfl (y_assign rfl) ?_
      refine oy rfl rfl (y_assign rfl) ?_
      refine ops_nil ?_
      refine goes_code ?_
      obtain ⟨x45, hzx45, hlx45, hxx45, h⟩ := idx_some h
      obtain ⟨x46, hzx46, hlx46, hxx46, h⟩ := idx_some h
      obtain ⟨hr49, h⟩ := need_some h
      refine run_drawany [box b1 [.string (bs []), .slice none 0 0, .slice none 0 0], row v17 1 (r15.1.map (eInt .i64)), HA.emp, row v12 1 (r10.1.map (eInt .i64)), HA.emp, ro (subS v4 1 ((1 : Int).toNat) (((r2.1.length : Int)).toNat)) 1 ((r2.1.drop ((1 : Int).toNat)).map eStr)] (by kernel_rfl) ?_
      refine any_y 0 rfl (by kernel_rfl) (by kernel_rfl) (by kernel_rfl) (ss (ss (se (ss (se (ss (sn))))))) (wn rfl) rfl (y_fieldAddr_box (sz := 0) Try.runUnderlying31 rfl Try.sizeOf29 rfl) ?_
      refine any_y 2 rfl (by kernel_rfl) (by kernel_rfl) (by kernel_rfl) (ss (ss (se (ss (se (ss (sn))))))) (wn rfl) rfl (y_move rfl) ?_
      refine any_y 3 rfl (by kernel_rfl) (by kernel_rfl) (by kernel_rfl) (ss (ss (se (ss (se (ss (sn))))))) (wn rfl) rfl (y_move rfl) ?_
      refine any_y 4 rfl (by kernel_rfl) (by kernel_rfl) (by kernel_rfl) (ss (ss (se (ss (se (ss (sn))))))) (wn rfl) rfl (y_mul rfl rfl) ?_
      refine any_y 5 rfl (by kernel_rfl) (by kernel_rfl) (by kernel_rfl) (ss (ss (se (ss (se (ss (sn))))))) (wn rfl) rfl (y_indexAddrI (kd := .i64) (i := (IntKind.i64.wrap (2 * s_36))) 1 Try.runUnderlying22 Try.sizeOf3 rfl rfl rfl reads_row hzx45 (map_lt hlx45)) ?_
      refine any_y 6 rfl (by kernel_rfl) (by kernel_rfl) (by kernel_rfl) (ss (ss (se (ss (se (ss (sn))))))) (wn rfl) rfl (y_load_elem (i := ((IntKind.i64.wrap (2 * s_36))).toNat) 1 Try.isAgg3 rfl rfl reads_row (map_get hxx45)) ?_
      refine any_y 7 rfl (by kernel_rfl) (by kernel_rfl) (by kernel_rfl) (ss (ss (se (ss (se (ss (sn))))))) (wn rfl) rfl (y_move rfl) ?_
      refine any_y 8 rfl (by kernel_rfl) (by kernel_rfl) (by kernel_rfl) (ss (ss (se (ss (se (ss (sn))))))) (wn rfl) rfl (y_move rfl) ?_
      refine any_y 9 rfl (by kernel_rfl) (by kernel_rfl) (by kernel_rfl) (ss (ss (se (ss (se (ss (sn))))))) (wn rfl) rfl (y_mul rfl rfl) ?_
      refine any_y 10 rfl (by kernel_rfl) (by kernel_rfl) (by kernel_rfl) (ss (ss (se (ss (se (ss (sn))))))) (wn rfl) rfl (y_add rfl rfl) ?_
      refine any_y 11 rfl (by kernel_rfl) (by kernel_rfl) (by kernel_rfl) (ss (ss (se (ss (se (ss (sn))))))) (wn rfl) rfl (y_indexAddrI (kd := .i64) (i := (IntKind.i64.wrap ((IntKind.i64.wrap (2 * s_36)) + 1))) 1 Try.runUnderlying22 Try.sizeOf3 rfl rfl rfl reads_row hzx46 (map_lt hlx46)) ?_
      refine any_y 12 rfl (by kernel_rfl) (by kernel_rfl) (by kernel_rfl) (ss (ss (se (ss (se (ss (sn))))))) (wn rfl) rfl (y_load_elem (i := ((IntKind.i64.wrap ((IntKind.i64.wrap (2 * s_36)) + 1))).toNat) 1 Try.isAgg3 rfl rfl reads_row (map_get hxx46)) ?_
      refine any_y 13 rfl (by kernel_rfl) (by kernel_rfl) (by kernel_rfl) (ss (ss (se (ss (se (ss (sn))))))) (wn rfl) rfl (y_move rfl) ?_
      refine any_y 14 rfl (by kernel_rfl) (by kernel_rfl) (by kernel_rfl) (ss (ss (se (ss (se (ss (sn))))))) (wn rfl) rfl (y_build_struct (cells := #[.int .i64 x45, .int .i64 x46, .string (bs x44)]) [(0, .int .i64 x45), (1, .int .i64 x46), (2, .string (bs x44))] [(0, [.int .i64 x45]), (1, [.int .i64 x46]), (2, [.string (bs x44)])] Try.zeroValue55 Try.runUnderlying55 (fs_cons Try.sizeOf3 (fs_cons Try.sizeOf3 (fs_cons Try.sizeOf9 fs_nil))) rfl rfl rfl) ?_
      refine any_cut2 #[true, true, true, true, true, true, true, true, true, true, true, true, true, true, true, true, true, true, true] 0 (Value × Value) (fun σ => [(79, .int .i64 s_36), (2, boxP b1 0), (9, v17), (11, boxP b27 0), (77, (subS v4 1 ((1 : Int).toNat) (((r2.1.length : Int)).toNat))), (78, .int .i64 ((r2.1.drop ((1 : Int).toNat)).length : Int))]) (fun σ => [box b1 [.string (bs []), .slice none 0 0, .slice none 0 0], row v17 1 (r15.1.map (eInt .i64)), box b27 [.string (bs x25), v12, σ.1], row v12 1 (r10.1.map (eInt .i64)), row σ.1 3 ((x_37 ++ ([(S_api_Instr.mk x45 x46 x44)] : List S_api_Instr)).map S_api_Instr.enc), ro (subS v4 1 ((1 : Int).toNat) (((r2.1.length : Int)).toNat)) 1 ((r2.1.drop ((1 : Int).toNat)).map eStr), row σ.2 3 (([(S_api_Instr.mk x45 x46 x44)] : List S_api_Instr).map S_api_Instr.enc)]) ?_ (fun hK55 => ?_)
      ·rintro ⟨v53, v52⟩
       change AnyL _ _ _ _ _ (VF.of [(79, .int .i64 s_36), (2, boxP b1 0), (9, v17), (11, boxP b27 0), (77, (subS v4 1 ((1 : Int).toNat) (((r2.1.length : Int)).toNat))), (78, .int .i64 ((r2.1.drop ((1 : Int).toNat)).length : Int))]) [box b1 [.string (bs []), .slice none 0 0, .slice none 0 0], row v17 1 (r15.1.map (eInt .i64)), box b27 [.string (bs x25), v12, v53], row v12 1 (r10.1.map (eInt .i64)), row v53 3 ((x_37 ++ ([(S_api_Instr.mk x45 x46 x44)] : List S_api_Instr)).map S_api_Instr.enc), ro (subS v4 1 ((1 : Int).toNat) (((r2.1.length : Int)).toNat)) 1 ((r2.1.drop ((1 : Int).toNat)).map eStr), row v52 3 (([(S_api_Instr.mk x45 x46 x44)] : List S_api_Instr).map S_api_Instr.enc)] _
       refine any_nil (by kernel_rfl) ?_
       refine goes_blk ?_
       refine goes_code ?_
       refine run_region' ?_
       refine oy rfl rfl (y_add rfl rfl) ?_
       refine oy rfl rfl (y_move rfl) ?_
       refine ops_nil ?_
       obtain rfl := some_eq h
       exact goes_iter hgo40 ((IntKind.i64.wrap (s_36 + 1)), (x_37 ++ ([(S_api_Instr.mk x45 x46 x44)] : List S_api_Instr))) v53 [0, 1, 2, 3, 4, 5] rfl (qv6 rfl rfl rfl rfl rfl rfl) (by decide) rfl
      refine any_cut2 #[true, true, true, true, true, true, true, true, true, true, true, true, true, true, true, true, true, true, false] 1 (Value × Value) (fun σ => [(79, .int .i64 s_36), (2, boxP b1 0), (9, v17), (11, boxP b27 0), (77, (subS v4 1 ((1 : Int).toNat) (((r2.1.length : Int)).toNat))), (78, .int .i64 ((r2.1.drop ((1 : Int).toNat)).length : Int)), (100, σ.1), (101, boxP b27 2)]) (fun σ => [box b1 [.string (bs []), .slice none 0 0, .slice none 0 0], row v17 1 (r15.1.map (eInt .i64)), box b27 [.string (bs x25), v12, v38], row v12 1 (r10.1.map (eInt .i64)), row σ.1 3 ((x_37 ++ ([(S_api_Instr.mk x45 x46 x44)] : List S_api_Instr)).map S_api_Instr.enc), ro (subS v4 1 ((1 : Int).toNat) (((r2.1.length : Int)).toNat)) 1 ((r2.1.drop ((1 : Int).toNat)).map eStr), row σ.2 3 (([(S_api_Instr.mk x45 x46 x44)] : List S_api_Instr).map S_api_Instr.enc)]) ?_ (fun hK56 => ?_)
      ·rintro ⟨v53, v52⟩
       change AnyL _ _ _ _ _ (VF.of [(79, .int .i64 s_36), (2, boxP b1 0), (9, v17), (11, boxP b27 0), (77, (subS v4 1 ((1 : Int).toNat) (((r2.1.length : Int)).toNat))), (78, .int .i64 ((r2.1.drop ((1 : Int).toNat)).length : Int)), (100, v53), (101, boxP b27 2)]) [box b1 [.string (bs []), .slice none 0 0, .slice none 0 0], row v17 1 (r15.1.map (eInt .i64)), box b27 [.string (bs x25), v12, v38], row v12 1 (r10.1.map (eInt .i64)), row v53 3 ((x_37 ++ ([(S_api_Instr.mk x45 x46 x44)] : List S_api_Instr)).map S_api_Instr.enc), ro (subS v4 1 ((1 : Int).toNat) (((r2.1.length : Int)).toNat)) 1 ((r2.1.drop ((1 : Int).toNat)).map eStr), row v52 3 (([(S_api_Instr.mk x45 x46 x44)] : List S_api_Instr).map S_api_Instr.enc)] _
       refine any_all [18] (by kernel_rfl) rfl ?_
       refine anyo_cons ?_ ?_
       ·
        refine anyo_slc 4 rfl reads_row (fun hs57 hs57o => ?_)
        refine any_t rfl (wn rfl) rfl (t_store 2 Try.sizeOf29 rfl rfl rfl (by rw [hs57]; rfl) (by simp [Value.cells, boxP]) (by rw [hs57]; exact allL_cons hs57o (allL_nil))) ?_
        rintro _ _ ⟨rfl, rfl⟩
        refine ⟨(ss (ss (se (ss (se (ss (sn))))))), ?_⟩
        refine any_turn (retell 2 (g := box b27 [.string (bs x25), v12, v53]) rfl (by rw [hs57]; rfl)) ?_
        exact any_weak2 (hK55 (v53, v52)) [0, 1, 2, 3, 4, 5, 6] (by kernel_rfl) (qv6 rfl rfl rfl rfl rfl rfl) (by decide) rfl
       exact anyo_nil
      refine any_cut2 #[true, true, true, true, true, true, true, true, true, true, true, true, true, true, true, true, false, false, false] 3 (Value) (fun σ => [(79, .int .i64 s_36), (2, boxP b1 0), (9, v17), (11, boxP b27 0), (77, (subS v4 1 ((1 : Int).toNat) (((r2.1.length : Int)).toNat))), (78, .int .i64 ((r2.1.drop ((1 : Int).toNat)).length : Int)), (85, v38), (99, σ)]) (fun σ => [box b1 [.string (bs []), .slice none 0 0, .slice none 0 0], row v17 1 (r15.1.map (eInt .i64)), box b27 [.string (bs x25), v12, v38], row v12 1 (r10.1.map (eInt .i64)), row v38 3 (x_37.map S_api_Instr.enc), ro (subS v4 1 ((1 : Int).toNat) (((r2.1.length : Int)).toNat)) 1 ((r2.1.drop ((1 : Int).toNat)).map eStr), row σ 3 (([(S_api_Instr.mk x45 x46 x44)] : List S_api_Instr).map S_api_Instr.enc)]) ?_ (fun hK58 => ?_)
      ·rintro v52
       change AnyL _ _ _ _ _ (VF.of [(79, .int .i64 s_36), (2, boxP b1 0), (9, v17), (11, boxP b27 0), (77, (subS v4 1 ((1 : Int).toNat) (((r2.1.length : Int)).toNat))), (78, .int .i64 ((r2.1.drop ((1 : Int).toNat)).length : Int)), (85, v38), (99, v52)]) [box b1 [.string (bs []), .slice none 0 0, .slice none 0 0], row v17 1 (r15.1.map (eInt .i64)), box b27 [.string (bs x25), v12, v38], row v12 1 (r10.1.map (eInt .i64)), row v38 3 (x_37.map S_api_Instr.enc), ro (subS v4 1 ((1 : Int).toNat) (((r2.1.length : Int)).toNat)) 1 ((r2.1.drop ((1 : Int).toNat)).map eStr), row v52 3 (([(S_api_Instr.mk x45 x46 x44)] : List S_api_Instr).map S_api_Instr.enc)] _
       refine any_all [16] (by kernel_rfl) rfl ?_
       refine anyo_cons ?_ ?_
       ·
        refine any_t rfl (wn rfl) rfl (t_append (es := 3) 4 rfl Try.runUnderlying29 rfl Try.runUnderlying29 (.inr ⟨_, rfl⟩) Try.typeInfo55 rfl (by decide) Try.zeroValue55 rfl rfl rfl rfl (src_reads 6 rfl reads_row (map_ok S_api_Instr.enc_ok _)) (map_room hr49 (by decide)) (map_fit hr49)) ?_
        rintro v59 _ rfl
        refine ⟨(ss (ss (se (ss (se (ss (sn))))))), ?_⟩
        refine any_turn (retell 4 (g := row v59 3 ((x_37 ++ ([(S_api_Instr.mk x45 x46 x44)] : List S_api_Instr)).map S_api_Instr.enc)) rfl (congrArg (row _ _) List.map_append.symm)) ?_
        refine any_y 17 rfl (by kernel_rfl) (by kernel_rfl) (by kernel_rfl) (ss (ss (se (ss (se (ss (sn))))))) (wn rfl) rfl (y_fieldAddr_box (sz := 0) Try.runUnderlying31 rfl Try.sizeOf29 rfl) ?_
        exact any_weak2 (hK56 (v59, v52)) [0, 1, 2, 3, 4, 5, 6] (by kernel_rfl) (qv8 rfl rfl rfl rfl rfl rfl rfl rfl) (by decide) rfl
       exact anyo_nil
      refine any_cut2 #[true, true, true, true, true, true, true, true, true, true, true, true, true, true, true, false, false, false, false] 4 (Unit) (fun σ => [(79, .int .i64 s_36), (2, boxP b1 0), (9, v17), (11, boxP b27 0), (77, (subS v4 1 ((1 : Int).toNat) (((r2.1.length : Int)).toNat))), (78, .int .i64 ((r2.1.drop ((1 : Int).toNat)).length : Int)), (98, .agg #[.int .i64 x45, .int .i64 x46, .string (bs x44)]), (85, v38)]) (fun σ => [box b1 [.string (bs []), .slice none 0 0, .slice none 0 0], row v17 1 (r15.1.map (eInt .i64)), box b27 [.string (bs x25), v12, v38], row v12 1 (r10.1.map (eInt .i64)), row v38 3 (x_37.map S_api_Instr.enc), ro (subS v4 1 ((1 : Int).toNat) (((r2.1.length : Int)).toNat)) 1 ((r2.1.drop ((1 : Int).toNat)).map eStr)]) ?_ (fun hK60 => ?_)
      ·rintro _
       change AnyL _ _ _ _ _ (VF.of [(79, .int .i64 s_36), (2, boxP b1 0), (9, v17), (11, boxP b27 0), (77, (subS v4 1 ((1 : Int).toNat) (((r2.1.length : Int)).toNat))), (78, .int .i64 ((r2.1.drop ((1 : Int).toNat)).length : Int)), (98, .agg #[.int .i64 x45, .int .i64 x46, .string (bs x44)]), (85, v38)]) [box b1 [.string (bs []), .slice none 0 0, .slice none 0 0], row v17 1 (r15.1.map (eInt .i64)), box b27 [.string (bs x25), v12, v38], row v12 1 (r10.1.map (eInt .i64)), row v38 3 (x_37.map S_api_Instr.enc), ro (subS v4 1 ((1 : Int).toNat) (((r2.1.length : Int)).toNat)) 1 ((r2.1.drop ((1 : Int).toNat)).map eStr)] _
       refine any_all [15] (by kernel_rfl) rfl ?_
       refine anyo_cons ?_ ?_
       ·
        refine any_t rfl (wn rfl) rfl (t_lit [.agg #[.int .i64 x45, .int .i64 x46, .string (bs x44)]] Try.runUnderlying29 Try.sizeOf55 Try.zeroValue55 rfl (by decide) (by decide) rfl (by simp [Value.cells, boxP])) ?_
        rintro v61 _ ⟨rfl, _⟩
        refine ⟨(ss (ss (se (ss (se (ss (sn))))))), ?_⟩
        refine any_turn (retell 6 (g := row v61 3 (([(S_api_Instr.mk x45 x46 x44)] : List S_api_Instr).map S_api_Instr.enc)) rfl rfl) ?_
        exact any_weak2 (hK58 v61) [0, 1, 2, 3, 4, 5, 6] (by kernel_rfl) (qv8 rfl rfl rfl rfl rfl rfl rfl rfl) (by decide) rfl
       exact anyo_nil
      refine any_cut2 #[true, false, true, true, true, true, true, true, true, true, true, true, true, true, true, true, false, false, false] 4 (Value) (fun σ => [(79, .int .i64 s_36), (2, boxP b1 0), (9, v17), (11, boxP b27 0), (77, (subS v4 1 ((1 : Int).toNat) (((r2.1.length : Int)).toNat))), (78, .int .i64 ((r2.1.drop ((1 : Int).toNat)).length : Int)), (84, boxP b27 2), (99, σ)]) (fun σ => [box b1 [.string (bs []), .slice none 0 0, .slice none 0 0], row v17 1 (r15.1.map (eInt .i64)), box b27 [.string (bs x25), v12, v38], row v12 1 (r10.1.map (eInt .i64)), row v38 3 (x_37.map S_api_Instr.enc), ro (subS v4 1 ((1 : Int).toNat) (((r2.1.length : Int)).toNat)) 1 ((r2.1.drop ((1 : Int).toNat)).map eStr), row σ 3 (([(S_api_Instr.mk x45 x46 x44)] : List S_api_Instr).map S_api_Instr.enc)]) ?_ (fun hK62 => ?_)
      ·rintro v51
       change AnyL _ _ _ _ _ (VF.of [(79, .int .i64 s_36), (2, boxP b1 0), (9, v17), (11, boxP b27 0), (77, (subS v4 1 ((1 : Int).toNat) (((r2.1.length : Int)).toNat))), (78, .int .i64 ((r2.1.drop ((1 : Int).toNat)).length : Int)), (84, boxP b27 2), (99, v51)]) [box b1 [.string (bs []), .slice none 0 0, .slice none 0 0], row v17 1 (r15.1.map (eInt .i64)), box b27 [.string (bs x25), v12, v38], row v12 1 (r10.1.map (eInt .i64)), row v38 3 (x_37.map S_api_Instr.enc), ro (subS v4 1 ((1 : Int).toNat) (((r2.1.length : Int)).toNat)) 1 ((r2.1.drop ((1 : Int).toNat)).map eStr), row v51 3 (([(S_api_Instr.mk x45 x46 x44)] : List S_api_Instr).map S_api_Instr.enc)] _
       refine any_all [1] (by kernel_rfl) rfl ?_
       refine anyo_cons ?_ ?_
       ·
        refine any_ty rfl (wn rfl) rfl (y_load_box 2 Try.isAgg29 rfl rfl rfl) ⟨(ss (ss (se (ss (se (ss (sn))))))), ?_⟩
        exact any_weak2 (hK58 v51) [0, 1, 2, 3, 4, 5, 6] (by kernel_rfl) (qv8 rfl rfl rfl rfl rfl rfl rfl rfl) (by decide) rfl
       exact anyo_nil
      refine any_all [1, 15] (by kernel_rfl) rfl ?_
      refine anyo_cons ?_ ?_
      ·
       refine any_ty rfl (wn rfl) rfl (y_load_box 2 Try.isAgg29 rfl rfl rfl) ⟨(ss (ss (se (ss (se (ss (sn))))))), ?_⟩
       exact any_weak2 (hK60 ()) [0, 1, 2, 3, 4, 5] (by kernel_rfl) (qv8 rfl rfl rfl rfl rfl rfl rfl rfl) (by decide) rfl
      refine anyo_cons ?_ ?_
      ·
       refine any_t rfl (wn rfl) rfl (t_lit [.agg #[.int .i64 x45, .int .i64 x46, .string (bs x44)]] Try.runUnderlying29 Try.sizeOf55 Try.zeroValue55 rfl (by decide) (by decide) rfl (by simp [Value.cells, boxP])) ?_
       rintro v63 _ ⟨rfl, _⟩
       refine ⟨(ss (ss (se (ss (se (ss (sn))))))), ?_⟩
       refine any_turn (retell 6 (g := row v63 3 (([(S_api_Instr.mk x45 x46 x44)] : List S_api_Instr).map S_api_Instr.enc)) rfl rfl) ?_
       exact any_weak2 (hK62 v63) [0, 1, 2, 3, 4, 5, 6] (by kernel_rfl) (qv8 rfl rfl rfl rfl rfl rfl rfl rfl) (by decide) rfl
      exact anyo_nil
     ·replace h := cond_f h hc43
      refine run_exit _ rfl ?_
      obtain rfl := some_eq h
      obtain rfl := hstop41 _ rfl
      exact goes_cut hL33 (x_37, v38) [0, 2, 3, 4] (qv2 rfl rfl) (by decide) rfl rfl
    rintro ⟨x_29, v30⟩ hj
    obtain rfl : o31 = _ := hj
    replace h := after_go ho32
    clear ho32
    change Run _ _ _ (VF.of [(2, boxP b1 0), (11, boxP b27 0)]) [box b1 [.string (bs []), .slice none 0 0, .slice none 0 0], box b27 [.string (bs x25), v12, v30], row v12 1 (r10.1.map (eInt .i64)), row v30 3 (x_29.map S_api_Instr.enc)]
    refine run_seq ?_
    refine run_seq ?_
    refine run_region' ?_
    refine oy rfl rfl (y_load_boxagg (c := [.string (bs x25), v12, v30]) 1 Try.isAgg31 Try.sizeOf31 rfl rfl rfl) ?_
    obtain ⟨r64, hr65, h⟩ := obind_some h
    refine ot rfl rfl (t_callx (vs := [.agg #[.string (bs x25), v12, v30]]) (cs := []) [(2, 1), (3, 1)] rfl Try.call14 rfl (compile_Check_ok n  (S_api_Module.mk x25 r10.1 x_29) v12 v30 hr65) (showsX_look 2 rfl views_row (showsX_look 3 rfl views_row showsX_nil)) rfl (.inr (by rintro _ _ ⟨rfl, rfl⟩ g hg; first | (cases hg; done) | (simp only [List.mem_cons, List.not_mem_nil, or_false] at hg; first | (subst hg; first | exact strict_row | exact strict_box) | (rcases hg with rfl | rfl <;> first | exact strict_row | exact strict_box) | (rcases hg with rfl | rfl | rfl <;> first | exact strict_row | exact strict_box))))) ?_
    rintro _ _ ⟨_, ⟨rfl, rfl⟩, rfl⟩
    refine oy rfl rfl (y_neq rfl rfl) ?_
    refine ops_nil ?_
    refine goes_code ?_
    refine run_cond (decide (r64 ≠ 0)) rfl (fun hc66 => ?_) (fun hc66 => ?_)
    ·replace h := cond_t h hc66
     refine run_seq ?_
     refine run_region' ?_
     refine oy rfl rfl (y_build_struct (cells := #[.string (bs []), .slice none 0 0, .slice none 0 0]) [] [] Try.zeroValue31 Try.runUnderlying31 (fs_cons Try.sizeOf9 (fs_cons Try.sizeOf22 (fs_cons Try.sizeOf29 fs_nil))) rfl rfl rfl) ?_
     refine ot rfl rfl (t_store 0 Try.sizeOf31 rfl rfl rfl rfl (by simp [Value.cells, boxP]) (by simp [Value.cells, Value.oneCell', boxP])) ?_
     rintro _ _ ⟨rfl, rfl⟩
     refine ops_turn (retell 0 (g := box b1 [.string (bs []), .slice none 0 0, .slice none 0 0]) rfl rfl) ?_
     refine oy rfl rfl (y_assign rfl) ?_
     refine ops_nil ?_
     refine goes_code ?_
     refine run_ret ?_
     refine fin_turn (nilrow 1) ?_
     refine fin_turn (retell 4 (g := row (.slice none 0 0) 1 (([] : List Int).map (eInt .i64))) rfl rfl) ?_
     refine fin_turn (nilrow 3) ?_
     refine fin_turn (retell 5 (g := row (.slice none 0 0) 3 (([] : List S_api_Instr).map S_api_Instr.enc)) rfl rfl) ?_
     obtain rfl := some_eq h
     refine fin_res [.cell 2 31, .tmp 3] [.agg #[.string (bs []), (.slice none 0 0), (.slice none 0 0)], .int .i64 11] [4, 5] [row (.slice none 0 0) 1 (([] : List Int).map (eInt .i64)), row (.slice none 0 0) 3 (([] : List S_api_Instr).map S_api_Instr.enc)] Try.results12 rfl (rescons (res_box 0 Try.isAgg31 Try.sizeOf31 rfl rfl rfl) (rescons (res_tmp rfl) resnil)) (by decide) rfl ?_
     exact ⟨_, _, rfl, rfl⟩
    ·replace h := cond_f h hc66
     refine run_skip ?_
     refine goes_code ?_
     refine run_seq ?_
     refine run_region' ?_
     refine oy rfl rfl (y_load_boxagg (c := [.string (bs x25), v12, v30]) 1 Try.isAgg31 Try.sizeOf31 rfl rfl rfl) ?_
     refine ops_slc 2 rfl reads_row (fun hs67 hs67o => ?_)
     refine ops_slc 3 rfl reads_row (fun hs68 hs68o => ?_)
     refine ot rfl rfl (t_store 0 Try.sizeOf31 rfl rfl rfl rfl (by simp [Value.cells, boxP]) (allL_cons rfl (allL_cons hs67o (allL_cons hs68o (allL_nil))))) ?_
     rintro _ _ ⟨rfl, rfl⟩
     refine ops_turn (retell 0 (g := box b1 [.string (bs x25), v12, v30]) rfl rfl) ?_
     refine oy rfl rfl (y_assign rfl) ?_
     refine ops_nil ?_
     refine goes_code ?_
     refine run_ret ?_
     obtain rfl := some_eq h
     refine fin_res [.cell 2 31, .tmp 3] [.agg #[.string (bs x25), v12, v30], .int .i64 0] [2, 3] [row v12 1 (r10.1.map (eInt .i64)), row v30 3 (x_29.map S_api_Instr.enc)] Try.results12 rfl (rescons (res_box 0 Try.isAgg31 Try.sizeOf31 rfl rfl rfl) (rescons (res_tmp rfl) resnil)) (by decide) rfl ?_
     exact ⟨_, _, rfl, rfl⟩

def ref28_Same_v1_L1 (a_0 : S_api_Module) (b_1 : S_api_Module) : (Int) → Option (Lp (Int) (Lp (Unit) (Bool))) :=
 fun i_19 =>
  cond (decide (i_19 < (a_0.Code.length : Int)))
   (idx a_0.Code i_19 fun x25 =>
   idx b_1.Code i_19 fun x26 =>
   cond (!(decide (x25.Op = x26.Op) && (decide (x25.A = x26.A) && (decide (x25.S = x26.S)))))
    (some (.stop (.stop false)))
    (some (.go (IntKind.i64.wrap (i_19 + 1)))))
   (some (.stop (.go ())))
def ref28_Same_v1 (n : Nat) (a_0 : S_api_Module) (b_1 : S_api_Module) : Option (Bool) :=
 bindJ (S := Bool)
  (cond (!decide (a_0.Name = b_1.Name))
   (some (.go true))
   (obind (ref28_ints n a_0.Effects b_1.Effects) fun r9 =>
   some (.go (!r9))))
 (fun b3 =>
  cond (b3 || decide ((a_0.Code.length : Int) ≠ (b_1.Code.length : Int)))
   (some false)
   (bindJ (S := Unit)
    (iter (ref28_Same_v1_L1 a_0 b_1) n 0)
   (fun _ =>
    some true)))
theorem ref28_Same_v1_ok (n : Nat) (a_0 : S_api_Module) (b_1 : S_api_Module) (a_0_Effectsv : Value) (a_0_Codev : Value) (b_1_Effectsv : Value) (b_1_Codev : Value) {r : Bool} (h : ref28_Same_v1 n a_0 b_1 = some r) :
  Meets Try.prog 11 [.agg #[.string (bs a_0.Name), a_0_Effectsv, a_0_Codev], .agg #[.string (bs b_1.Name), b_1_Effectsv, b_1_Codev]] [ro a_0_Effectsv 1 (a_0.Effects.map (eInt .i64)), ro a_0_Codev 3 (a_0.Code.map S_api_Instr.enc), ro b_1_Effectsv 1 (b_1.Effects.map (eInt .i64)), ro b_1_Codev 3 (b_1.Code.map S_api_Instr.enc)] (fun v G => v = .bool r ∧ G = []) := by
 refine fn_of_run Try.func11 rfl Try.ntmps11 rfl (fun w0 o0 => ?_)
 refine run_seq ?_
 refine run_region' ?_
 refine ot rfl rfl (t_box rfl) ?_
 rintro _ _ ⟨b1, rfl, rfl⟩
 refine ot rfl rfl (t_box rfl) ?_
 rintro _ _ ⟨b2, rfl, rfl⟩
 refine oy rfl rfl (y_assign rfl) ?_
 refine ops_nil ?_
 refine goes_code ?_
 refine run_seq ?_
 refine run_seq ?_
 refine run_region' ?_
 refine oy rfl rfl (y_fieldAddr_box (sz := 0) Try.runUnderlying31 rfl Try.sizeOf9 rfl) ?_
 refine oy rfl rfl (y_load_box 4 Try.isAgg9 rfl rfl rfl) ?_
 refine oy rfl rfl (y_fieldAddr_box (sz := 0) Try.runUnderlying31 rfl Try.sizeOf9 rfl) ?_
 refine oy rfl rfl (y_load_box 5 Try.isAgg9 rfl rfl rfl) ?_
 refine oy rfl rfl (y_sneq rfl rfl) ?_
 refine oy rfl rfl (y_move rfl) ?_
 obtain ⟨o4, h, ho5⟩ := bindJ_some h
 refine ops_cut 7 (Bool) (fun σ => [(2, boxP b1 0), (3, boxP b2 0), (18, .bool σ)]) (fun σ => [ro a_0_Effectsv 1 (a_0.Effects.map (eInt .i64)), ro a_0_Codev 3 (a_0.Code.map S_api_Instr.enc), ro b_1_Effectsv 1 (b_1.Effects.map (eInt .i64)), ro b_1_Codev 3 (b_1.Code.map S_api_Instr.enc), box b1 [.string (bs a_0.Name), a_0_Effectsv, a_0_Codev], box b2 [.string (bs b_1.Name), b_1_Effectsv, b_1_Codev]]) (fun σ => o4 = .go σ) (fun L6 hL7 => ?_) ?_
 ·refine ops_split 11 (!decide (a_0.Name = b_1.Name)) rfl (fun hg8 => ?_) (fun hg8 => ?_)
  ·replace h := cond_t h hg8
   refine ops_no 5 false 11 rfl rfl rfl rfl rfl ?_
   refine ops_no 5 false 11 rfl rfl rfl rfl rfl ?_
   refine ops_no 5 false 11 rfl rfl rfl rfl rfl ?_
   refine ops_no 5 false 11 rfl rfl rfl rfl rfl ?_
   refine ops_no 5 false 11 rfl rfl rfl rfl rfl ?_
   refine ops_no 5 false 11 rfl rfl rfl rfl rfl ?_
   refine ops_weak [(2, boxP b1 0), (3, boxP b2 0), (11, .bool true), (17, undef)] [0, 1, 2, 3, 4, 5] [ro a_0_Effectsv 1 (a_0.Effects.map (eInt .i64)), ro a_0_Codev 3 (a_0.Code.map S_api_Instr.enc), ro b_1_Effectsv 1 (b_1.Effects.map (eInt .i64)), ro b_1_Codev 3 (b_1.Code.map S_api_Instr.enc), box b1 [.string (bs a_0.Name), a_0_Effectsv, a_0_Codev], box b2 [.string (bs b_1.Name), b_1_Effectsv, b_1_Codev]] (qv4 rfl rfl rfl rfl) (by decide) rfl ?_
   refine oy rfl rfl (y_pick (b := true) rfl rfl) ?_
   refine ops_nil ?_
   obtain rfl := some_eq h
   exact goes_cut hL7 true [0, 1, 2, 3, 4, 5] (qv3 rfl rfl rfl) (by decide) rfl rfl
  ·replace h := cond_f h hg8
   refine ops_y (wg 5 false 11 rfl rfl rfl rfl) rfl (y_fieldAddr_box (sz := 0) Try.runUnderlying31 rfl Try.sizeOf22 rfl) ?_
   refine ops_y (wg 5 false 11 rfl rfl rfl rfl) rfl (y_load_box 4 Try.isAgg22 rfl rfl rfl) ?_
   refine ops_y (wg 5 false 11 rfl rfl rfl rfl) rfl (y_fieldAddr_box (sz := 0) Try.runUnderlying31 rfl Try.sizeOf22 rfl) ?_
   refine ops_y (wg 5 false 11 rfl rfl rfl rfl) rfl (y_load_box 5 Try.isAgg22 rfl rfl rfl) ?_
   obtain ⟨r9, hr10, h⟩ := obind_some h
   refine ops_t (wg 5 false 11 rfl rfl rfl rfl) rfl (t_callx (vs := [a_0_Effectsv, b_1_Effectsv]) (cs := []) [(0, 0), (2, 0)] rfl Try.call23 rfl (ref28_ints_ok n  a_0.Effects b_1.Effects a_0_Effectsv b_1_Effectsv hr10) (showsX_view 0 rfl views_ro (showsX_view 2 rfl views_ro showsX_nil)) rfl (.inl rfl)) ?_
   rintro _ _ ⟨_, ⟨rfl, rfl⟩, rfl⟩
   refine ops_y (wg 5 false 11 rfl rfl rfl rfl) rfl (y_not rfl) ?_
   refine ops_weak [(2, boxP b1 0), (3, boxP b2 0), (11, .bool false), (17, .bool (!r9))] [0, 1, 2, 3, 4, 5] [ro a_0_Effectsv 1 (a_0.Effects.map (eInt .i64)), ro a_0_Codev 3 (a_0.Code.map S_api_Instr.enc), ro b_1_Effectsv 1 (b_1.Effects.map (eInt .i64)), ro b_1_Codev 3 (b_1.Code.map S_api_Instr.enc), box b1 [.string (bs a_0.Name), a_0_Effectsv, a_0_Codev], box b2 [.string (bs b_1.Name), b_1_Effectsv, b_1_Codev]] (qv4 rfl rfl rfl rfl) (by decide) rfl ?_
   refine oy rfl rfl (y_pick (b := false) rfl rfl) ?_
   refine ops_nil ?_
   obtain rfl := some_eq h
   exact goes_cut hL7 (!r9) [0, 1, 2, 3, 4, 5] (qv3 rfl rfl rfl) (by decide) rfl rfl
 rintro b3 hj
 obtain rfl : o4 = _ := hj
 replace h := after_go ho5
 clear ho5
 refine oy rfl rfl (y_move rfl) ?_
 refine ops_cut 8 (Bool) (fun σ => [(2, boxP b1 0), (3, boxP b2 0), (27, .bool σ)]) (fun σ => [ro a_0_Effectsv 1 (a_0.Effects.map (eInt .i64)), ro a_0_Codev 3 (a_0.Code.map S_api_Instr.enc), ro b_1_Effectsv 1 (b_1.Effects.map (eInt .i64)), ro b_1_Codev 3 (b_1.Code.map S_api_Instr.enc), box b1 [.string (bs a_0.Name), a_0_Effectsv, a_0_Codev], box b2 [.string (bs b_1.Name), b_1_Effectsv, b_1_Codev]]) (fun σ => σ = (b3 || decide ((a_0.Code.length : Int) ≠ (b_1.Code.length : Int)))) (fun L11 hL12 => ?_) ?_
 ·refine ops_split 19 b3 rfl (fun hg13 => ?_) (fun hg13 => ?_)
  ·skip
   refine ops_no 13 false 19 rfl rfl rfl rfl rfl ?_
   refine ops_no 13 false 19 rfl rfl rfl rfl rfl ?_
   refine ops_no 13 false 19 rfl rfl rfl rfl rfl ?_
   refine ops_no 13 false 19 rfl rfl rfl rfl rfl ?_
   refine ops_no 13 false 19 rfl rfl rfl rfl rfl ?_
   refine ops_no 13 false 19 rfl rfl rfl rfl rfl ?_
   refine ops_no 13 false 19 rfl rfl rfl rfl rfl ?_
   refine oy rfl rfl (y_pick (b := true) rfl rfl) ?_
   refine ops_nil ?_
   exact goes_cut hL12 true [0, 1, 2, 3, 4, 5] (qv3 rfl rfl rfl) (by decide) rfl (by rw [hg13]; simp)
  ·skip
   refine ops_y (wg 13 false 19 rfl rfl rfl rfl) rfl (y_fieldAddr_box (sz := 0) Try.runUnderlying31 rfl Try.sizeOf29 rfl) ?_
   refine ops_y (wg 13 false 19 rfl rfl rfl rfl) rfl (y_load_box 4 Try.isAgg29 rfl rfl rfl) ?_
   refine ops_y (wg 13 false 19 rfl rfl rfl rfl) rfl ((y_len 1 rfl Try.runUnderlying29 rfl rfl reads_ro).to (v_len S_api_Instr.enc _)) ?_
   refine ops_y (wg 13 false 19 rfl rfl rfl rfl) rfl (y_fieldAddr_box (sz := 0) Try.runUnderlying31 rfl Try.sizeOf29 rfl) ?_
   refine ops_y (wg 13 false 19 rfl rfl rfl rfl) rfl (y_load_box 5 Try.isAgg29 rfl rfl rfl) ?_
   refine ops_y (wg 13 false 19 rfl rfl rfl rfl) rfl ((y_len 3 rfl Try.runUnderlying29 rfl rfl reads_ro).to (v_len S_api_Instr.enc _)) ?_
   refine ops_y (wg 13 false 19 rfl rfl rfl rfl) rfl (y_neq rfl rfl) ?_
   refine oy rfl rfl (y_pick (b := false) rfl rfl) ?_
   refine ops_nil ?_
   exact goes_cut hL12 (decide ((a_0.Code.length : Int) ≠ (b_1.Code.length : Int))) [0, 1, 2, 3, 4, 5] (qv3 rfl rfl rfl) (by decide) rfl (by rw [hg13]; simp)
 rintro _ rfl
 refine ops_nil ?_
 refine goes_code ?_
 refine run_cond (b3 || decide ((a_0.Code.length : Int) ≠ (b_1.Code.length : Int))) rfl (fun hc14 => ?_) (fun hc14 => ?_)
 ·replace h := cond_t h hc14
  refine run_seq ?_
  refine run_region' ?_
  refine oy rfl rfl (y_assign rfl) ?_
  refine ops_nil ?_
  refine goes_code ?_
  refine run_ret ?_
  obtain rfl := some_eq h
  refine fin_slots [4] [.bool false] [] [] Try.results11 rfl (by decide) rfl ?_
  exact ⟨rfl, rfl⟩
 ·replace h := cond_f h hc14
  refine run_skip ?_
  refine goes_code ?_
  obtain ⟨o15, h, ho16⟩ := bindJ_some h
  refine run_cut ((Unit) × (Unit)) (fun σ => []) (fun σ => []) (fun σ => o15 = .go σ.1) (fun L18 hL17 => ?_) ?_
  ·
   refine run_seq ?_
   refine run_region' ?_
   refine oy rfl rfl (y_assign rfl) ?_
   refine ops_nil ?_
   refine goes_code ?_
   refine run_block ?_
   refine run_iter (step := ref28_Same_v1_L1 a_0 b_1) (n := n) (s0 := 0) h (G := Unit) () (fun σ γ => [(5, .int .i64 σ), (2, boxP b1 0), (3, boxP b2 0)]) (fun σ γ => [box b1 [.string (bs a_0.Name), a_0_Effectsv, a_0_Codev], ro a_0_Effectsv 1 (a_0.Effects.map (eInt .i64)), ro a_0_Codev 3 (a_0.Code.map S_api_Instr.enc), box b2 [.string (bs b_1.Name), b_1_Effectsv, b_1_Codev], ro b_1_Effectsv 1 (b_1.Effects.map (eInt .i64)), ro b_1_Codev 3 (b_1.Code.map S_api_Instr.enc)]) [4, 0, 1, 5, 2, 3] (qv3 rfl rfl rfl) (by decide) rfl ?_
   rintro i_19 _ o20 h L23 hgo21 hstop22
   change Run _ _ _ (VF.of [(5, .int .i64 i_19), (2, boxP b1 0), (3, boxP b2 0)]) [box b1 [.string (bs a_0.Name), a_0_Effectsv, a_0_Codev], ro a_0_Effectsv 1 (a_0.Effects.map (eInt .i64)), ro a_0_Codev 3 (a_0.Code.map S_api_Instr.enc), box b2 [.string (bs b_1.Name), b_1_Effectsv, b_1_Codev], ro b_1_Effectsv 1 (b_1.Effects.map (eInt .i64)), ro b_1_Codev 3 (b_1.Code.map S_api_Instr.enc)]
   refine run_seq ?_
   refine run_seq ?_
   refine run_region' ?_
   refine oy rfl rfl (y_move rfl) ?_
   refine oy rfl rfl (y_fieldAddr_box (sz := 0) Try.runUnderlying31 rfl Try.sizeOf29 rfl) ?_
   refine oy rfl rfl (y_load_box 0 Try.isAgg29 rfl rfl rfl) ?_
   refine oy rfl rfl ((y_len 2 rfl Try.runUnderlying29 rfl rfl reads_ro).to (v_len S_api_Instr.enc _)) ?_
   refine oy rfl rfl (y_lss rfl rfl) ?_
   refine ops_nil ?_
   refine goes_code ?_
   refine run_cond (decide (i_19 < (a_0.Code.length : Int))) rfl (fun hc24 => ?_) (fun hc24 => ?_)
   ·replace h := cond_t h hc24
    refine run_skip ?_
    refine goes_code ?_
    refine run_seq ?_
    refine run_block ?_
    refine run_seq ?_
    refine run_draw (by kernel_rfl) (by kernel_rfl) ?_
    refine sy rfl rfl (y_fieldAddr_box (sz := 0) Try.runUnderlying31 rfl Try.sizeOf29 rfl) ?_
    refine sy rfl rfl (y_load_box 0 Try.isAgg29 rfl rfl rfl) ?_
    refine sy rfl rfl (y_move rfl) ?_
    obtain ⟨x25, hzx25, hlx25, hxx25, h⟩ := idx_some h
    refine sy rfl rfl (y_indexAddrI (kd := .i64) (i := i_19) 2 Try.runUnderlying29 Try.sizeOf55 rfl rfl rfl reads_ro hzx25 (map_lt hlx25)) ?_
    refine sy rfl rfl (y_load_agg (i := i_19.toNat) (c := [.int .i64 x25.Op, .int .i64 x25.A, .string (bs x25.S)]) 2 Try.isAgg55 Try.sizeOf55 rfl rfl reads_ro (map_get hxx25)) ?_
    refine sy rfl rfl (y_fieldAddr_box (sz := 0) Try.runUnderlying31 rfl Try.sizeOf29 rfl) ?_
    refine sy rfl rfl (y_load_box 3 Try.isAgg29 rfl rfl rfl) ?_
    refine sy rfl rfl (y_move rfl) ?_
    obtain ⟨x26, hzx26, hlx26, hxx26, h⟩ := idx_some h
    refine sy rfl rfl (y_indexAddrI (kd := .i64) (i := i_19) 5 Try.runUnderlying29 Try.sizeOf55 rfl rfl rfl reads_ro hzx26 (map_lt hlx26)) ?_
    refine sy rfl rfl (y_load_agg (i := i_19.toNat) (c := [.int .i64 x26.Op, .int .i64 x26.A, .string (bs x26.S)]) 5 Try.isAgg55 Try.sizeOf55 rfl rfl reads_ro (map_get hxx26)) ?_
    refine sy rfl rfl (y_neS (by kernel_rfl) (by kernel_rfl) Try.runUnderlying55 rfl rfl (.cons (eqf_int (by decide) Try.runUnderlying3 Try.isAgg3 rfl rfl) (.cons (eqf_int (by decide) Try.runUnderlying3 Try.isAgg3 rfl rfl) (.cons (eqf_str (by decide) Try.runUnderlying9 Try.isAgg9 rfl rfl) EqFs.nil)))) ?_
    refine still_nil ?_
    refine goes_code ?_
    refine run_cond (!(decide (x25.Op = x26.Op) && (decide (x25.A = x26.A) && (decide (x25.S = x26.S))))) rfl (fun hc27 => ?_) (fun hc27 => ?_)
    ·replace h := cond_t h hc27
     refine run_seq ?_
     refine run_weak [] [] [] vnil (by decide) rfl ?_
     refine run_region' ?_
     refine oy rfl rfl (y_assign rfl) ?_
     refine ops_nil ?_
     refine goes_code ?_
     refine run_ret ?_
     obtain rfl := some_eq h
     obtain rfl := hstop22 _ rfl
     skip
     obtain rfl := after_stop ho16
     refine fin_slots [4] [.bool false] [] [] Try.results11 rfl (by decide) rfl ?_
     exact ⟨rfl, rfl⟩
    ·replace h := cond_f h hc27
     refine run_skip ?_
     refine goes_blk ?_
     refine goes_code ?_
     refine run_weak [(5, .int .i64 i_19), (2, boxP b1 0), (3, boxP b2 0)] [0, 1, 2, 3, 4, 5] [box b1 [.string (bs a_0.Name), a_0_Effectsv, a_0_Codev], ro a_0_Effectsv 1 (a_0.Effects.map (eInt .i64)), ro a_0_Codev 3 (a_0.Code.map S_api_Instr.enc), box b2 [.string (bs b_1.Name), b_1_Effectsv, b_1_Codev], ro b_1_Effectsv 1 (b_1.Effects.map (eInt .i64)), ro b_1_Codev 3 (b_1.Code.map S_api_Instr.enc)] (qv3 rfl rfl rfl) (by decide) rfl ?_
     refine run_region' ?_
     refine oy rfl rfl (y_move rfl) ?_
     refine oy rfl rfl (y_add rfl rfl) ?_
     refine oy rfl rfl (y_assign rfl) ?_
     refine ops_nil ?_
     obtain rfl := some_eq h
     exact goes_iter hgo21 (IntKind.i64.wrap (i_19 + 1)) () [0, 1, 2, 3, 4, 5] rfl (qv3 rfl rfl rfl) (by decide) rfl
   ·replace h := cond_f h hc24
    refine run_exit _ rfl ?_
    obtain rfl := some_eq h
    obtain rfl := hstop22 _ rfl
    exact goes_cut hL17 ((), ()) [] vnil (by decide) rfl rfl
  rintro ⟨_, _⟩ hj
  obtain rfl : o15 = _ := hj
  replace h := after_go ho16
  clear ho16
  change Run _ _ _ (VF.of []) []
  refine run_seq ?_
  refine run_region' ?_
  refine oy rfl rfl (y_assign rfl) ?_
  refine ops_nil ?_
  refine goes_code ?_
  refine run_ret ?_
  obtain rfl := some_eq h
  refine fin_slots [4] [.bool true] [] [] Try.results11 rfl (by decide) rfl ?_
  exact ⟨rfl, rfl⟩

def law28_wrong (n : Nat) (at_0 : Int) (x_1 : S_api_Instr) : Option (Bool) :=
 obind (law28_code) fun r2 =>
 idx r2 at_0 fun x5 =>
 obind (compile_Check_v1 n (S_api_Module.mk [112] ([] : List Int) (r2.set at_0.toNat x_1))) fun r8 =>
 some (decide (r8 = 280))
theorem law28_wrong_ok (n : Nat) (at_0 : Int) (x_1 : S_api_Instr)  {r : Bool} (h : law28_wrong n at_0 x_1 = some r) :
  Meets Try.prog 20 [.int .i64 at_0, .agg #[.int .i64 x_1.Op, .int .i64 x_1.A, .string (bs x_1.S)]] [] (fun v G => v = .bool r ∧ G = []) := by
 refine fn_of_run Try.func20 rfl Try.ntmps20 rfl (fun w0 o0 => ?_)
 refine run_seq ?_
 refine run_region' ?_
 refine ot rfl rfl (t_box rfl) ?_
 rintro _ _ ⟨b1, rfl, rfl⟩
 refine oy rfl rfl (y_assign rfl) ?_
 refine ops_nil ?_
 refine goes_code ?_
 refine run_seq ?_
 refine run_region' ?_
 obtain ⟨r2, hr3, h⟩ := obind_some h
 refine ot rfl rfl (t_callx (vs := []) (cs := []) [] rfl Try.call19 rfl (law28_code_ok    hr3) showsX_nil rfl (.inl rfl)) ?_
 rintro v4 _ ⟨_, ⟨_, rfl, rfl⟩, rfl⟩
 refine oy rfl rfl (y_assign rfl) ?_
 refine ops_nil ?_
 refine goes_code ?_
 refine run_seq ?_
 refine run_region' ?_
 refine oy rfl rfl (y_move rfl) ?_
 refine oy rfl rfl (y_move rfl) ?_
 refine oy rfl rfl (y_load_boxagg (c := [.int .i64 x_1.Op, .int .i64 x_1.A, .string (bs x_1.S)]) 0 Try.isAgg55 Try.sizeOf55 rfl rfl rfl) ?_
 obtain ⟨x5, hzx5, hlx5, hxx5, h⟩ := idx_some h
 refine oy rfl rfl (y_indexAddrI (kd := .i64) (i := at_0) 1 Try.runUnderlying29 Try.sizeOf55 rfl rfl rfl reads_row hzx5 (map_lt hlx5)) ?_
 refine ot rfl rfl (t_store_row (i := at_0.toNat) (j := 0) (c := S_api_Instr.enc x5) 1 Try.sizeOf55 rfl rfl rfl rfl (map_get hxx5) (by decide) (by simp [Value.cells, Value.oneCell', boxP])) ?_
 rintro _ _ ⟨rfl, rfl⟩
 obtain hxx6 : ((r2.set at_0.toNat x_1) : List S_api_Instr)[at_0.toNat]? = some x_1 := set_at hlx5
 obtain hlx6 : at_0.toNat < ((r2.set at_0.toNat x_1) : List S_api_Instr).length := set_lt hlx5
 obtain hzx6 : (0 : Int) ≤ at_0 := id hzx5
 refine ops_turn (retell 1 (g := row v4 3 ((r2.set at_0.toNat x_1).map S_api_Instr.enc)) rfl (congrArg (row _ _) (map_set_at rfl))) ?_
 refine ops_nil ?_
 refine goes_code ?_
 refine run_seq ?_
 refine run_weak [(5, v4)] [1] [row v4 3 ((r2.set at_0.toNat x_1).map S_api_Instr.enc)] (qv1 rfl) (by decide) rfl ?_
 refine run_region' ?_
 refine oy rfl rfl (y_move rfl) ?_
 refine ops_slc 0 rfl reads_row (fun hs7 hs7o => ?_)
 refine oy rfl rfl (y_build_struct (cells := #[.string (bs [112]), .slice none 0 0, v4]) [(0, .string (bs [112])), (2, v4)] [(0, [.string (bs [112])]), (2, [v4])] Try.zeroValue31 Try.runUnderlying31 (fs_cons Try.sizeOf9 (fs_cons Try.sizeOf22 (fs_cons Try.sizeOf29 fs_nil))) rfl (by first | (simp only [List.map_cons, List.map_nil, hs7]; done) | (simp only [List.map_cons, List.map_nil, hs7]; rfl)) rfl) ?_
 refine ops_turn (nilrow 1) ?_
 refine ops_turn (retell 1 (g := row (.slice none 0 0) 1 (([] : List Int).map (eInt .i64))) rfl rfl) ?_
 obtain ⟨r8, hr9, h⟩ := obind_some h
 refine ot rfl rfl (t_callx (vs := [.agg #[.string (bs [112]), (.slice none 0 0), v4]]) (cs := []) [(1, 2), (0, 1)] rfl Try.call14 rfl (compile_Check_v1_ok n  (S_api_Module.mk [112] ([] : List Int) (r2.set at_0.toNat x_1)) (.slice none 0 0) v4 hr9) (showsX_lend 1 rfl (showsX_look 0 rfl views_row showsX_nil)) rfl (.inr (by rintro _ _ ⟨rfl, rfl⟩ g hg; first | (cases hg; done) | (simp only [List.mem_cons, List.not_mem_nil, or_false] at hg; first | (subst hg; first | exact strict_row | exact strict_box) | (rcases hg with rfl | rfl <;> first | exact strict_row | exact strict_box) | (rcases hg with rfl | rfl | rfl <;> first | exact strict_row | exact strict_box))))) ?_
 rintro _ _ ⟨_, ⟨rfl, rfl⟩, rfl⟩
 refine oy rfl rfl (y_eql rfl rfl) ?_
 refine oy rfl rfl (y_assign rfl) ?_
 refine ops_nil ?_
 refine goes_code ?_
 refine run_ret ?_
 obtain rfl := some_eq h
 refine fin_slots [4] [.bool (decide (r8 = 280))] [] [] Try.results20 rfl (by decide) rfl ?_
 exact ⟨rfl, rfl⟩

def law28_sanity (n : Nat) : Option (Bool) :=
 obind (law28_example) fun r1 =>
 obind (compile_Compile n r1) fun r5 =>
 bindJ (S := Bool)
  (cond (decide (r5.2 ≠ 0))
   (some (.go true))
   (obind (law28_code) fun r18 =>
   obind (ref28_Same n r5.1 (S_api_Module.mk [112] ([] : List Int) r18)) fun r22 =>
   some (.go (!r22))))
 (fun b12 =>
  bindJ (S := Bool)
   (cond b12
    (some (.go true))
    (obind (compile_Check n r5.1) fun r30 =>
    some (.go (decide (r30 ≠ 0)))))
  (fun b24 =>
   cond b24
    (some false)
    (need (([] : List S_api_Instr).length + ([(S_api_Instr.mk 39 3 []), (S_api_Instr.mk 40 3 []), (S_api_Instr.mk 37 1 [])] : List S_api_Instr).length ≤ 4294967296) (
    need ((([] : List S_api_Instr) ++ ([(S_api_Instr.mk 39 3 []), (S_api_Instr.mk 40 3 []), (S_api_Instr.mk 37 1 [])] : List S_api_Instr)).length + ([(S_api_Instr.mk 39 0 []), (S_api_Instr.mk 37 1 [])] : List S_api_Instr).length ≤ 4294967296) (
    obind (compile_Check_v1 n (S_api_Module.mk [] ([] : List Int) ((([] : List S_api_Instr) ++ ([(S_api_Instr.mk 39 3 []), (S_api_Instr.mk 40 3 []), (S_api_Instr.mk 37 1 [])] : List S_api_Instr)) ++ ([(S_api_Instr.mk 39 0 []), (S_api_Instr.mk 37 1 [])] : List S_api_Instr)))) fun r44 =>
    cond (decide (r44 ≠ 280))
     (some false)
     (obind (compile_Encode n r5.1) fun r47 =>
     obind (compile_Decode n r47) fun r50 =>
     bindJ (S := Bool)
      (cond (decide (r50.2 = 0))
       (obind (ref28_Same_v1 n r50.1 r5.1) fun r63 =>
       some (.go r63))
       (some (.go false)))
     (fun b57 =>
      bindJ (S := Bool)
       (cond b57
        (obind (law28_wrong n 2 (S_api_Instr.mk 31 1 [])) fun r71 =>
        some (.go r71))
        (some (.go false)))
      (fun b65 =>
       bindJ (S := Bool)
        (cond b65
         (obind (law28_wrong n 1 (S_api_Instr.mk 2 0 [120])) fun r79 =>
         some (.go r79))
         (some (.go false)))
       (fun b73 =>
        bindJ (S := Bool)
         (cond b73
          (obind (law28_wrong n 12 (S_api_Instr.mk 37 7 [])) fun r87 =>
          some (.go r87))
          (some (.go false)))
        (fun b81 =>
         bindJ (S := Bool)
          (cond b81
           (obind (compile_Check_v1 n (S_api_Module.mk [] ([] : List Int) ([(S_api_Instr.mk 4 0 [])] : List S_api_Instr))) fun r97 =>
           some (.go (decide (r97 = 280))))
           (some (.go false)))
         (fun b89 =>
          bindJ (S := Bool)
           (cond b89
            (obind (compile_Check_v1 n (S_api_Module.mk [] ([] : List Int) ([(S_api_Instr.mk 39 3 []), (S_api_Instr.mk 40 3 []), (S_api_Instr.mk 37 1 [])] : List S_api_Instr))) fun r105 =>
            some (.go (decide (r105 = 0))))
            (some (.go false)))
          (fun b99 =>
           some b99))))))))))))
theorem law28_sanity_ok (n : Nat)  {r : Bool} (h : law28_sanity n = some r) :
  Meets Try.prog 8 [] [] (fun v G => v = .bool r ∧ G = []) := by
 refine fn_of_run Try.func8 rfl Try.ntmps8 rfl (fun w0 o0 => ?_)
 refine run_seq ?_
 refine run_region' ?_
 refine oy rfl rfl (y_assign rfl) ?_
 refine ops_nil ?_
 refine goes_code ?_
 refine run_seq ?_
 refine run_region' ?_
 obtain ⟨r1, hr2, h⟩ := obind_some h
 refine ot rfl rfl (t_callx (vs := []) (cs := []) [] rfl Try.call18 rfl (law28_example_ok    hr2) showsX_nil rfl (.inl rfl)) ?_
 rintro _ _ ⟨_, ⟨v3, v4, rfl, rfl⟩, rfl⟩
 obtain ⟨r5, hr6, h⟩ := obind_some h
 refine ot rfl rfl (t_callx (vs := [.agg #[.string (bs r1.Name), v3, v4]]) (cs := []) [(0, 1), (1, 1)] rfl Try.call9 rfl (compile_Compile_ok n  r1 v3 v4 hr6) (showsX_look 0 rfl views_row (showsX_look 1 rfl views_nrow showsX_nil)) rfl (.inr (by rintro _ _ ⟨_, _, rfl, rfl⟩ g hg; first | (cases hg; done) | (simp only [List.mem_cons, List.not_mem_nil, or_false] at hg; first | (subst hg; first | exact strict_row | exact strict_box) | (rcases hg with rfl | rfl <;> first | exact strict_row | exact strict_box) | (rcases hg with rfl | rfl | rfl <;> first | exact strict_row | exact strict_box))))) ?_
 rintro _ _ ⟨_, ⟨v7, v8, rfl, rfl⟩, rfl⟩
 refine oy rfl rfl (y_move rfl) ?_
 refine oy rfl rfl (y_extract rfl rfl) ?_
 refine oy rfl rfl (y_extract rfl rfl) ?_
 refine ot rfl rfl (t_alloc Try.zeroValue31) ?_
 rintro _ _ ⟨b9, rfl, rfl⟩
 refine ops_slc 2 rfl reads_row (fun hs10 hs10o => ?_)
 refine ops_slc 3 rfl reads_row (fun hs11 hs11o => ?_)
 refine ot rfl rfl (t_store 4 Try.sizeOf31 rfl rfl rfl rfl (by simp [Value.cells, boxP]) (allL_cons rfl (allL_cons hs10o (allL_cons hs11o (allL_nil))))) ?_
 rintro _ _ ⟨rfl, rfl⟩
 refine ops_turn (retell 4 (g := box b9 [.string (bs r5.1.Name), v7, v8]) rfl rfl) ?_
 refine oy rfl rfl (y_assign rfl) ?_
 refine ops_nil ?_
 refine goes_code ?_
 refine run_seq ?_
 refine run_seq ?_
 refine run_weak [(1, boxP b9 0), (2, .int .i64 r5.2)] [2, 3, 4] [row v7 1 (r5.1.Effects.map (eInt .i64)), row v8 3 (r5.1.Code.map S_api_Instr.enc), box b9 [.string (bs r5.1.Name), v7, v8]] (qv2 rfl rfl) (by decide) rfl ?_
 refine run_drawany [row v7 1 (r5.1.Effects.map (eInt .i64)), row v8 3 (r5.1.Code.map S_api_Instr.enc), box b9 [.string (bs r5.1.Name), v7, v8]] (by kernel_rfl) ?_
 refine any_y 0 rfl (by kernel_rfl) (by kernel_rfl) (by kernel_rfl) (ss (ss (ss (sn)))) (wn rfl) rfl (y_move rfl) ?_
 refine any_y 1 rfl (by kernel_rfl) (by kernel_rfl) (by kernel_rfl) (ss (ss (ss (sn)))) (wn rfl) rfl (y_neq rfl rfl) ?_
 refine any_y 2 rfl (by kernel_rfl) (by kernel_rfl) (by kernel_rfl) (ss (ss (ss (sn)))) (wn rfl) rfl (y_move rfl) ?_
 obtain ⟨o13, h, ho14⟩ := bindJ_some h
 refine any_cut #[true, true, true, true, true, true, true, true, true, false, false, false, false, false] 5 Bool (fun σ => [(1, boxP b9 0), (20, .bool σ)]) (fun σ => [row v7 1 (r5.1.Effects.map (eInt .i64)), row v8 3 (r5.1.Code.map S_api_Instr.enc), box b9 [.string (bs r5.1.Name), v7, v8]]) (fun σ => o13 = .go σ) (fun hL16 => ?_) ?_
 ·refine any_split 14 (decide (r5.2 ≠ 0)) rfl (fun hg17 => ?_) (fun hg17 => ?_)
  ·replace h := cond_t h hg17
   refine any_no 3 rfl (by kernel_rfl) (by kernel_rfl) (by kernel_rfl) (ss (ss (ss (sn)))) 2 false 14 rfl rfl rfl rfl rfl ?_
   refine any_no 4 rfl (by kernel_rfl) (by kernel_rfl) (by kernel_rfl) (ss (ss (ss (sn)))) 2 false 14 rfl rfl rfl rfl rfl ?_
   refine any_no 5 rfl (by kernel_rfl) (by kernel_rfl) (by kernel_rfl) (ss (ss (ss (sn)))) 2 false 14 rfl rfl rfl rfl rfl ?_
   refine any_no 6 rfl (by kernel_rfl) (by kernel_rfl) (by kernel_rfl) (ss (ss (ss (sn)))) 2 false 14 rfl rfl rfl rfl rfl ?_
   refine any_no 7 rfl (by kernel_rfl) (by kernel_rfl) (by kernel_rfl) (ss (ss (ss (sn)))) 2 false 14 rfl rfl rfl rfl rfl ?_
   refine any_y 8 rfl (by kernel_rfl) (by kernel_rfl) (by kernel_rfl) (ss (ss (ss (sn)))) (wn rfl) rfl (y_pick (b := true) rfl rfl) ?_
   obtain rfl := some_eq h
   exact any_weak [(1, boxP b9 0), (20, .bool true)] [0, 1, 2] [row v7 1 (r5.1.Effects.map (eInt .i64)), row v8 3 (r5.1.Code.map S_api_Instr.enc), box b9 [.string (bs r5.1.Name), v7, v8]] (by kernel_rfl) (qv2 rfl rfl) (by decide) rfl (hL16 true rfl)
  ·replace h := cond_f h hg17
   refine any_y 3 rfl (by kernel_rfl) (by kernel_rfl) (by kernel_rfl) (ss (ss (ss (sn)))) (wg 2 false 14 rfl rfl rfl rfl) rfl (y_load_boxagg (c := [.string (bs r5.1.Name), v7, v8]) 2 Try.isAgg31 Try.sizeOf31 rfl rfl rfl) ?_
   refine any_all [4] (by kernel_rfl) rfl (anyo_cons ?_ anyo_nil)
   obtain ⟨r18, hr19, h⟩ := obind_some h
   refine any_t rfl (wg 2 false 14 rfl rfl rfl rfl) rfl (t_callx (vs := []) (cs := []) [] rfl Try.call19 rfl (law28_code_ok    hr19) showsX_nil rfl (.inl rfl)) ?_
   rintro v20 _ ⟨_, ⟨_, rfl, rfl⟩, rfl⟩
   refine ⟨(ss (ss (ss (sn)))), ?_⟩
   refine any_all [5] (by kernel_rfl) rfl (anyo_cons ?_ anyo_nil)
   refine anyo_slc 3 rfl reads_row (fun hs21 hs21o => ?_)
   refine any_ty rfl (wg 2 false 14 rfl rfl rfl rfl) rfl (y_build_struct (cells := #[.string (bs [112]), .slice none 0 0, v20]) [(0, .string (bs [112])), (2, v20)] [(0, [.string (bs [112])]), (2, [v20])] Try.zeroValue31 Try.runUnderlying31 (fs_cons Try.sizeOf9 (fs_cons Try.sizeOf22 (fs_cons Try.sizeOf29 fs_nil))) rfl (by first | (simp only [List.map_cons, List.map_nil, hs21]; done) | (simp only [List.map_cons, List.map_nil, hs21]; rfl)) rfl) ⟨(ss (ss (ss (sn)))), ?_⟩
   refine any_all [6] (by kernel_rfl) rfl (anyo_cons ?_ anyo_nil)
   refine anyo_turn (nilrow 1) ?_
   refine anyo_turn (retell 4 (g := row (.slice none 0 0) 1 (([] : List Int).map (eInt .i64))) rfl rfl) ?_
   obtain ⟨r22, hr23, h⟩ := obind_some h
   refine any_t rfl (wg 2 false 14 rfl rfl rfl rfl) rfl (t_callx (vs := [.agg #[.string (bs r5.1.Name), v7, v8], .agg #[.string (bs [112]), (.slice none 0 0), v20]]) (cs := []) [(0, 1), (1, 1), (4, 2), (3, 1)] rfl Try.call11 rfl (ref28_Same_ok n  r5.1 (S_api_Module.mk [112] ([] : List Int) r18) v7 v8 (.slice none 0 0) v20 hr23) (showsX_look 0 rfl views_row (showsX_look 1 rfl views_row (showsX_lend 4 rfl (showsX_look 3 rfl views_row showsX_nil)))) rfl (.inr (by rintro _ _ ⟨rfl, rfl⟩ g hg; first | (cases hg; done) | (simp only [List.mem_cons, List.not_mem_nil, or_false] at hg; first | (subst hg; first | exact strict_row | exact strict_box) | (rcases hg with rfl | rfl <;> first | exact strict_row | exact strict_box) | (rcases hg with rfl | rfl | rfl <;> first | exact strict_row | exact strict_box))))) ?_
   rintro _ _ ⟨_, ⟨rfl, rfl⟩, rfl⟩
   refine ⟨(ss (ss (ss (sn)))), ?_⟩
   refine any_y 7 rfl (by kernel_rfl) (by kernel_rfl) (by kernel_rfl) (ss (ss (ss (sn)))) (wg 2 false 14 rfl rfl rfl rfl) rfl (y_not rfl) ?_
   refine any_y 8 rfl (by kernel_rfl) (by kernel_rfl) (by kernel_rfl) (ss (ss (ss (sn)))) (wn rfl) rfl (y_pick (b := false) rfl rfl) ?_
   obtain rfl := some_eq h
   exact any_weak [(1, boxP b9 0), (20, .bool (!r22))] [0, 1, 2] [row v7 1 (r5.1.Effects.map (eInt .i64)), row v8 3 (r5.1.Code.map S_api_Instr.enc), box b9 [.string (bs r5.1.Name), v7, v8]] (by kernel_rfl) (qv2 rfl rfl) (by decide) rfl (hL16 (!r22) rfl)
 rintro b12 hj
 obtain rfl : o13 = _ := hj
 replace h := after_go ho14
 clear ho14
 refine any_y 9 rfl (by kernel_rfl) (by kernel_rfl) (by kernel_rfl) (ss (ss (ss (sn)))) (wn rfl) rfl (y_move rfl) ?_
 obtain ⟨o25, h, ho26⟩ := bindJ_some h
 refine any_cut #[true, true, true, true, true, true, true, true, true, true, true, true, true, true] 0 Bool (fun σ => [(1, boxP b9 0), (25, .bool σ)]) (fun σ => [row v7 1 (r5.1.Effects.map (eInt .i64)), row v8 3 (r5.1.Code.map S_api_Instr.enc), box b9 [.string (bs r5.1.Name), v7, v8]]) (fun σ => o25 = .go σ) (fun hL28 => ?_) ?_
 ·refine any_split 21 b12 rfl (fun hg29 => ?_) (fun hg29 => ?_)
  ·replace h := cond_t h hg29
   refine any_no 10 rfl (by kernel_rfl) (by kernel_rfl) (by kernel_rfl) (ss (ss (ss (sn)))) 9 false 21 rfl rfl rfl rfl rfl ?_
   refine any_no 11 rfl (by kernel_rfl) (by kernel_rfl) (by kernel_rfl) (ss (ss (ss (sn)))) 9 false 21 rfl rfl rfl rfl rfl ?_
   refine any_no 12 rfl (by kernel_rfl) (by kernel_rfl) (by kernel_rfl) (ss (ss (ss (sn)))) 9 false 21 rfl rfl rfl rfl rfl ?_
   refine any_y 13 rfl (by kernel_rfl) (by kernel_rfl) (by kernel_rfl) (ss (ss (ss (sn)))) (wn rfl) rfl (y_pick (b := true) rfl rfl) ?_
   obtain rfl := some_eq h
   exact any_weak [(1, boxP b9 0), (25, .bool true)] [0, 1, 2] [row v7 1 (r5.1.Effects.map (eInt .i64)), row v8 3 (r5.1.Code.map S_api_Instr.enc), box b9 [.string (bs r5.1.Name), v7, v8]] (by kernel_rfl) (qv2 rfl rfl) (by decide) rfl (hL28 true rfl)
  ·replace h := cond_f h hg29
   refine any_y 10 rfl (by kernel_rfl) (by kernel_rfl) (by kernel_rfl) (ss (ss (ss (sn)))) (wg 9 false 21 rfl rfl rfl rfl) rfl (y_load_boxagg (c := [.string (bs r5.1.Name), v7, v8]) 2 Try.isAgg31 Try.sizeOf31 rfl rfl rfl) ?_
   refine any_all [11] (by kernel_rfl) rfl (anyo_cons ?_ anyo_nil)
   obtain ⟨r30, hr31, h⟩ := obind_some h
   refine any_t rfl (wg 9 false 21 rfl rfl rfl rfl) rfl (t_callx (vs := [.agg #[.string (bs r5.1.Name), v7, v8]]) (cs := []) [(0, 1), (1, 1)] rfl Try.call14 rfl (compile_Check_ok n  r5.1 v7 v8 hr31) (showsX_look 0 rfl views_row (showsX_look 1 rfl views_row showsX_nil)) rfl (.inr (by rintro _ _ ⟨rfl, rfl⟩ g hg; first | (cases hg; done) | (simp only [List.mem_cons, List.not_mem_nil, or_false] at hg; first | (subst hg; first | exact strict_row | exact strict_box) | (rcases hg with rfl | rfl <;> first | exact strict_row | exact strict_box) | (rcases hg with rfl | rfl | rfl <;> first | exact strict_row | exact strict_box))))) ?_
   rintro _ _ ⟨_, ⟨rfl, rfl⟩, rfl⟩
   refine ⟨(ss (ss (ss (sn)))), ?_⟩
   refine any_y 12 rfl (by kernel_rfl) (by kernel_rfl) (by kernel_rfl) (ss (ss (ss (sn)))) (wg 9 false 21 rfl rfl rfl rfl) rfl (y_neq rfl rfl) ?_
   refine any_y 13 rfl (by kernel_rfl) (by kernel_rfl) (by kernel_rfl) (ss (ss (ss (sn)))) (wn rfl) rfl (y_pick (b := false) rfl rfl) ?_
   obtain rfl := some_eq h
   exact any_weak [(1, boxP b9 0), (25, .bool (decide (r30 ≠ 0)))] [0, 1, 2] [row v7 1 (r5.1.Effects.map (eInt .i64)), row v8 3 (r5.1.Code.map S_api_Instr.enc), box b9 [.string (bs r5.1.Name), v7, v8]] (by kernel_rfl) (qv2 rfl rfl) (by decide) rfl (hL28 (decide (r30 ≠ 0)) rfl)
 rintro b24 hj
 obtain rfl : o25 = _ := hj
 replace h := after_go ho26
 clear ho26
 refine any_nil (by kernel_rfl) ?_
 refine goes_code ?_
 refine run_cond b24 rfl (fun hc32 => ?_) (fun hc32 => ?_)
 ·replace h := cond_t h hc32
  refine run_seq ?_
  refine run_region' ?_
  refine oy rfl rfl (y_assign rfl) ?_
  refine ops_nil ?_
  refine goes_code ?_
  refine run_ret ?_
  obtain rfl := some_eq h
  refine fin_slots [0] [.bool false] [] [] Try.results8 rfl (by decide) rfl ?_
  exact ⟨rfl, rfl⟩
 ·replace h := cond_f h hc32
  refine run_skip ?_
  refine goes_code ?_
  refine run_seq ?_
  refine run_region' ?_
  refine oy rfl rfl (y_build_struct (cells := #[.int .i64 39, .int .i64 3, .string (bs [])]) [(0, .int .i64 39), (1, .int .i64 3)] [(0, [.int .i64 39]), (1, [.int .i64 3])] Try.zeroValue55 Try.runUnderlying55 (fs_cons Try.sizeOf3 (fs_cons Try.sizeOf3 (fs_cons Try.sizeOf9 fs_nil))) rfl rfl rfl) ?_
  refine oy rfl rfl (y_build_struct (cells := #[.int .i64 40, .int .i64 3, .string (bs [])]) [(0, .int .i64 40), (1, .int .i64 3)] [(0, [.int .i64 40]), (1, [.int .i64 3])] Try.zeroValue55 Try.runUnderlying55 (fs_cons Try.sizeOf3 (fs_cons Try.sizeOf3 (fs_cons Try.sizeOf9 fs_nil))) rfl rfl rfl) ?_
  refine oy rfl rfl (y_build_struct (cells := #[.int .i64 37, .int .i64 1, .string (bs [])]) [(0, .int .i64 37), (1, .int .i64 1)] [(0, [.int .i64 37]), (1, [.int .i64 1])] Try.zeroValue55 Try.runUnderlying55 (fs_cons Try.sizeOf3 (fs_cons Try.sizeOf3 (fs_cons Try.sizeOf9 fs_nil))) rfl rfl rfl) ?_
  refine ot rfl rfl (t_lit [.agg #[.int .i64 39, .int .i64 3, .string (bs [])], .agg #[.int .i64 40, .int .i64 3, .string (bs [])], .agg #[.int .i64 37, .int .i64 1, .string (bs [])]] Try.runUnderlying29 Try.sizeOf55 Try.zeroValue55 rfl (by decide) (by decide) rfl (by simp [Value.cells, boxP])) ?_
  rintro v33 _ ⟨rfl, _⟩
  refine ops_turn (retell 3 (g := row v33 3 (([(S_api_Instr.mk 39 3 []), (S_api_Instr.mk 40 3 []), (S_api_Instr.mk 37 1 [])] : List S_api_Instr).map S_api_Instr.enc)) rfl rfl) ?_
  refine ops_slc 3 rfl reads_row (fun hs34 hs34o => ?_)
  refine oy rfl rfl (y_build_struct (cells := #[.string (bs []), .slice none 0 0, v33]) [(2, v33)] [(2, [v33])] Try.zeroValue31 Try.runUnderlying31 (fs_cons Try.sizeOf9 (fs_cons Try.sizeOf22 (fs_cons Try.sizeOf29 fs_nil))) rfl (by first | (simp only [List.map_cons, List.map_nil, hs34]; done) | (simp only [List.map_cons, List.map_nil, hs34]; rfl)) rfl) ?_
  refine ot rfl rfl (t_alloc Try.zeroValue31) ?_
  rintro _ _ ⟨b35, rfl, rfl⟩
  refine ops_slc 3 rfl reads_row (fun hs36 hs36o => ?_)
  refine ot rfl rfl (t_store 4 Try.sizeOf31 rfl rfl rfl rfl (by simp [Value.cells, boxP]) (allL_cons rfl (allL_cons rfl (allL_cons hs36o (allL_nil))))) ?_
  rintro _ _ ⟨rfl, rfl⟩
  refine ops_turn (retell 4 (g := box b35 [.string (bs []), .slice none 0 0, v33]) rfl rfl) ?_
  refine ops_nil ?_
  refine goes_code ?_
  refine run_seq ?_
  refine run_region' ?_
  refine ot rfl rfl (t_lit [] Try.runUnderlying29 Try.sizeOf55 Try.zeroValue55 rfl (by decide) (by decide) rfl (by simp [Value.cells, boxP])) ?_
  rintro v37 _ ⟨rfl, _⟩
  refine ops_turn (retell 5 (g := row v37 3 (([] : List S_api_Instr).map S_api_Instr.enc)) rfl rfl) ?_
  refine oy rfl rfl (y_fieldAddr_box (sz := 0) Try.runUnderlying31 rfl Try.sizeOf29 rfl) ?_
  refine oy rfl rfl (y_load_box 4 Try.isAgg29 rfl rfl rfl) ?_
  obtain ⟨hr39, h⟩ := need_some h
  refine ot rfl rfl (t_append (es := 3) 5 rfl Try.runUnderlying29 rfl Try.runUnderlying29 (.inr ⟨_, rfl⟩) Try.typeInfo55 rfl (by decide) Try.zeroValue55 rfl rfl rfl rfl (src_reads 3 rfl reads_row (map_ok S_api_Instr.enc_ok _)) (map_room hr39 (by decide)) (map_fit hr39)) ?_
  rintro v38 _ rfl
  refine ops_turn (retell 5 (g := row v38 3 ((([] : List S_api_Instr) ++ ([(S_api_Instr.mk 39 3 []), (S_api_Instr.mk 40 3 []), (S_api_Instr.mk 37 1 [])] : List S_api_Instr)).map S_api_Instr.enc)) rfl (congrArg (row _ _) List.map_append.symm)) ?_
  refine oy rfl rfl (y_build_struct (cells := #[.int .i64 39, .int .i64 0, .string (bs [])]) [(0, .int .i64 39)] [(0, [.int .i64 39])] Try.zeroValue55 Try.runUnderlying55 (fs_cons Try.sizeOf3 (fs_cons Try.sizeOf3 (fs_cons Try.sizeOf9 fs_nil))) rfl rfl rfl) ?_
  refine oy rfl rfl (y_build_struct (cells := #[.int .i64 37, .int .i64 1, .string (bs [])]) [(0, .int .i64 37), (1, .int .i64 1)] [(0, [.int .i64 37]), (1, [.int .i64 1])] Try.zeroValue55 Try.runUnderlying55 (fs_cons Try.sizeOf3 (fs_cons Try.sizeOf3 (fs_cons Try.sizeOf9 fs_nil))) rfl rfl rfl) ?_
  refine ot rfl rfl (t_lit [.agg #[.int .i64 39, .int .i64 0, .string (bs [])], .agg #[.int .i64 37, .int .i64 1, .string (bs [])]] Try.runUnderlying29 Try.sizeOf55 Try.zeroValue55 rfl (by decide) (by decide) rfl (by simp [Value.cells, boxP])) ?_
  rintro v40 _ ⟨rfl, _⟩
  refine ops_turn (retell 6 (g := row v40 3 (([(S_api_Instr.mk 39 0 []), (S_api_Instr.mk 37 1 [])] : List S_api_Instr).map S_api_Instr.enc)) rfl rfl) ?_
  obtain ⟨hr42, h⟩ := need_some h
  refine ot rfl rfl (t_append (es := 3) 5 rfl Try.runUnderlying29 rfl Try.runUnderlying29 (.inr ⟨_, rfl⟩) Try.typeInfo55 rfl (by decide) Try.zeroValue55 rfl rfl rfl rfl (src_reads 6 rfl reads_row (map_ok S_api_Instr.enc_ok _)) (map_room hr42 (by decide)) (map_fit hr42)) ?_
  rintro v41 _ rfl
  refine ops_turn (retell 5 (g := row v41 3 (((([] : List S_api_Instr) ++ ([(S_api_Instr.mk 39 3 []), (S_api_Instr.mk 40 3 []), (S_api_Instr.mk 37 1 [])] : List S_api_Instr)) ++ ([(S_api_Instr.mk 39 0 []), (S_api_Instr.mk 37 1 [])] : List S_api_Instr)).map S_api_Instr.enc)) rfl (congrArg (row _ _) List.map_append.symm)) ?_
  refine oy rfl rfl (y_assign rfl) ?_
  refine ops_nil ?_
  refine goes_code ?_
  refine run_seq ?_
  refine run_seq ?_
  refine run_weak [(1, boxP b9 0), (3, boxP b35 0), (4, v41)] [0, 1, 2, 3, 4, 5] [row v7 1 (r5.1.Effects.map (eInt .i64)), row v8 3 (r5.1.Code.map S_api_Instr.enc), box b9 [.string (bs r5.1.Name), v7, v8], row v33 3 (([(S_api_Instr.mk 39 3 []), (S_api_Instr.mk 40 3 []), (S_api_Instr.mk 37 1 [])] : List S_api_Instr).map S_api_Instr.enc), box b35 [.string (bs []), .slice none 0 0, v33], row v41 3 (((([] : List S_api_Instr) ++ ([(S_api_Instr.mk 39 3 []), (S_api_Instr.mk 40 3 []), (S_api_Instr.mk 37 1 [])] : List S_api_Instr)) ++ ([(S_api_Instr.mk 39 0 []), (S_api_Instr.mk 37 1 [])] : List S_api_Instr)).map S_api_Instr.enc)] (qv3 rfl rfl rfl) (by decide) rfl ?_
  refine run_region' ?_
  refine oy rfl rfl (y_move rfl) ?_
  refine ops_slc 5 rfl reads_row (fun hs43 hs43o => ?_)
  refine oy rfl rfl (y_build_struct (cells := #[.string (bs []), .slice none 0 0, v41]) [(2, v41)] [(2, [v41])] Try.zeroValue31 Try.runUnderlying31 (fs_cons Try.sizeOf9 (fs_cons Try.sizeOf22 (fs_cons Try.sizeOf29 fs_nil))) rfl (by first | (simp only [List.map_cons, List.map_nil, hs43]; done) | (simp only [List.map_cons, List.map_nil, hs43]; rfl)) rfl) ?_
  refine ops_turn (nilrow 1) ?_
  refine ops_turn (retell 6 (g := row (.slice none 0 0) 1 (([] : List Int).map (eInt .i64))) rfl rfl) ?_
  obtain ⟨r44, hr45, h⟩ := obind_some h
  refine ot rfl rfl (t_callx (vs := [.agg #[.string (bs []), (.slice none 0 0), v41]]) (cs := []) [(6, 2), (5, 1)] rfl Try.call14 rfl (compile_Check_v1_ok n  (S_api_Module.mk [] ([] : List Int) ((([] : List S_api_Instr) ++ ([(S_api_Instr.mk 39 3 []), (S_api_Instr.mk 40 3 []), (S_api_Instr.mk 37 1 [])] : List S_api_Instr)) ++ ([(S_api_Instr.mk 39 0 []), (S_api_Instr.mk 37 1 [])] : List S_api_Instr))) (.slice none 0 0) v41 hr45) (showsX_lend 6 rfl (showsX_look 5 rfl views_row showsX_nil)) rfl (.inr (by rintro _ _ ⟨rfl, rfl⟩ g hg; first | (cases hg; done) | (simp only [List.mem_cons, List.not_mem_nil, or_false] at hg; first | (subst hg; first | exact strict_row | exact strict_box) | (rcases hg with rfl | rfl <;> first | exact strict_row | exact strict_box) | (rcases hg with rfl | rfl | rfl <;> first | exact strict_row | exact strict_box))))) ?_
  rintro _ _ ⟨_, ⟨rfl, rfl⟩, rfl⟩
  refine oy rfl rfl (y_neq rfl rfl) ?_
  refine ops_nil ?_
  refine goes_code ?_
  refine run_cond (decide (r44 ≠ 280)) rfl (fun hc46 => ?_) (fun hc46 => ?_)
  ·replace h := cond_t h hc46
   refine run_seq ?_
   refine run_region' ?_
   refine oy rfl rfl (y_assign rfl) ?_
   refine ops_nil ?_
   refine goes_code ?_
   refine run_ret ?_
   obtain rfl := some_eq h
   refine fin_slots [0] [.bool false] [] [] Try.results8 rfl (by decide) rfl ?_
   exact ⟨rfl, rfl⟩
  ·replace h := cond_f h hc46
   refine run_skip ?_
   refine goes_code ?_
   refine run_seq ?_
   refine run_region' ?_
   refine oy rfl rfl (y_load_boxagg (c := [.string (bs r5.1.Name), v7, v8]) 2 Try.isAgg31 Try.sizeOf31 rfl rfl rfl) ?_
   obtain ⟨r47, hr48, h⟩ := obind_some h
   refine ot rfl rfl (t_callx (vs := [.agg #[.string (bs r5.1.Name), v7, v8]]) (cs := []) [(0, 1), (1, 1)] rfl Try.call13 rfl (compile_Encode_ok n  r5.1 v7 v8 hr48) (showsX_look 0 rfl views_row (showsX_look 1 rfl views_row showsX_nil)) rfl (.inr (by rintro _ _ ⟨_, rfl, rfl⟩ g hg; first | (cases hg; done) | (simp only [List.mem_cons, List.not_mem_nil, or_false] at hg; first | (subst hg; first | exact strict_row | exact strict_box) | (rcases hg with rfl | rfl <;> first | exact strict_row | exact strict_box) | (rcases hg with rfl | rfl | rfl <;> first | exact strict_row | exact strict_box))))) ?_
   rintro v49 _ ⟨_, ⟨_, rfl, rfl⟩, rfl⟩
   obtain ⟨r50, hr51, h⟩ := obind_some h
   refine ot rfl rfl (t_callx (vs := [v49]) (cs := []) [(7, 1)] rfl Try.call12 rfl (compile_Decode_ok n  r47 v49 hr51) (showsX_look 7 rfl views_row showsX_nil) rfl (.inr (by rintro _ _ ⟨_, _, rfl, rfl⟩ g hg; first | (cases hg; done) | (simp only [List.mem_cons, List.not_mem_nil, or_false] at hg; first | (subst hg; first | exact strict_row | exact strict_box) | (rcases hg with rfl | rfl <;> first | exact strict_row | exact strict_box) | (rcases hg with rfl | rfl | rfl <;> first | exact strict_row | exact strict_box))))) ?_
   rintro _ _ ⟨_, ⟨v52, v53, rfl, rfl⟩, rfl⟩
   refine oy rfl rfl (y_move rfl) ?_
   refine oy rfl rfl (y_extract rfl rfl) ?_
   refine oy rfl rfl (y_extract rfl rfl) ?_
   refine ot rfl rfl (t_alloc Try.zeroValue31) ?_
   rintro _ _ ⟨b54, rfl, rfl⟩
   refine ops_slc 8 rfl reads_row (fun hs55 hs55o => ?_)
   refine ops_slc 9 rfl reads_row (fun hs56 hs56o => ?_)
   refine ot rfl rfl (t_store 10 Try.sizeOf31 rfl rfl rfl rfl (by simp [Value.cells, boxP]) (allL_cons rfl (allL_cons hs55o (allL_cons hs56o (allL_nil))))) ?_
   rintro _ _ ⟨rfl, rfl⟩
   refine ops_turn (retell 10 (g := box b54 [.string (bs r50.1.Name), v52, v53]) rfl rfl) ?_
   refine oy rfl rfl (y_assign rfl) ?_
   refine ops_nil ?_
   refine goes_code ?_
   refine run_seq ?_
   refine run_weak [(1, boxP b9 0), (3, boxP b35 0), (5, boxP b54 0), (6, .int .i64 r50.2)] [0, 1, 2, 3, 4, 8, 9, 10] [row v7 1 (r5.1.Effects.map (eInt .i64)), row v8 3 (r5.1.Code.map S_api_Instr.enc), box b9 [.string (bs r5.1.Name), v7, v8], row v33 3 (([(S_api_Instr.mk 39 3 []), (S_api_Instr.mk 40 3 []), (S_api_Instr.mk 37 1 [])] : List S_api_Instr).map S_api_Instr.enc), box b35 [.string (bs []), .slice none 0 0, v33], row v52 1 (r50.1.Effects.map (eInt .i64)), row v53 3 (r50.1.Code.map S_api_Instr.enc), box b54 [.string (bs r50.1.Name), v52, v53]] (qv4 rfl rfl rfl rfl) (by decide) rfl ?_
   refine run_region' ?_
   refine oy rfl rfl (y_move rfl) ?_
   refine oy rfl rfl (y_eql rfl rfl) ?_
   refine oy rfl rfl (y_move rfl) ?_
   obtain ⟨o58, h, ho59⟩ := bindJ_some h
   refine ops_cut 4 (Bool) (fun σ => [(3, boxP b35 0), (55, .bool σ)]) (fun σ => [row v33 3 (([(S_api_Instr.mk 39 3 []), (S_api_Instr.mk 40 3 []), (S_api_Instr.mk 37 1 [])] : List S_api_Instr).map S_api_Instr.enc), box b35 [.string (bs []), .slice none 0 0, v33]]) (fun σ => o58 = .go σ) (fun L60 hL61 => ?_) ?_
   ·refine ops_split 51 (decide (r50.2 = 0)) rfl (fun hg62 => ?_) (fun hg62 => ?_)
    ·replace h := cond_t h hg62
     refine ops_y (wg 2 true 51 rfl rfl rfl rfl) rfl (y_load_boxagg (c := [.string (bs r50.1.Name), v52, v53]) 7 Try.isAgg31 Try.sizeOf31 rfl rfl rfl) ?_
     refine ops_y (wg 2 true 51 rfl rfl rfl rfl) rfl (y_load_boxagg (c := [.string (bs r5.1.Name), v7, v8]) 2 Try.isAgg31 Try.sizeOf31 rfl rfl rfl) ?_
     obtain ⟨r63, hr64, h⟩ := obind_some h
     refine ops_t (wg 2 true 51 rfl rfl rfl rfl) rfl (t_callx (vs := [.agg #[.string (bs r50.1.Name), v52, v53], .agg #[.string (bs r5.1.Name), v7, v8]]) (cs := []) [(5, 1), (6, 1), (0, 1), (1, 1)] rfl Try.call11 rfl (ref28_Same_v1_ok n  r50.1 r5.1 v52 v53 v7 v8 hr64) (showsX_look 5 rfl views_row (showsX_look 6 rfl views_row (showsX_look 0 rfl views_row (showsX_look 1 rfl views_row showsX_nil)))) rfl (.inr (by rintro _ _ ⟨rfl, rfl⟩ g hg; first | (cases hg; done) | (simp only [List.mem_cons, List.not_mem_nil, or_false] at hg; first | (subst hg; first | exact strict_row | exact strict_box) | (rcases hg with rfl | rfl <;> first | exact strict_row | exact strict_box) | (rcases hg with rfl | rfl | rfl <;> first | exact strict_row | exact strict_box))))) ?_
     rintro _ _ ⟨_, ⟨rfl, rfl⟩, rfl⟩
     refine oy rfl rfl (y_pick (b := true) rfl rfl) ?_
     refine ops_nil ?_
     obtain rfl := some_eq h
     exact goes_cut hL61 r63 [3, 4] (qv2 rfl rfl) (by decide) rfl rfl
    ·replace h := cond_f h hg62
     refine ops_no 2 true 51 rfl rfl rfl rfl rfl ?_
     refine ops_no 2 true 51 rfl rfl rfl rfl rfl ?_
     refine ops_no 2 true 51 rfl rfl rfl rfl rfl ?_
     refine oy rfl rfl (y_pick (b := false) rfl rfl) ?_
     refine ops_nil ?_
     obtain rfl := some_eq h
     exact goes_cut hL61 false [3, 4] (qv2 rfl rfl) (by decide) rfl rfl
   rintro b57 hj
   obtain rfl : o58 = _ := hj
   replace h := after_go ho59
   clear ho59
   refine oy rfl rfl (y_move rfl) ?_
   obtain ⟨o66, h, ho67⟩ := bindJ_some h
   refine ops_cut 3 (Bool) (fun σ => [(3, boxP b35 0), (59, .bool σ)]) (fun σ => [row v33 3 (([(S_api_Instr.mk 39 3 []), (S_api_Instr.mk 40 3 []), (S_api_Instr.mk 37 1 [])] : List S_api_Instr).map S_api_Instr.enc), box b35 [.string (bs []), .slice none 0 0, v33]]) (fun σ => o66 = .go σ) (fun L68 hL69 => ?_) ?_
   ·refine ops_split 56 b57 rfl (fun hg70 => ?_) (fun hg70 => ?_)
    ·replace h := cond_t h hg70
     refine ops_y (wg 7 true 56 rfl rfl rfl rfl) rfl (y_build_struct (cells := #[.int .i64 31, .int .i64 1, .string (bs [])]) [(0, .int .i64 31), (1, .int .i64 1)] [(0, [.int .i64 31]), (1, [.int .i64 1])] Try.zeroValue55 Try.runUnderlying55 (fs_cons Try.sizeOf3 (fs_cons Try.sizeOf3 (fs_cons Try.sizeOf9 fs_nil))) rfl rfl rfl) ?_
     obtain ⟨r71, hr72, h⟩ := obind_some h
     refine ops_t (wg 7 true 56 rfl rfl rfl rfl) rfl (t_callx (vs := [.int .i64 2, .agg #[.int .i64 31, .int .i64 1, .string (bs [])]]) (cs := []) [] rfl Try.call20 rfl (law28_wrong_ok n  2 (S_api_Instr.mk 31 1 [])  hr72) showsX_nil rfl (.inl rfl)) ?_
     rintro _ _ ⟨_, ⟨rfl, rfl⟩, rfl⟩
     refine oy rfl rfl (y_pick (b := true) rfl rfl) ?_
     refine ops_nil ?_
     obtain rfl := some_eq h
     exact goes_cut hL69 r71 [0, 1] (qv2 rfl rfl) (by decide) rfl rfl
    ·replace h := cond_f h hg70
     refine ops_no 7 true 56 rfl rfl rfl rfl rfl ?_
     refine ops_no 7 true 56 rfl rfl rfl rfl rfl ?_
     refine oy rfl rfl (y_pick (b := false) rfl rfl) ?_
     refine ops_nil ?_
     obtain rfl := some_eq h
     exact goes_cut hL69 false [0, 1] (qv2 rfl rfl) (by decide) rfl rfl
   rintro b65 hj
   obtain rfl : o66 = _ := hj
   replace h := after_go ho67
   clear ho67
   refine oy rfl rfl (y_move rfl) ?_
   obtain ⟨o74, h, ho75⟩ := bindJ_some h
   refine ops_cut 3 (Bool) (fun σ => [(3, boxP b35 0), (63, .bool σ)]) (fun σ => [row v33 3 (([(S_api_Instr.mk 39 3 []), (S_api_Instr.mk 40 3 []), (S_api_Instr.mk 37 1 [])] : List S_api_Instr).map S_api_Instr.enc), box b35 [.string (bs []), .slice none 0 0, v33]]) (fun σ => o74 = .go σ) (fun L76 hL77 => ?_) ?_
   ·refine ops_split 60 b65 rfl (fun hg78 => ?_) (fun hg78 => ?_)
    ·replace h := cond_t h hg78
     refine ops_y (wg 11 true 60 rfl rfl rfl rfl) rfl (y_build_struct (cells := #[.int .i64 2, .int .i64 0, .string (bs [120])]) [(0, .int .i64 2), (2, .string (bs [120]))] [(0, [.int .i64 2]), (2, [.string (bs [120])])] Try.zeroValue55 Try.runUnderlying55 (fs_cons Try.sizeOf3 (fs_cons Try.sizeOf3 (fs_cons Try.sizeOf9 fs_nil))) rfl rfl rfl) ?_
     obtain ⟨r79, hr80, h⟩ := obind_some h
     refine ops_t (wg 11 true 60 rfl rfl rfl rfl) rfl (t_callx (vs := [.int .i64 1, .agg #[.int .i64 2, .int .i64 0, .string (bs [120])]]) (cs := []) [] rfl Try.call20 rfl (law28_wrong_ok n  1 (S_api_Instr.mk 2 0 [120])  hr80) showsX_nil rfl (.inl rfl)) ?_
     rintro _ _ ⟨_, ⟨rfl, rfl⟩, rfl⟩
     refine oy rfl rfl (y_pick (b := true) rfl rfl) ?_
     refine ops_nil ?_
     obtain rfl := some_eq h
     exact goes_cut hL77 r79 [0, 1] (qv2 rfl rfl) (by decide) rfl rfl
    ·replace h := cond_f h hg78
     refine ops_no 11 true 60 rfl rfl rfl rfl rfl ?_
     refine ops_no 11 true 60 rfl rfl rfl rfl rfl ?_
     refine oy rfl rfl (y_pick (b := false) rfl rfl) ?_
     refine ops_nil ?_
     obtain rfl := some_eq h
     exact goes_cut hL77 false [0, 1] (qv2 rfl rfl) (by decide) rfl rfl
   rintro b73 hj
   obtain rfl : o74 = _ := hj
   replace h := after_go ho75
   clear ho75
   refine oy rfl rfl (y_move rfl) ?_
   obtain ⟨o82, h, ho83⟩ := bindJ_some h
   refine ops_cut 3 (Bool) (fun σ => [(3, boxP b35 0), (67, .bool σ)]) (fun σ => [row v33 3 (([(S_api_Instr.mk 39 3 []), (S_api_Instr.mk 40 3 []), (S_api_Instr.mk 37 1 [])] : List S_api_Instr).map S_api_Instr.enc), box b35 [.string (bs []), .slice none 0 0, v33]]) (fun σ => o82 = .go σ) (fun L84 hL85 => ?_) ?_
   ·refine ops_split 64 b73 rfl (fun hg86 => ?_) (fun hg86 => ?_)
    ·replace h := cond_t h hg86
     refine ops_y (wg 15 true 64 rfl rfl rfl rfl) rfl (y_build_struct (cells := #[.int .i64 37, .int .i64 7, .string (bs [])]) [(0, .int .i64 37), (1, .int .i64 7)] [(0, [.int .i64 37]), (1, [.int .i64 7])] Try.zeroValue55 Try.runUnderlying55 (fs_cons Try.sizeOf3 (fs_cons Try.sizeOf3 (fs_cons Try.sizeOf9 fs_nil))) rfl rfl rfl) ?_
     obtain ⟨r87, hr88, h⟩ := obind_some h
     refine ops_t (wg 15 true 64 rfl rfl rfl rfl) rfl (t_callx (vs := [.int .i64 12, .agg #[.int .i64 37, .int .i64 7, .string (bs [])]]) (cs := []) [] rfl Try.call20 rfl (law28_wrong_ok n  12 (S_api_Instr.mk 37 7 [])  hr88) showsX_nil rfl (.inl rfl)) ?_
     rintro _ _ ⟨_, ⟨rfl, rfl⟩, rfl⟩
     refine oy rfl rfl (y_pick (b := true) rfl rfl) ?_
     refine ops_nil ?_
     obtain rfl := some_eq h
     exact goes_cut hL85 r87 [0, 1] (qv2 rfl rfl) (by decide) rfl rfl
    ·replace h := cond_f h hg86
     refine ops_no 15 true 64 rfl rfl rfl rfl rfl ?_
     refine ops_no 15 true 64 rfl rfl rfl rfl rfl ?_
     refine oy rfl rfl (y_pick (b := false) rfl rfl) ?_
     refine ops_nil ?_
     obtain rfl := some_eq h
     exact goes_cut hL85 false [0, 1] (qv2 rfl rfl) (by decide) rfl rfl
   rintro b81 hj
   obtain rfl : o82 = _ := hj
   replace h := after_go ho83
   clear ho83
   refine oy rfl rfl (y_move rfl) ?_
   obtain ⟨o90, h, ho91⟩ := bindJ_some h
   refine ops_cut 6 (Bool) (fun σ => [(3, boxP b35 0), (74, .bool σ)]) (fun σ => [row v33 3 (([(S_api_Instr.mk 39 3 []), (S_api_Instr.mk 40 3 []), (S_api_Instr.mk 37 1 [])] : List S_api_Instr).map S_api_Instr.enc), box b35 [.string (bs []), .slice none 0 0, v33]]) (fun σ => o90 = .go σ) (fun L92 hL93 => ?_) ?_
   ·refine ops_split 68 b81 rfl (fun hg94 => ?_) (fun hg94 => ?_)
    ·replace h := cond_t h hg94
     refine ops_y (wg 19 true 68 rfl rfl rfl rfl) rfl (y_build_struct (cells := #[.int .i64 4, .int .i64 0, .string (bs [])]) [(0, .int .i64 4)] [(0, [.int .i64 4])] Try.zeroValue55 Try.runUnderlying55 (fs_cons Try.sizeOf3 (fs_cons Try.sizeOf3 (fs_cons Try.sizeOf9 fs_nil))) rfl rfl rfl) ?_
     refine ops_t (wg 19 true 68 rfl rfl rfl rfl) rfl (t_lit [.agg #[.int .i64 4, .int .i64 0, .string (bs [])]] Try.runUnderlying29 Try.sizeOf55 Try.zeroValue55 rfl (by decide) (by decide) rfl (by simp [Value.cells, boxP])) ?_
     rintro v95 _ ⟨rfl, _⟩
     refine ops_turn (retell 2 (g := row v95 3 (([(S_api_Instr.mk 4 0 [])] : List S_api_Instr).map S_api_Instr.enc)) rfl rfl) ?_
     refine ops_slc 2 rfl reads_row (fun hs96 hs96o => ?_)
     refine ops_y (wg 19 true 68 rfl rfl rfl rfl) rfl (y_build_struct (cells := #[.string (bs []), .slice none 0 0, v95]) [(2, v95)] [(2, [v95])] Try.zeroValue31 Try.runUnderlying31 (fs_cons Try.sizeOf9 (fs_cons Try.sizeOf22 (fs_cons Try.sizeOf29 fs_nil))) rfl (by first | (simp only [List.map_cons, List.map_nil, hs96]; done) | (simp only [List.map_cons, List.map_nil, hs96]; rfl)) rfl) ?_
     refine ops_turn (nilrow 1) ?_
     refine ops_turn (retell 3 (g := row (.slice none 0 0) 1 (([] : List Int).map (eInt .i64))) rfl rfl) ?_
     obtain ⟨r97, hr98, h⟩ := obind_some h
     refine ops_t (wg 19 true 68 rfl rfl rfl rfl) rfl (t_callx (vs := [.agg #[.string (bs []), (.slice none 0 0), v95]]) (cs := []) [(3, 2), (2, 1)] rfl Try.call14 rfl (compile_Check_v1_ok n  (S_api_Module.mk [] ([] : List Int) ([(S_api_Instr.mk 4 0 [])] : List S_api_Instr)) (.slice none 0 0) v95 hr98) (showsX_lend 3 rfl (showsX_look 2 rfl views_row showsX_nil)) rfl (.inr (by rintro _ _ ⟨rfl, rfl⟩ g hg; first | (cases hg; done) | (simp only [List.mem_cons, List.not_mem_nil, or_false] at hg; first | (subst hg; first | exact strict_row | exact strict_box) | (rcases hg with rfl | rfl <;> first | exact strict_row | exact strict_box) | (rcases hg with rfl | rfl | rfl <;> first | exact strict_row | exact strict_box))))) ?_
     rintro _ _ ⟨_, ⟨rfl, rfl⟩, rfl⟩
     refine ops_y (wg 19 true 68 rfl rfl rfl rfl) rfl (y_eql rfl rfl) ?_
     refine oy rfl rfl (y_pick (b := true) rfl rfl) ?_
     refine ops_nil ?_
     obtain rfl := some_eq h
     exact goes_cut hL93 (decide (r97 = 280)) [0, 1] (qv2 rfl rfl) (by decide) rfl rfl
    ·replace h := cond_f h hg94
     refine ops_no 19 true 68 rfl rfl rfl rfl rfl ?_
     refine ops_no 19 true 68 rfl rfl rfl rfl rfl ?_
     refine ops_no 19 true 68 rfl rfl rfl rfl rfl ?_
     refine ops_no 19 true 68 rfl rfl rfl rfl rfl ?_
     refine ops_no 19 true 68 rfl rfl rfl rfl rfl ?_
     refine oy rfl rfl (y_pick (b := false) rfl rfl) ?_
     refine ops_nil ?_
     obtain rfl := some_eq h
     exact goes_cut hL93 false [0, 1] (qv2 rfl rfl) (by decide) rfl rfl
   rintro b89 hj
   obtain rfl : o90 = _ := hj
   replace h := after_go ho91
   clear ho91
   refine oy rfl rfl (y_move rfl) ?_
   obtain ⟨o100, h, ho101⟩ := bindJ_some h
   refine ops_cut 4 (Bool) (fun σ => [(79, .bool σ)]) (fun σ => []) (fun σ => o100 = .go σ) (fun L102 hL103 => ?_) ?_
   ·refine ops_split 75 b89 rfl (fun hg104 => ?_) (fun hg104 => ?_)
    ·replace h := cond_t h hg104
     refine ops_y (wg 26 true 75 rfl rfl rfl rfl) rfl (y_load_boxagg (c := [.string (bs []), .slice none 0 0, v33]) 1 Try.isAgg31 Try.sizeOf31 rfl rfl rfl) ?_
     refine ops_turn (nilrow 1) ?_
     refine ops_turn (retell 2 (g := row (.slice none 0 0) 1 (([] : List Int).map (eInt .i64))) rfl rfl) ?_
     obtain ⟨r105, hr106, h⟩ := obind_some h
     refine ops_t (wg 26 true 75 rfl rfl rfl rfl) rfl (t_callx (vs := [.agg #[.string (bs []), (.slice none 0 0), v33]]) (cs := []) [(2, 2), (0, 1)] rfl Try.call14 rfl (compile_Check_v1_ok n  (S_api_Module.mk [] ([] : List Int) ([(S_api_Instr.mk 39 3 []), (S_api_Instr.mk 40 3 []), (S_api_Instr.mk 37 1 [])] : List S_api_Instr)) (.slice none 0 0) v33 hr106) (showsX_lend 2 rfl (showsX_look 0 rfl views_row showsX_nil)) rfl (.inr (by rintro _ _ ⟨rfl, rfl⟩ g hg; first | (cases hg; done) | (simp only [List.mem_cons, List.not_mem_nil, or_false] at hg; first | (subst hg; first | exact strict_row | exact strict_box) | (rcases hg with rfl | rfl <;> first | exact strict_row | exact strict_box) | (rcases hg with rfl | rfl | rfl <;> first | exact strict_row | exact strict_box))))) ?_
     rintro _ _ ⟨_, ⟨rfl, rfl⟩, rfl⟩
     refine ops_y (wg 26 true 75 rfl rfl rfl rfl) rfl (y_eql rfl rfl) ?_
     refine oy rfl rfl (y_pick (b := true) rfl rfl) ?_
     refine ops_nil ?_
     obtain rfl := some_eq h
     exact goes_cut hL103 (decide (r105 = 0)) [] (qv1 rfl) (by decide) rfl rfl
    ·replace h := cond_f h hg104
     refine ops_no 26 true 75 rfl rfl rfl rfl rfl ?_
     refine ops_no 26 true 75 rfl rfl rfl rfl rfl ?_
     refine ops_no 26 true 75 rfl rfl rfl rfl rfl ?_
     refine oy rfl rfl (y_pick (b := false) rfl rfl) ?_
     refine ops_nil ?_
     obtain rfl := some_eq h
     exact goes_cut hL103 false [] (qv1 rfl) (by decide) rfl rfl
   rintro b99 hj
   obtain rfl : o100 = _ := hj
   replace h := after_go ho101
   clear ho101
   refine oy rfl rfl (y_assign rfl) ?_
   refine ops_nil ?_
   refine goes_code ?_
   refine run_ret ?_
   obtain rfl := some_eq h
   refine fin_slots [0] [.bool b99] [] [] Try.results8 rfl (by decide) rfl ?_
   exact ⟨rfl, rfl⟩

end Go.Proofs.Ytgjdaamkfpbgpaa
