/-
  The law BucketKeepsItsRate, lifted.
-/
import Derived.Test.YtpalglggjndmlaaFb
namespace Go.Proofs.Ytpalglggjndmlaa
open Go.Abs
set_option linter.unusedVariables false
set_option linter.unusedSimpArgs false
set_option maxRecDepth 20000


def law12_BucketKeepsItsRate_L2 (times_21 : (List Int)) (taken_22 : (List Int)) (t_23 : Int) (x37 : S_law12_Try) (n_45 : Int) (x_46 : Int) (x_47 : Int) (x_48 : Int) : (Int × Int) → Option (Lp (Int × Int) (Lp (Int) (Lp ((List Int) × (List Int) × Int × Int × Int × Int × Int × Int × Int) (Lp (Unit) (Bool))))) :=
  fun (sum_67, k_68) =>
    cond (decide (0 ≤ k_68))
      (idx (taken_22 ++ [n_45]) k_68 fun x74 =>
      idx (times_21 ++ [(IntKind.i64.wrap (t_23 + (IntKind.i64.wrap x37.After)))]) k_68 fun x75 =>
      cond (decide ((IntKind.i64.wrap ((IntKind.i64.wrap (x_46 * x_48)) + (IntKind.i64.wrap (x_47 * (IntKind.i64.wrap ((IntKind.i64.wrap (t_23 + (IntKind.i64.wrap x37.After))) - x75)))))) < (IntKind.i64.wrap ((IntKind.i64.wrap (sum_67 + x74)) * x_48))))
        (some (.stop (.stop (.stop (.stop false)))))
        (some (.go ((IntKind.i64.wrap (sum_67 + x74)), (IntKind.i64.wrap (k_68 - 1))))))
      (some (.stop (.go sum_67)))
def law12_BucketKeepsItsRate_L1 (n : Nat) (b_0 : S_api_Bucket) (l_1 : (List S_law12_Try)) : ((List Int) × (List Int) × Int × Int × Int × Int × Int × Int × Int) → Option (Lp ((List Int) × (List Int) × Int × Int × Int × Int × Int × Int × Int) (Lp (Unit) (Bool))) :=
  fun (times_21, taken_22, t_23, i_24, x_25, x_26, x_27, x_28, x_29) =>
    cond (decide (i_24 < (l_1.length : Int)))
      (idx l_1 i_24 fun x37 =>
      (bucket_Take (S_api_Bucket.mk x_25 x_26 x_27 x_28 x_29) (IntKind.i64.wrap (t_23 + (IntKind.i64.wrap x37.After))) (IntKind.i64.wrap x37.N)).bind fun r38 =>
      bindJ (S := Int × Int × Int × Int × Int × Int)
        (cond (decide (r38.2 = 0))
          (some (.go ((IntKind.i64.wrap x37.N), r38.1.Cap, r38.1.Num, r38.1.Den, r38.1.Level, r38.1.At)))
          (some (.go (0, x_25, x_26, x_27, x_28, x_29))))
      (fun (n_45, x_46, x_47, x_48, x_49, x_50) =>
        need (times_21.length + [(IntKind.i64.wrap (t_23 + (IntKind.i64.wrap x37.After)))].length ≤ 4294967296) (
        need (taken_22.length + [n_45].length ≤ 4294967296) (
        bindJ (S := Int)
          (iter (law12_BucketKeepsItsRate_L2 times_21 taken_22 t_23 x37 n_45 x_46 x_47 x_48) n (0, i_24))
        (fun sum_62 =>
          (bucket_Most b_0 b_0.At (IntKind.i64.wrap ((IntKind.i64.wrap (t_23 + (IntKind.i64.wrap x37.After))) + 1))).bind fun r77 =>
          cond (decide (r77.2 ≠ 0) || decide (r77.1 < sum_62))
            (some (.stop (.stop false)))
            (some (.go ((times_21 ++ [(IntKind.i64.wrap (t_23 + (IntKind.i64.wrap x37.After)))]), (taken_22 ++ [n_45]), (IntKind.i64.wrap (t_23 + (IntKind.i64.wrap x37.After))), (IntKind.i64.wrap (i_24 + 1)), x_46, x_47, x_48, x_49, x_50))))))))
      (some (.stop (.go ())))
def law12_BucketKeepsItsRate (n : Nat) (b_0 : S_api_Bucket) (l_1 : (List S_law12_Try)) : Option (Bool) :=
  bindJ (S := Bool)
    (cond (decide (60 < (l_1.length : Int)))
      (some (.go true))
      ((bucket_Valid b_0).bind fun r8 =>
      some (.go (!r8))))
  (fun b2 =>
    cond (b2 || decide (1099511527776 < b_0.At))
      ((law12_sanity n).bind fun r14 =>
      some r14)
      (bindJ (S := Unit)
        (iter (law12_BucketKeepsItsRate_L1 n b_0 l_1) n (([] : List Int), ([] : List Int), b_0.At, 0, b_0.Cap, b_0.Num, b_0.Den, b_0.Level, b_0.At))
      (fun _ =>
        (law12_sanity n).bind fun r83 =>
        some r83)))
theorem law12_BucketKeepsItsRate_ok (n : Nat) (b_0 : S_api_Bucket) (l_1 : (List S_law12_Try)) (l_1v : Value) {r : Bool} (h : law12_BucketKeepsItsRate n b_0 l_1 = some r) :
    Meets Try.prog 4 [.agg #[.int .i64 b_0.Cap, .int .i64 b_0.Num, .int .i64 b_0.Den, .int .i64 b_0.Level, .int .i64 b_0.At], l_1v] [ro l_1v 3 (l_1.map S_law12_Try.enc)] (fun v G => v = .bool r ∧ G = []) := by
  refine fn_of_run Try.func4 rfl Try.ntmps4 rfl (fun w0 o0 => ?_)
  refine run_seq ?_
  refine run_region' ?_
  refine ops_t (wn rfl) rfl (t_box rfl) ?_
  rintro _ _ ⟨b1, rfl, rfl⟩
  refine ops_y (wn rfl) rfl (y_assign rfl) ?_
  refine ops_nil ?_
  refine goes_code ?_
  refine run_seq ?_
  refine run_seq ?_
  refine run_region' ?_
  refine ops_y (wn rfl) rfl (y_move rfl) ?_
  refine ops_y (wn rfl) rfl ((y_len 0 rfl Try.runUnderlying45 rfl rfl reads_ro).to (v_len S_law12_Try.enc _)) ?_
  refine ops_y (wn rfl) rfl (y_gtr rfl rfl) ?_
  refine ops_y (wn rfl) rfl (y_move rfl) ?_
  obtain ⟨o3, h, ho4⟩ := bindJ_some h
  refine ops_cut 4 Bool (fun σ => [(1, l_1v), (2, boxP b1 0), (24, .bool σ)]) (fun σ => [ro l_1v 3 (l_1.map S_law12_Try.enc), box b1 [.int .i64 b_0.Cap, .int .i64 b_0.Num, .int .i64 b_0.Den, .int .i64 b_0.Level, .int .i64 b_0.At]]) (fun σ => o3 = .go σ) (fun L5 hL6 => ?_) ?_
  · refine ops_split 20 (decide (60 < (l_1.length : Int))) rfl (fun hg7 => ?_) (fun hg7 => ?_)
    · replace h := cond_t h hg7
      refine ops_no 3 false 20 rfl rfl rfl rfl rfl ?_
      refine ops_no 3 false 20 rfl rfl rfl rfl rfl ?_
      refine ops_no 3 false 20 rfl rfl rfl rfl rfl ?_
      refine ops_y (wn rfl) rfl (y_pick (b := true) rfl rfl) ?_
      refine ops_nil ?_
      obtain rfl := some_eq h
      exact goes_cut hL6 true [0, 1] (vcons rfl (vcons rfl (vcons rfl (vnil)))) (by decide) rfl rfl
    · replace h := cond_f h hg7
      refine ops_y (wg 3 false 20 rfl rfl rfl rfl) rfl (y_load_boxagg (c := [.int .i64 b_0.Cap, .int .i64 b_0.Num, .int .i64 b_0.Den, .int .i64 b_0.Level, .int .i64 b_0.At]) 1 Try.isAgg23 Try.sizeOf23 rfl rfl rfl) ?_
      obtain ⟨r8, hr9, h⟩ := bind_some h
      refine ops_t (wg 3 false 20 rfl rfl rfl rfl) rfl (t_call (vs := [.agg #[.int .i64 b_0.Cap, .int .i64 b_0.Num, .int .i64 b_0.Den, .int .i64 b_0.Level, .int .i64 b_0.At]]) (cs := []) [] rfl Try.call20 rfl (bucket_Valid_ok b_0  hr9) shows_nil (.inl rfl)) ?_
      rintro _ _ ⟨_, ⟨rfl, rfl⟩, rfl⟩
      refine ops_y (wg 3 false 20 rfl rfl rfl rfl) rfl (y_not rfl) ?_
      refine ops_y (wn rfl) rfl (y_pick (b := false) rfl rfl) ?_
      refine ops_nil ?_
      obtain rfl := some_eq h
      exact goes_cut hL6 (!r8) [0, 1] (vcons rfl (vcons rfl (vcons rfl (vnil)))) (by decide) rfl rfl
  rintro b2 hj
  obtain rfl : o3 = _ := hj
  replace h := after_go ho4
  clear ho4
  refine ops_y (wn rfl) rfl (y_move rfl) ?_
  refine ops_cut 4 Bool (fun σ => [(1, l_1v), (2, boxP b1 0), (29, .bool σ)]) (fun σ => [ro l_1v 3 (l_1.map S_law12_Try.enc), box b1 [.int .i64 b_0.Cap, .int .i64 b_0.Num, .int .i64 b_0.Den, .int .i64 b_0.Level, .int .i64 b_0.At]]) (fun σ => σ = (b2 || decide (1099511527776 < b_0.At))) (fun L10 hL11 => ?_) ?_
  · refine ops_split 25 b2 rfl (fun hg12 => ?_) (fun hg12 => ?_)
    · skip
      refine ops_no 8 false 25 rfl rfl rfl rfl rfl ?_
      refine ops_no 8 false 25 rfl rfl rfl rfl rfl ?_
      refine ops_no 8 false 25 rfl rfl rfl rfl rfl ?_
      refine ops_y (wn rfl) rfl (y_pick (b := true) rfl rfl) ?_
      refine ops_nil ?_
      exact goes_cut hL11 true [0, 1] (vcons rfl (vcons rfl (vcons rfl (vnil)))) (by decide) rfl (by rw [hg12]; simp)
    · skip
      refine ops_y (wg 8 false 25 rfl rfl rfl rfl) rfl (y_fieldAddr_box (sz := 0) Try.runUnderlying23 rfl Try.sizeOf3 rfl) ?_
      refine ops_y (wg 8 false 25 rfl rfl rfl rfl) rfl (y_load_box 1 Try.isAgg3 rfl rfl rfl) ?_
      refine ops_y (wg 8 false 25 rfl rfl rfl rfl) rfl (y_gtr rfl rfl) ?_
      refine ops_y (wn rfl) rfl (y_pick (b := false) rfl rfl) ?_
      refine ops_nil ?_
      exact goes_cut hL11 (decide (1099511527776 < b_0.At)) [0, 1] (vcons rfl (vcons rfl (vcons rfl (vnil)))) (by decide) rfl (by rw [hg12]; simp)
  rintro _ rfl
  refine ops_nil ?_
  refine goes_code ?_
  refine run_cond (b2 || decide (1099511527776 < b_0.At)) rfl (fun hc13 => ?_) (fun hc13 => ?_)
  · replace h := cond_t h hc13
    refine run_seq ?_
    refine run_region' ?_
    obtain ⟨r14, hr15, h⟩ := bind_some h
    refine ops_t (wn rfl) rfl (t_call (vs := []) (cs := []) [] rfl Try.call19 rfl (law12_sanity_ok n   hr15) shows_nil (.inl rfl)) ?_
    rintro _ _ ⟨_, ⟨rfl, rfl⟩, rfl⟩
    refine ops_y (wn rfl) rfl (y_assign rfl) ?_
    refine ops_nil ?_
    refine goes_code ?_
    refine run_ret ?_
    obtain rfl := some_eq h
    refine fin_slots [4] [.bool r14] [] [] Try.results4 rfl (by decide) rfl ?_
    exact ⟨rfl, rfl⟩
  · replace h := cond_f h hc13
    refine run_skip ?_
    refine goes_code ?_
    refine run_seq ?_
    refine run_region' ?_
    refine ops_y (wn rfl) rfl (y_assign rfl) ?_
    refine ops_nil ?_
    refine goes_code ?_
    refine run_seq ?_
    refine run_region' ?_
    refine ops_y (wn rfl) rfl (y_assign rfl) ?_
    refine ops_nil ?_
    refine goes_code ?_
    refine run_seq ?_
    refine run_region' ?_
    refine ops_y (wn rfl) rfl (y_fieldAddr_box (sz := 0) Try.runUnderlying23 rfl Try.sizeOf3 rfl) ?_
    refine ops_y (wn rfl) rfl (y_load_box 1 Try.isAgg3 rfl rfl rfl) ?_
    refine ops_y (wn rfl) rfl (y_assign rfl) ?_
    refine ops_nil ?_
    refine goes_code ?_
    refine run_seq ?_
    refine run_region' ?_
    refine ops_y (wn rfl) rfl (y_load_boxagg (c := [.int .i64 b_0.Cap, .int .i64 b_0.Num, .int .i64 b_0.Den, .int .i64 b_0.Level, .int .i64 b_0.At]) 1 Try.isAgg23 Try.sizeOf23 rfl rfl rfl) ?_
    refine ops_t (wn rfl) rfl (t_alloc Try.zeroValue23) ?_
    rintro _ _ ⟨b16, rfl, rfl⟩
    refine ops_t (wn rfl) rfl (t_store 2 Try.sizeOf23 rfl rfl rfl rfl (by simp [Value.cells]) (by simp [Value.cells, Value.oneCell'])) ?_
    rintro _ _ ⟨rfl, rfl⟩
    refine ops_turn (retell 2 (g := box b16 [.int .i64 b_0.Cap, .int .i64 b_0.Num, .int .i64 b_0.Den, .int .i64 b_0.Level, .int .i64 b_0.At]) rfl rfl) ?_
    refine ops_nil ?_
    refine goes_code ?_
    obtain ⟨o17, h, ho18⟩ := bindJ_some h
    refine run_cut ((Unit) × (Unit)) (fun σ => []) (fun σ => []) (fun σ => o17 = .go σ.1) (fun L20 hL19 => ?_) ?_
    · -- the ways through
      refine run_seq ?_
      refine run_weak [(1, l_1v), (2, boxP b1 0), (5, .slice none 0 0), (6, .slice none 0 0), (7, .int .i64 b_0.At), (8, boxP b16 0)] [0, 1, 2] [ro l_1v 3 (l_1.map S_law12_Try.enc), box b1 [.int .i64 b_0.Cap, .int .i64 b_0.Num, .int .i64 b_0.Den, .int .i64 b_0.Level, .int .i64 b_0.At], box b16 [.int .i64 b_0.Cap, .int .i64 b_0.Num, .int .i64 b_0.Den, .int .i64 b_0.Level, .int .i64 b_0.At]] (vcons rfl (vcons rfl (vcons rfl (vcons rfl (vcons rfl (vcons rfl (vnil))))))) (by decide) rfl ?_
      refine run_region' ?_
      refine ops_y (wn rfl) rfl (y_assign rfl) ?_
      refine ops_nil ?_
      refine goes_code ?_
      refine run_block ?_
      refine run_turn (nilrow 1) ?_
      refine run_turn (retell 3 (g := row (.slice none 0 0) 1 (([] : List Int).map (eInt .i64))) rfl rfl) ?_
      refine run_turn (nilrow 1) ?_
      refine run_turn (retell 4 (g := row (.slice none 0 0) 1 (([] : List Int).map (eInt .i64))) rfl rfl) ?_
      refine run_iter (step := law12_BucketKeepsItsRate_L1 n b_0 l_1) (n := n) (s0 := (([] : List Int), ([] : List Int), b_0.At, 0, b_0.Cap, b_0.Num, b_0.Den, b_0.Level, b_0.At)) h (G := Value × Value) ((.slice none 0 0), (.slice none 0 0)) (fun σ γ => [(1, l_1v), (2, boxP b1 0), (5, γ.1), (6, γ.2), (7, .int .i64 σ.2.2.1), (8, boxP b16 0), (9, .int .i64 σ.2.2.2.1)]) (fun σ γ => [ro l_1v 3 (l_1.map S_law12_Try.enc), box b1 [.int .i64 σ.2.2.2.2.1, .int .i64 σ.2.2.2.2.2.1, .int .i64 σ.2.2.2.2.2.2.1, .int .i64 σ.2.2.2.2.2.2.2.1, .int .i64 σ.2.2.2.2.2.2.2.2], row γ.1 1 (σ.1.map (eInt .i64)), row γ.2 1 (σ.2.1.map (eInt .i64)), box b16 [.int .i64 b_0.Cap, .int .i64 b_0.Num, .int .i64 b_0.Den, .int .i64 b_0.Level, .int .i64 b_0.At]]) [0, 1, 3, 4, 2] (vcons rfl (vcons rfl (vcons rfl (vcons rfl (vcons rfl (vcons rfl (vcons rfl (vnil)))))))) (by decide) rfl ?_
      rintro ⟨times_21, taken_22, t_23, i_24, x_25, x_26, x_27, x_28, x_29⟩ ⟨v30, v31⟩ o32 h L35 hgo33 hstop34
      change Run _ _ _ (VF.of [(1, l_1v), (2, boxP b1 0), (5, v30), (6, v31), (7, .int .i64 t_23), (8, boxP b16 0), (9, .int .i64 i_24)]) [ro l_1v 3 (l_1.map S_law12_Try.enc), box b1 [.int .i64 x_25, .int .i64 x_26, .int .i64 x_27, .int .i64 x_28, .int .i64 x_29], row v30 1 (times_21.map (eInt .i64)), row v31 1 (taken_22.map (eInt .i64)), box b16 [.int .i64 b_0.Cap, .int .i64 b_0.Num, .int .i64 b_0.Den, .int .i64 b_0.Level, .int .i64 b_0.At]]
      refine run_seq ?_
      refine run_seq ?_
      refine run_region' ?_
      refine ops_y (wn rfl) rfl (y_move rfl) ?_
      refine ops_y (wn rfl) rfl (y_move rfl) ?_
      refine ops_y (wn rfl) rfl ((y_len 0 rfl Try.runUnderlying45 rfl rfl reads_ro).to (v_len S_law12_Try.enc _)) ?_
      refine ops_y (wn rfl) rfl (y_lss rfl rfl) ?_
      refine ops_nil ?_
      refine goes_code ?_
      refine run_cond (decide (i_24 < (l_1.length : Int))) rfl (fun hc36 => ?_) (fun hc36 => ?_)
      · replace h := cond_t h hc36
        refine run_skip ?_
        refine goes_code ?_
        refine run_seq ?_
        refine run_block ?_
        refine run_seq ?_
        refine run_region' ?_
        refine ops_y (wn rfl) rfl (y_move rfl) ?_
        refine ops_y (wn rfl) rfl (y_move rfl) ?_
        refine ops_y (wn rfl) rfl (y_move rfl) ?_
        obtain ⟨x37, hzx37, hlx37, hxx37, h⟩ := idx_some h
        refine ops_y (wn rfl) rfl (y_indexAddrI (kd := .i64) (i := i_24) 0 Try.runUnderlying45 Try.sizeOf48 rfl rfl rfl reads_ro hzx37 (map_lt hlx37)) ?_
        refine ops_y (wn rfl) rfl (y_fieldAddr_elem (sz := 0) Try.runUnderlying48 rfl Try.sizeOf5 rfl) ?_
        refine ops_y (wn rfl) rfl (y_load_field (i := i_24.toNat) (j := 0) 0 Try.isAgg5 rfl rfl reads_ro (map_get hxx37) rfl) ?_
        refine ops_y (wn rfl) rfl (y_conv Try.runUnderlying5 Try.runUnderlying3 rfl) ?_
        refine ops_y (wn rfl) rfl (y_add rfl rfl) ?_
        refine ops_y (wn rfl) rfl (y_assign rfl) ?_
        refine ops_nil ?_
        refine goes_code ?_
        refine run_seq ?_
        refine run_weak [(1, l_1v), (2, boxP b1 0), (5, v30), (6, v31), (7, .int .i64 (IntKind.i64.wrap (t_23 + (IntKind.i64.wrap x37.After)))), (8, boxP b16 0), (9, .int .i64 i_24)] [0, 1, 2, 3, 4] [ro l_1v 3 (l_1.map S_law12_Try.enc), box b1 [.int .i64 x_25, .int .i64 x_26, .int .i64 x_27, .int .i64 x_28, .int .i64 x_29], row v30 1 (times_21.map (eInt .i64)), row v31 1 (taken_22.map (eInt .i64)), box b16 [.int .i64 b_0.Cap, .int .i64 b_0.Num, .int .i64 b_0.Den, .int .i64 b_0.Level, .int .i64 b_0.At]] (vcons rfl (vcons rfl (vcons rfl (vcons rfl (vcons rfl (vcons rfl (vcons rfl (vnil)))))))) (by decide) rfl ?_
        refine run_region' ?_
        refine ops_y (wn rfl) rfl (y_assign rfl) ?_
        refine ops_nil ?_
        refine goes_code ?_
        refine run_seq ?_
        obtain ⟨r38, hr39, h⟩ := bind_some h
        refine run_mid (Nat) (fun σ => [(1, l_1v), (2, boxP b1 0), (5, v30), (6, v31), (7, .int .i64 (IntKind.i64.wrap (t_23 + (IntKind.i64.wrap x37.After)))), (8, boxP b16 0), (9, .int .i64 i_24), (10, .int .i64 0), (11, boxP σ 0), (12, .int .i64 r38.2)]) (fun σ => [ro l_1v 3 (l_1.map S_law12_Try.enc), box b1 [.int .i64 x_25, .int .i64 x_26, .int .i64 x_27, .int .i64 x_28, .int .i64 x_29], row v30 1 (times_21.map (eInt .i64)), row v31 1 (taken_22.map (eInt .i64)), box b16 [.int .i64 b_0.Cap, .int .i64 b_0.Num, .int .i64 b_0.Den, .int .i64 b_0.Level, .int .i64 b_0.At], box σ [.int .i64 r38.1.Cap, .int .i64 r38.1.Num, .int .i64 r38.1.Den, .int .i64 r38.1.Level, .int .i64 r38.1.At]]) (fun L41 hL42 => ?_) ?_
        · -- every order
          refine run_drawany [ro l_1v 3 (l_1.map S_law12_Try.enc), box b1 [.int .i64 x_25, .int .i64 x_26, .int .i64 x_27, .int .i64 x_28, .int .i64 x_29], row v30 1 (times_21.map (eInt .i64)), row v31 1 (taken_22.map (eInt .i64)), box b16 [.int .i64 b_0.Cap, .int .i64 b_0.Num, .int .i64 b_0.Den, .int .i64 b_0.Level, .int .i64 b_0.At]] (by kernel_rfl) ?_
          refine any_y 0 rfl (by kernel_rfl) (by kernel_rfl) (by kernel_rfl) (sub_same (sub_same (sub_same (sub_same (sub_same (sub_nil)))))) (wn rfl) rfl (y_load_boxagg (c := [.int .i64 x_25, .int .i64 x_26, .int .i64 x_27, .int .i64 x_28, .int .i64 x_29]) 1 Try.isAgg23 Try.sizeOf23 rfl rfl rfl) ?_
          refine any_y 1 rfl (by kernel_rfl) (by kernel_rfl) (by kernel_rfl) (sub_same (sub_same (sub_same (sub_same (sub_same (sub_nil)))))) (wn rfl) rfl (y_move rfl) ?_
          refine any_y 2 rfl (by kernel_rfl) (by kernel_rfl) (by kernel_rfl) (sub_same (sub_same (sub_same (sub_same (sub_same (sub_nil)))))) (wn rfl) rfl (y_move rfl) ?_
          refine any_y 3 rfl (by kernel_rfl) (by kernel_rfl) (by kernel_rfl) (sub_same (sub_same (sub_same (sub_same (sub_same (sub_nil)))))) (wn rfl) rfl (y_move rfl) ?_
          refine any_y 4 rfl (by kernel_rfl) (by kernel_rfl) (by kernel_rfl) (sub_same (sub_same (sub_same (sub_same (sub_same (sub_nil)))))) (wn rfl) rfl (y_indexAddrI (kd := .i64) (i := i_24) 0 Try.runUnderlying45 Try.sizeOf48 rfl rfl rfl reads_ro hzx37 (map_lt hlx37)) ?_
          refine any_y 5 rfl (by kernel_rfl) (by kernel_rfl) (by kernel_rfl) (sub_same (sub_same (sub_same (sub_same (sub_same (sub_nil)))))) (wn rfl) rfl (y_fieldAddr_elem (sz := 0) Try.runUnderlying48 rfl Try.sizeOf5 rfl) ?_
          refine any_y 6 rfl (by kernel_rfl) (by kernel_rfl) (by kernel_rfl) (sub_same (sub_same (sub_same (sub_same (sub_same (sub_nil)))))) (wn rfl) rfl (y_load_field (i := i_24.toNat) (j := 1) 0 Try.isAgg5 rfl rfl reads_ro (map_get hxx37) rfl) ?_
          refine any_y 7 rfl (by kernel_rfl) (by kernel_rfl) (by kernel_rfl) (sub_same (sub_same (sub_same (sub_same (sub_same (sub_nil)))))) (wn rfl) rfl (y_conv Try.runUnderlying5 Try.runUnderlying3 rfl) ?_
          refine any_all [8, 12] (by kernel_rfl) rfl ?_
          refine anyo_cons ?_ ?_
          · -- 8
            refine any_t rfl (wn rfl) rfl (t_call (vs := [.agg #[.int .i64 x_25, .int .i64 x_26, .int .i64 x_27, .int .i64 x_28, .int .i64 x_29], .int .i64 (IntKind.i64.wrap (t_23 + (IntKind.i64.wrap x37.After))), .int .i64 (IntKind.i64.wrap x37.N)]) (cs := []) [] rfl Try.call11 rfl (bucket_Take_ok (S_api_Bucket.mk x_25 x_26 x_27 x_28 x_29) (IntKind.i64.wrap (t_23 + (IntKind.i64.wrap x37.After))) (IntKind.i64.wrap x37.N)  hr39) shows_nil (.inl rfl)) ?_
            rintro _ _ ⟨_, ⟨rfl, rfl⟩, rfl⟩
            refine ⟨(sub_same (sub_same (sub_same (sub_same (sub_same (sub_nil)))))), ?_⟩
            refine any_y 9 rfl (by kernel_rfl) (by kernel_rfl) (by kernel_rfl) (sub_same (sub_same (sub_same (sub_same (sub_same (sub_nil)))))) (wn rfl) rfl (y_move rfl) ?_
            refine any_y 10 rfl (by kernel_rfl) (by kernel_rfl) (by kernel_rfl) (sub_same (sub_same (sub_same (sub_same (sub_same (sub_nil)))))) (wn rfl) rfl (y_extract rfl rfl) ?_
            refine any_y 11 rfl (by kernel_rfl) (by kernel_rfl) (by kernel_rfl) (sub_same (sub_same (sub_same (sub_same (sub_same (sub_nil)))))) (wn rfl) rfl (y_extract rfl rfl) ?_
            refine any_all [12] (by kernel_rfl) rfl ?_
            refine anyo_cons ?_ ?_
            · -- 12
              refine any_t rfl (wn rfl) rfl (t_alloc Try.zeroValue23) ?_
              rintro _ _ ⟨b43, rfl, rfl⟩
              refine ⟨(sub_same (sub_same (sub_same (sub_same (sub_same (sub_nil)))))), ?_⟩
              refine any_all [13] (by kernel_rfl) rfl ?_
              refine anyo_cons ?_ ?_
              · -- 13
                refine any_t rfl (wn rfl) rfl (t_store 5 Try.sizeOf23 rfl rfl rfl rfl (by simp [Value.cells]) (by simp [Value.cells, Value.oneCell'])) ?_
                rintro _ _ ⟨rfl, rfl⟩
                refine ⟨(sub_same (sub_same (sub_same (sub_same (sub_same (sub_nil)))))), ?_⟩
                refine any_turn (retell 5 (g := box b43 [.int .i64 r38.1.Cap, .int .i64 r38.1.Num, .int .i64 r38.1.Den, .int .i64 r38.1.Level, .int .i64 r38.1.At]) rfl rfl) ?_
                refine any_y 14 rfl (by kernel_rfl) (by kernel_rfl) (by kernel_rfl) (sub_same (sub_same (sub_same (sub_same (sub_same (sub_nil)))))) (wn rfl) rfl (y_assign rfl) ?_
                refine any_nil (by kernel_rfl) ?_
                exact goes_cut hL42 b43 [0, 1, 2, 3, 4, 5] (vcons rfl (vcons rfl (vcons rfl (vcons rfl (vcons rfl (vcons rfl (vcons rfl (vcons rfl (vcons rfl (vcons rfl (vnil))))))))))) (by decide) rfl trivial
              exact anyo_nil
            exact anyo_nil
          refine anyo_cons ?_ ?_
          · -- 12
            refine any_t rfl (wn rfl) rfl (t_alloc Try.zeroValue23) ?_
            rintro _ _ ⟨b44, rfl, rfl⟩
            refine ⟨(sub_same (sub_same (sub_same (sub_same (sub_same (sub_nil)))))), ?_⟩
            refine any_all [8] (by kernel_rfl) rfl ?_
            refine anyo_cons ?_ ?_
            · -- 8
              refine any_t rfl (wn rfl) rfl (t_call (vs := [.agg #[.int .i64 x_25, .int .i64 x_26, .int .i64 x_27, .int .i64 x_28, .int .i64 x_29], .int .i64 (IntKind.i64.wrap (t_23 + (IntKind.i64.wrap x37.After))), .int .i64 (IntKind.i64.wrap x37.N)]) (cs := []) [] rfl Try.call11 rfl (bucket_Take_ok (S_api_Bucket.mk x_25 x_26 x_27 x_28 x_29) (IntKind.i64.wrap (t_23 + (IntKind.i64.wrap x37.After))) (IntKind.i64.wrap x37.N)  hr39) shows_nil (.inl rfl)) ?_
              rintro _ _ ⟨_, ⟨rfl, rfl⟩, rfl⟩
              refine ⟨(sub_same (sub_same (sub_same (sub_same (sub_same (sub_nil)))))), ?_⟩
              refine any_y 9 rfl (by kernel_rfl) (by kernel_rfl) (by kernel_rfl) (sub_same (sub_same (sub_same (sub_same (sub_same (sub_nil)))))) (wn rfl) rfl (y_move rfl) ?_
              refine any_y 10 rfl (by kernel_rfl) (by kernel_rfl) (by kernel_rfl) (sub_same (sub_same (sub_same (sub_same (sub_same (sub_nil)))))) (wn rfl) rfl (y_extract rfl rfl) ?_
              refine any_y 11 rfl (by kernel_rfl) (by kernel_rfl) (by kernel_rfl) (sub_same (sub_same (sub_same (sub_same (sub_same (sub_nil)))))) (wn rfl) rfl (y_extract rfl rfl) ?_
              refine any_all [13] (by kernel_rfl) rfl ?_
              refine anyo_cons ?_ ?_
              · -- 13
                refine any_t rfl (wn rfl) rfl (t_store 5 Try.sizeOf23 rfl rfl rfl rfl (by simp [Value.cells]) (by simp [Value.cells, Value.oneCell'])) ?_
                rintro _ _ ⟨rfl, rfl⟩
                refine ⟨(sub_same (sub_same (sub_same (sub_same (sub_same (sub_nil)))))), ?_⟩
                refine any_turn (retell 5 (g := box b44 [.int .i64 r38.1.Cap, .int .i64 r38.1.Num, .int .i64 r38.1.Den, .int .i64 r38.1.Level, .int .i64 r38.1.At]) rfl rfl) ?_
                refine any_y 14 rfl (by kernel_rfl) (by kernel_rfl) (by kernel_rfl) (sub_same (sub_same (sub_same (sub_same (sub_same (sub_nil)))))) (wn rfl) rfl (y_assign rfl) ?_
                refine any_nil (by kernel_rfl) ?_
                exact goes_cut hL42 b44 [0, 1, 2, 3, 4, 5] (vcons rfl (vcons rfl (vcons rfl (vcons rfl (vcons rfl (vcons rfl (vcons rfl (vcons rfl (vcons rfl (vcons rfl (vnil))))))))))) (by decide) rfl trivial
              exact anyo_nil
            exact anyo_nil
          exact anyo_nil
        rintro b40
        change Goes _ _ (VF.of [(1, l_1v), (2, boxP b1 0), (5, v30), (6, v31), (7, .int .i64 (IntKind.i64.wrap (t_23 + (IntKind.i64.wrap x37.After)))), (8, boxP b16 0), (9, .int .i64 i_24), (10, .int .i64 0), (11, boxP b40 0), (12, .int .i64 r38.2)]) [ro l_1v 3 (l_1.map S_law12_Try.enc), box b1 [.int .i64 x_25, .int .i64 x_26, .int .i64 x_27, .int .i64 x_28, .int .i64 x_29], row v30 1 (times_21.map (eInt .i64)), row v31 1 (taken_22.map (eInt .i64)), box b16 [.int .i64 b_0.Cap, .int .i64 b_0.Num, .int .i64 b_0.Den, .int .i64 b_0.Level, .int .i64 b_0.At], box b40 [.int .i64 r38.1.Cap, .int .i64 r38.1.Num, .int .i64 r38.1.Den, .int .i64 r38.1.Level, .int .i64 r38.1.At]]
        refine goes_code ?_
        obtain ⟨o51, h, ho52⟩ := bindJ_some h
        refine run_cut ((Int × Int × Int × Int × Int × Int) × (Unit)) (fun σ => [(1, l_1v), (2, boxP b1 0), (5, v30), (6, v31), (7, .int .i64 (IntKind.i64.wrap (t_23 + (IntKind.i64.wrap x37.After)))), (8, boxP b16 0), (9, .int .i64 i_24), (10, .int .i64 σ.1.1)]) (fun σ => [ro l_1v 3 (l_1.map S_law12_Try.enc), box b1 [.int .i64 σ.1.2.1, .int .i64 σ.1.2.2.1, .int .i64 σ.1.2.2.2.1, .int .i64 σ.1.2.2.2.2.1, .int .i64 σ.1.2.2.2.2.2], row v30 1 (times_21.map (eInt .i64)), row v31 1 (taken_22.map (eInt .i64)), box b16 [.int .i64 b_0.Cap, .int .i64 b_0.Num, .int .i64 b_0.Den, .int .i64 b_0.Level, .int .i64 b_0.At]]) (fun σ => o51 = .go σ.1) (fun L54 hL53 => ?_) ?_
        · -- the ways through
          refine run_seq ?_
          refine run_region' ?_
          refine ops_y (wn rfl) rfl (y_move rfl) ?_
          refine ops_y (wn rfl) rfl (y_eql rfl rfl) ?_
          refine ops_nil ?_
          refine goes_code ?_
          refine run_cond (decide (r38.2 = 0)) rfl (fun hc55 => ?_) (fun hc55 => ?_)
          · replace h := cond_t h hc55
            refine run_seq ?_
            refine run_region' ?_
            refine ops_y (wn rfl) rfl (y_move rfl) ?_
            refine ops_y (wn rfl) rfl (y_move rfl) ?_
            refine ops_y (wn rfl) rfl (y_indexAddrI (kd := .i64) (i := i_24) 0 Try.runUnderlying45 Try.sizeOf48 rfl rfl rfl reads_ro hzx37 (map_lt hlx37)) ?_
            refine ops_y (wn rfl) rfl (y_fieldAddr_elem (sz := 0) Try.runUnderlying48 rfl Try.sizeOf5 rfl) ?_
            refine ops_y (wn rfl) rfl (y_load_field (i := i_24.toNat) (j := 1) 0 Try.isAgg5 rfl rfl reads_ro (map_get hxx37) rfl) ?_
            refine ops_y (wn rfl) rfl (y_conv Try.runUnderlying5 Try.runUnderlying3 rfl) ?_
            refine ops_y (wn rfl) rfl (y_assign rfl) ?_
            refine ops_nil ?_
            refine goes_code ?_
            refine run_weak [(1, l_1v), (2, boxP b1 0), (5, v30), (6, v31), (7, .int .i64 (IntKind.i64.wrap (t_23 + (IntKind.i64.wrap x37.After)))), (8, boxP b16 0), (9, .int .i64 i_24), (10, .int .i64 (IntKind.i64.wrap x37.N)), (11, boxP b40 0)] [0, 1, 2, 3, 4, 5] [ro l_1v 3 (l_1.map S_law12_Try.enc), box b1 [.int .i64 x_25, .int .i64 x_26, .int .i64 x_27, .int .i64 x_28, .int .i64 x_29], row v30 1 (times_21.map (eInt .i64)), row v31 1 (taken_22.map (eInt .i64)), box b16 [.int .i64 b_0.Cap, .int .i64 b_0.Num, .int .i64 b_0.Den, .int .i64 b_0.Level, .int .i64 b_0.At], box b40 [.int .i64 r38.1.Cap, .int .i64 r38.1.Num, .int .i64 r38.1.Den, .int .i64 r38.1.Level, .int .i64 r38.1.At]] (vcons rfl (vcons rfl (vcons rfl (vcons rfl (vcons rfl (vcons rfl (vcons rfl (vcons rfl (vcons rfl (vnil)))))))))) (by decide) rfl ?_
            refine run_region' ?_
            refine ops_y (wn rfl) rfl (y_load_boxagg (c := [.int .i64 r38.1.Cap, .int .i64 r38.1.Num, .int .i64 r38.1.Den, .int .i64 r38.1.Level, .int .i64 r38.1.At]) 5 Try.isAgg23 Try.sizeOf23 rfl rfl rfl) ?_
            refine ops_t (wn rfl) rfl (t_store 1 Try.sizeOf23 rfl rfl rfl rfl (by simp [Value.cells]) (by simp [Value.cells, Value.oneCell'])) ?_
            rintro _ _ ⟨rfl, rfl⟩
            refine ops_turn (retell 1 (g := box b1 [.int .i64 r38.1.Cap, .int .i64 r38.1.Num, .int .i64 r38.1.Den, .int .i64 r38.1.Level, .int .i64 r38.1.At]) rfl rfl) ?_
            refine ops_nil ?_
            obtain rfl := some_eq h
            exact goes_cut hL53 (((IntKind.i64.wrap x37.N), r38.1.Cap, r38.1.Num, r38.1.Den, r38.1.Level, r38.1.At), ()) [0, 1, 2, 3, 4] (vcons rfl (vcons rfl (vcons rfl (vcons rfl (vcons rfl (vcons rfl (vcons rfl (vcons rfl (vnil))))))))) (by decide) rfl rfl
          · replace h := cond_f h hc55
            refine run_skip ?_
            obtain rfl := some_eq h
            exact goes_cut hL53 ((0, x_25, x_26, x_27, x_28, x_29), ()) [0, 1, 2, 3, 4] (vcons rfl (vcons rfl (vcons rfl (vcons rfl (vcons rfl (vcons rfl (vcons rfl (vcons rfl (vnil))))))))) (by decide) rfl rfl
        rintro ⟨⟨n_45, x_46, x_47, x_48, x_49, x_50⟩, _⟩ hj
        obtain rfl : o51 = _ := hj
        replace h := after_go ho52
        clear ho52
        change Run _ _ _ (VF.of [(1, l_1v), (2, boxP b1 0), (5, v30), (6, v31), (7, .int .i64 (IntKind.i64.wrap (t_23 + (IntKind.i64.wrap x37.After)))), (8, boxP b16 0), (9, .int .i64 i_24), (10, .int .i64 n_45)]) [ro l_1v 3 (l_1.map S_law12_Try.enc), box b1 [.int .i64 x_46, .int .i64 x_47, .int .i64 x_48, .int .i64 x_49, .int .i64 x_50], row v30 1 (times_21.map (eInt .i64)), row v31 1 (taken_22.map (eInt .i64)), box b16 [.int .i64 b_0.Cap, .int .i64 b_0.Num, .int .i64 b_0.Den, .int .i64 b_0.Level, .int .i64 b_0.At]]
        refine run_seq ?_
        refine run_region' ?_
        refine ops_y (wn rfl) rfl (y_move rfl) ?_
        refine ops_y (wn rfl) rfl (y_move rfl) ?_
        refine ops_t (wn rfl) rfl (t_lit [.int .i64 (IntKind.i64.wrap (t_23 + (IntKind.i64.wrap x37.After)))] Try.runUnderlying46 Try.sizeOf3 Try.zeroValue3 rfl (by decide) (by decide) rfl (by simp [Value.cells])) ?_
        rintro v56 _ ⟨rfl, _⟩
        refine ops_turn (retell 5 (g := row v56 1 ([(IntKind.i64.wrap (t_23 + (IntKind.i64.wrap x37.After)))].map (eInt .i64))) rfl rfl) ?_
        obtain ⟨hr58, h⟩ := need_some h
        refine ops_t (wn rfl) rfl (t_append (es := 1) 2 rfl Try.runUnderlying46 rfl Try.runUnderlying46 (.inr ⟨_, rfl⟩) Try.typeInfo3 rfl (by decide) Try.zeroValue3 rfl rfl rfl rfl (src_reads 5 rfl reads_row (map_ok (eInt_ok _) _)) (map_room hr58 (by decide)) (map_fit hr58)) ?_
        rintro v57 _ rfl
        refine ops_turn (retell 2 (g := row v57 1 ((times_21 ++ [(IntKind.i64.wrap (t_23 + (IntKind.i64.wrap x37.After)))]).map (eInt .i64))) rfl (congrArg (row _ _) List.map_append.symm)) ?_
        refine ops_y (wn rfl) rfl (y_assign rfl) ?_
        refine ops_nil ?_
        refine goes_code ?_
        refine run_seq ?_
        refine run_region' ?_
        refine ops_y (wn rfl) rfl (y_move rfl) ?_
        refine ops_y (wn rfl) rfl (y_move rfl) ?_
        refine ops_t (wn rfl) rfl (t_lit [.int .i64 n_45] Try.runUnderlying46 Try.sizeOf3 Try.zeroValue3 rfl (by decide) (by decide) rfl (by simp [Value.cells])) ?_
        rintro v59 _ ⟨rfl, _⟩
        refine ops_turn (retell 6 (g := row v59 1 ([n_45].map (eInt .i64))) rfl rfl) ?_
        obtain ⟨hr61, h⟩ := need_some h
        refine ops_t (wn rfl) rfl (t_append (es := 1) 3 rfl Try.runUnderlying46 rfl Try.runUnderlying46 (.inr ⟨_, rfl⟩) Try.typeInfo3 rfl (by decide) Try.zeroValue3 rfl rfl rfl rfl (src_reads 6 rfl reads_row (map_ok (eInt_ok _) _)) (map_room hr61 (by decide)) (map_fit hr61)) ?_
        rintro v60 _ rfl
        refine ops_turn (retell 3 (g := row v60 1 ((taken_22 ++ [n_45]).map (eInt .i64))) rfl (congrArg (row _ _) List.map_append.symm)) ?_
        refine ops_y (wn rfl) rfl (y_assign rfl) ?_
        refine ops_nil ?_
        refine goes_code ?_
        refine run_seq ?_
        refine run_weak [(1, l_1v), (2, boxP b1 0), (5, v57), (6, v60), (7, .int .i64 (IntKind.i64.wrap (t_23 + (IntKind.i64.wrap x37.After)))), (8, boxP b16 0), (9, .int .i64 i_24)] [0, 1, 2, 3, 4] [ro l_1v 3 (l_1.map S_law12_Try.enc), box b1 [.int .i64 x_46, .int .i64 x_47, .int .i64 x_48, .int .i64 x_49, .int .i64 x_50], row v57 1 ((times_21 ++ [(IntKind.i64.wrap (t_23 + (IntKind.i64.wrap x37.After)))]).map (eInt .i64)), row v60 1 ((taken_22 ++ [n_45]).map (eInt .i64)), box b16 [.int .i64 b_0.Cap, .int .i64 b_0.Num, .int .i64 b_0.Den, .int .i64 b_0.Level, .int .i64 b_0.At]] (vcons rfl (vcons rfl (vcons rfl (vcons rfl (vcons rfl (vcons rfl (vcons rfl (vnil)))))))) (by decide) rfl ?_
        refine run_region' ?_
        refine ops_y (wn rfl) rfl (y_assign rfl) ?_
        refine ops_nil ?_
        refine goes_code ?_
        obtain ⟨o63, h, ho64⟩ := bindJ_some h
        refine run_cut ((Int) × (Unit)) (fun σ => [(1, l_1v), (2, boxP b1 0), (5, v57), (6, v60), (7, .int .i64 (IntKind.i64.wrap (t_23 + (IntKind.i64.wrap x37.After)))), (8, boxP b16 0), (9, .int .i64 i_24), (13, .int .i64 σ.1)]) (fun σ => [ro l_1v 3 (l_1.map S_law12_Try.enc), box b1 [.int .i64 x_46, .int .i64 x_47, .int .i64 x_48, .int .i64 x_49, .int .i64 x_50], row v57 1 ((times_21 ++ [(IntKind.i64.wrap (t_23 + (IntKind.i64.wrap x37.After)))]).map (eInt .i64)), row v60 1 ((taken_22 ++ [n_45]).map (eInt .i64)), box b16 [.int .i64 b_0.Cap, .int .i64 b_0.Num, .int .i64 b_0.Den, .int .i64 b_0.Level, .int .i64 b_0.At]]) (fun σ => o63 = .go σ.1) (fun L66 hL65 => ?_) ?_
        · -- the ways through
          refine run_seq ?_
          refine run_region' ?_
          refine ops_y (wn rfl) rfl (y_move rfl) ?_
          refine ops_y (wn rfl) rfl (y_assign rfl) ?_
          refine ops_nil ?_
          refine goes_code ?_
          refine run_block ?_
          refine run_iter (step := law12_BucketKeepsItsRate_L2 times_21 taken_22 t_23 x37 n_45 x_46 x_47 x_48) (n := n) (s0 := (0, i_24)) h (G := Unit) () (fun σ γ => [(1, l_1v), (2, boxP b1 0), (5, v57), (6, v60), (7, .int .i64 (IntKind.i64.wrap (t_23 + (IntKind.i64.wrap x37.After)))), (8, boxP b16 0), (9, .int .i64 i_24), (13, .int .i64 σ.1), (14, .int .i64 σ.2)]) (fun σ γ => [ro l_1v 3 (l_1.map S_law12_Try.enc), box b1 [.int .i64 x_46, .int .i64 x_47, .int .i64 x_48, .int .i64 x_49, .int .i64 x_50], row v57 1 ((times_21 ++ [(IntKind.i64.wrap (t_23 + (IntKind.i64.wrap x37.After)))]).map (eInt .i64)), row v60 1 ((taken_22 ++ [n_45]).map (eInt .i64)), box b16 [.int .i64 b_0.Cap, .int .i64 b_0.Num, .int .i64 b_0.Den, .int .i64 b_0.Level, .int .i64 b_0.At]]) [0, 1, 2, 3, 4] (vcons rfl (vcons rfl (vcons rfl (vcons rfl (vcons rfl (vcons rfl (vcons rfl (vcons rfl (vcons rfl (vnil)))))))))) (by decide) rfl ?_
          rintro ⟨sum_67, k_68⟩ _ o69 h L72 hgo70 hstop71
          change Run _ _ _ (VF.of [(1, l_1v), (2, boxP b1 0), (5, v57), (6, v60), (7, .int .i64 (IntKind.i64.wrap (t_23 + (IntKind.i64.wrap x37.After)))), (8, boxP b16 0), (9, .int .i64 i_24), (13, .int .i64 sum_67), (14, .int .i64 k_68)]) [ro l_1v 3 (l_1.map S_law12_Try.enc), box b1 [.int .i64 x_46, .int .i64 x_47, .int .i64 x_48, .int .i64 x_49, .int .i64 x_50], row v57 1 ((times_21 ++ [(IntKind.i64.wrap (t_23 + (IntKind.i64.wrap x37.After)))]).map (eInt .i64)), row v60 1 ((taken_22 ++ [n_45]).map (eInt .i64)), box b16 [.int .i64 b_0.Cap, .int .i64 b_0.Num, .int .i64 b_0.Den, .int .i64 b_0.Level, .int .i64 b_0.At]]
          refine run_seq ?_
          refine run_seq ?_
          refine run_region' ?_
          refine ops_y (wn rfl) rfl (y_move rfl) ?_
          refine ops_y (wn rfl) rfl (y_geq rfl rfl) ?_
          refine ops_nil ?_
          refine goes_code ?_
          refine run_cond (decide (0 ≤ k_68)) rfl (fun hc73 => ?_) (fun hc73 => ?_)
          · replace h := cond_t h hc73
            refine run_skip ?_
            refine goes_code ?_
            refine run_seq ?_
            refine run_block ?_
            refine run_seq ?_
            refine run_region' ?_
            refine ops_y (wn rfl) rfl (y_move rfl) ?_
            refine ops_y (wn rfl) rfl (y_move rfl) ?_
            refine ops_y (wn rfl) rfl (y_move rfl) ?_
            obtain ⟨x74, hzx74, hlx74, hxx74, h⟩ := idx_some h
            refine ops_y (wn rfl) rfl (y_indexAddrI (kd := .i64) (i := k_68) 3 Try.runUnderlying46 Try.sizeOf3 rfl rfl rfl reads_row hzx74 (map_lt hlx74)) ?_
            refine ops_y (wn rfl) rfl (y_load_elem (i := k_68.toNat) 3 Try.isAgg3 rfl rfl reads_row (map_get hxx74)) ?_
            refine ops_y (wn rfl) rfl (y_add rfl rfl) ?_
            refine ops_y (wn rfl) rfl (y_assign rfl) ?_
            refine ops_nil ?_
            refine goes_code ?_
            refine run_seq ?_
            refine run_weak [(1, l_1v), (2, boxP b1 0), (5, v57), (6, v60), (7, .int .i64 (IntKind.i64.wrap (t_23 + (IntKind.i64.wrap x37.After)))), (8, boxP b16 0), (9, .int .i64 i_24), (13, .int .i64 (IntKind.i64.wrap (sum_67 + x74))), (14, .int .i64 k_68)] [0, 1, 2, 3, 4] [ro l_1v 3 (l_1.map S_law12_Try.enc), box b1 [.int .i64 x_46, .int .i64 x_47, .int .i64 x_48, .int .i64 x_49, .int .i64 x_50], row v57 1 ((times_21 ++ [(IntKind.i64.wrap (t_23 + (IntKind.i64.wrap x37.After)))]).map (eInt .i64)), row v60 1 ((taken_22 ++ [n_45]).map (eInt .i64)), box b16 [.int .i64 b_0.Cap, .int .i64 b_0.Num, .int .i64 b_0.Den, .int .i64 b_0.Level, .int .i64 b_0.At]] (vcons rfl (vcons rfl (vcons rfl (vcons rfl (vcons rfl (vcons rfl (vcons rfl (vcons rfl (vcons rfl (vnil)))))))))) (by decide) rfl ?_
            refine run_draw (by kernel_rfl) (by kernel_rfl) ?_
            refine still_y (wn rfl) rfl (y_move rfl) ?_
            refine still_y (wn rfl) rfl (y_fieldAddr_box (sz := 0) Try.runUnderlying23 rfl Try.sizeOf3 rfl) ?_
            refine still_y (wn rfl) rfl (y_load_box 1 Try.isAgg3 rfl rfl rfl) ?_
            refine still_y (wn rfl) rfl (y_mul rfl rfl) ?_
            refine still_y (wn rfl) rfl (y_fieldAddr_box (sz := 0) Try.runUnderlying23 rfl Try.sizeOf3 rfl) ?_
            refine still_y (wn rfl) rfl (y_load_box 1 Try.isAgg3 rfl rfl rfl) ?_
            refine still_y (wn rfl) rfl (y_fieldAddr_box (sz := 0) Try.runUnderlying23 rfl Try.sizeOf3 rfl) ?_
            refine still_y (wn rfl) rfl (y_load_box 1 Try.isAgg3 rfl rfl rfl) ?_
            refine still_y (wn rfl) rfl (y_mul rfl rfl) ?_
            refine still_y (wn rfl) rfl (y_fieldAddr_box (sz := 0) Try.runUnderlying23 rfl Try.sizeOf3 rfl) ?_
            refine still_y (wn rfl) rfl (y_load_box 1 Try.isAgg3 rfl rfl rfl) ?_
            refine still_y (wn rfl) rfl (y_move rfl) ?_
            refine still_y (wn rfl) rfl (y_move rfl) ?_
            refine still_y (wn rfl) rfl (y_move rfl) ?_
            obtain ⟨x75, hzx75, hlx75, hxx75, h⟩ := idx_some h
            refine still_y (wn rfl) rfl (y_indexAddrI (kd := .i64) (i := k_68) 2 Try.runUnderlying46 Try.sizeOf3 rfl rfl rfl reads_row hzx75 (map_lt hlx75)) ?_
            refine still_y (wn rfl) rfl (y_load_elem (i := k_68.toNat) 2 Try.isAgg3 rfl rfl reads_row (map_get hxx75)) ?_
            refine still_y (wn rfl) rfl (y_sub rfl rfl) ?_
            refine still_y (wn rfl) rfl (y_mul rfl rfl) ?_
            refine still_y (wn rfl) rfl (y_add rfl rfl) ?_
            refine still_y (wn rfl) rfl (y_gtr rfl rfl) ?_
            refine still_nil ?_
            refine goes_code ?_
            refine run_cond (decide ((IntKind.i64.wrap ((IntKind.i64.wrap (x_46 * x_48)) + (IntKind.i64.wrap (x_47 * (IntKind.i64.wrap ((IntKind.i64.wrap (t_23 + (IntKind.i64.wrap x37.After))) - x75)))))) < (IntKind.i64.wrap ((IntKind.i64.wrap (sum_67 + x74)) * x_48)))) rfl (fun hc76 => ?_) (fun hc76 => ?_)
            · replace h := cond_t h hc76
              refine run_seq ?_
              refine run_weak [] [] [] vnil (by decide) rfl ?_
              refine run_region' ?_
              refine ops_y (wn rfl) rfl (y_assign rfl) ?_
              refine ops_nil ?_
              refine goes_code ?_
              refine run_ret ?_
              obtain rfl := some_eq h
              obtain rfl := hstop71 _ rfl
              skip
              obtain rfl := after_stop ho64
              skip
              obtain rfl := hstop34 _ rfl
              skip
              obtain rfl := after_stop ho18
              refine fin_slots [4] [.bool false] [] [] Try.results4 rfl (by decide) rfl ?_
              exact ⟨rfl, rfl⟩
            · replace h := cond_f h hc76
              refine run_skip ?_
              refine goes_blk ?_
              refine goes_code ?_
              refine run_weak [(1, l_1v), (2, boxP b1 0), (5, v57), (6, v60), (7, .int .i64 (IntKind.i64.wrap (t_23 + (IntKind.i64.wrap x37.After)))), (8, boxP b16 0), (9, .int .i64 i_24), (13, .int .i64 (IntKind.i64.wrap (sum_67 + x74))), (14, .int .i64 k_68)] [0, 1, 2, 3, 4] [ro l_1v 3 (l_1.map S_law12_Try.enc), box b1 [.int .i64 x_46, .int .i64 x_47, .int .i64 x_48, .int .i64 x_49, .int .i64 x_50], row v57 1 ((times_21 ++ [(IntKind.i64.wrap (t_23 + (IntKind.i64.wrap x37.After)))]).map (eInt .i64)), row v60 1 ((taken_22 ++ [n_45]).map (eInt .i64)), box b16 [.int .i64 b_0.Cap, .int .i64 b_0.Num, .int .i64 b_0.Den, .int .i64 b_0.Level, .int .i64 b_0.At]] (vcons rfl (vcons rfl (vcons rfl (vcons rfl (vcons rfl (vcons rfl (vcons rfl (vcons rfl (vcons rfl (vnil)))))))))) (by decide) rfl ?_
              refine run_region' ?_
              refine ops_y (wn rfl) rfl (y_move rfl) ?_
              refine ops_y (wn rfl) rfl (y_sub rfl rfl) ?_
              refine ops_y (wn rfl) rfl (y_assign rfl) ?_
              refine ops_nil ?_
              obtain rfl := some_eq h
              exact goes_iter hgo70 ((IntKind.i64.wrap (sum_67 + x74)), (IntKind.i64.wrap (k_68 - 1))) () [0, 1, 2, 3, 4] rfl (vcons rfl (vcons rfl (vcons rfl (vcons rfl (vcons rfl (vcons rfl (vcons rfl (vcons rfl (vcons rfl (vnil)))))))))) (by decide) rfl
          · replace h := cond_f h hc73
            refine run_exit _ rfl ?_
            obtain rfl := some_eq h
            obtain rfl := hstop71 _ rfl
            exact goes_cut hL65 (sum_67, ()) [0, 1, 2, 3, 4] (vcons rfl (vcons rfl (vcons rfl (vcons rfl (vcons rfl (vcons rfl (vcons rfl (vcons rfl (vnil))))))))) (by decide) rfl rfl
        rintro ⟨sum_62, _⟩ hj
        obtain rfl : o63 = _ := hj
        replace h := after_go ho64
        clear ho64
        change Run _ _ _ (VF.of [(1, l_1v), (2, boxP b1 0), (5, v57), (6, v60), (7, .int .i64 (IntKind.i64.wrap (t_23 + (IntKind.i64.wrap x37.After)))), (8, boxP b16 0), (9, .int .i64 i_24), (13, .int .i64 sum_62)]) [ro l_1v 3 (l_1.map S_law12_Try.enc), box b1 [.int .i64 x_46, .int .i64 x_47, .int .i64 x_48, .int .i64 x_49, .int .i64 x_50], row v57 1 ((times_21 ++ [(IntKind.i64.wrap (t_23 + (IntKind.i64.wrap x37.After)))]).map (eInt .i64)), row v60 1 ((taken_22 ++ [n_45]).map (eInt .i64)), box b16 [.int .i64 b_0.Cap, .int .i64 b_0.Num, .int .i64 b_0.Den, .int .i64 b_0.Level, .int .i64 b_0.At]]
        refine run_seq ?_
        refine run_region' ?_
        refine ops_y (wn rfl) rfl (y_load_boxagg (c := [.int .i64 b_0.Cap, .int .i64 b_0.Num, .int .i64 b_0.Den, .int .i64 b_0.Level, .int .i64 b_0.At]) 4 Try.isAgg23 Try.sizeOf23 rfl rfl rfl) ?_
        refine ops_y (wn rfl) rfl (y_fieldAddr_box (sz := 0) Try.runUnderlying23 rfl Try.sizeOf3 rfl) ?_
        refine ops_y (wn rfl) rfl (y_load_box 4 Try.isAgg3 rfl rfl rfl) ?_
        refine ops_y (wn rfl) rfl (y_move rfl) ?_
        refine ops_y (wn rfl) rfl (y_add rfl rfl) ?_
        obtain ⟨r77, hr78, h⟩ := bind_some h
        refine ops_t (wn rfl) rfl (t_call (vs := [.agg #[.int .i64 b_0.Cap, .int .i64 b_0.Num, .int .i64 b_0.Den, .int .i64 b_0.Level, .int .i64 b_0.At], .int .i64 b_0.At, .int .i64 (IntKind.i64.wrap ((IntKind.i64.wrap (t_23 + (IntKind.i64.wrap x37.After))) + 1))]) (cs := []) [] rfl Try.call13 rfl (bucket_Most_ok b_0 b_0.At (IntKind.i64.wrap ((IntKind.i64.wrap (t_23 + (IntKind.i64.wrap x37.After))) + 1))  hr78) shows_nil (.inl rfl)) ?_
        rintro _ _ ⟨_, ⟨rfl, rfl⟩, rfl⟩
        refine ops_y (wn rfl) rfl (y_move rfl) ?_
        refine ops_y (wn rfl) rfl (y_extract rfl rfl) ?_
        refine ops_y (wn rfl) rfl (y_extract rfl rfl) ?_
        refine ops_y (wn rfl) rfl (y_assign rfl) ?_
        refine ops_y (wn rfl) rfl (y_assign rfl) ?_
        refine ops_nil ?_
        refine goes_code ?_
        refine run_seq ?_
        refine run_weak [(1, l_1v), (2, boxP b1 0), (5, v57), (6, v60), (7, .int .i64 (IntKind.i64.wrap (t_23 + (IntKind.i64.wrap x37.After)))), (8, boxP b16 0), (9, .int .i64 i_24), (13, .int .i64 sum_62), (15, .int .i64 r77.1), (16, .int .i64 r77.2)] [0, 1, 2, 3, 4] [ro l_1v 3 (l_1.map S_law12_Try.enc), box b1 [.int .i64 x_46, .int .i64 x_47, .int .i64 x_48, .int .i64 x_49, .int .i64 x_50], row v57 1 ((times_21 ++ [(IntKind.i64.wrap (t_23 + (IntKind.i64.wrap x37.After)))]).map (eInt .i64)), row v60 1 ((taken_22 ++ [n_45]).map (eInt .i64)), box b16 [.int .i64 b_0.Cap, .int .i64 b_0.Num, .int .i64 b_0.Den, .int .i64 b_0.Level, .int .i64 b_0.At]] (vcons rfl (vcons rfl (vcons rfl (vcons rfl (vcons rfl (vcons rfl (vcons rfl (vcons rfl (vcons rfl (vcons rfl (vnil))))))))))) (by decide) rfl ?_
        refine run_region' ?_
        refine ops_y (wn rfl) rfl (y_move rfl) ?_
        refine ops_y (wn rfl) rfl (y_neq rfl rfl) ?_
        refine ops_y (wn rfl) rfl (y_move rfl) ?_
        refine ops_cut 4 Bool (fun σ => [(1, l_1v), (2, boxP b1 0), (5, v57), (6, v60), (7, .int .i64 (IntKind.i64.wrap (t_23 + (IntKind.i64.wrap x37.After)))), (8, boxP b16 0), (9, .int .i64 i_24), (123, .bool σ)]) (fun σ => [ro l_1v 3 (l_1.map S_law12_Try.enc), box b1 [.int .i64 x_46, .int .i64 x_47, .int .i64 x_48, .int .i64 x_49, .int .i64 x_50], row v57 1 ((times_21 ++ [(IntKind.i64.wrap (t_23 + (IntKind.i64.wrap x37.After)))]).map (eInt .i64)), row v60 1 ((taken_22 ++ [n_45]).map (eInt .i64)), box b16 [.int .i64 b_0.Cap, .int .i64 b_0.Num, .int .i64 b_0.Den, .int .i64 b_0.Level, .int .i64 b_0.At]]) (fun σ => σ = (decide (r77.2 ≠ 0) || decide (r77.1 < sum_62))) (fun L79 hL80 => ?_) ?_
        · refine ops_split 119 (decide (r77.2 ≠ 0)) rfl (fun hg81 => ?_) (fun hg81 => ?_)
          · skip
            refine ops_no 2 false 119 rfl rfl rfl rfl rfl ?_
            refine ops_no 2 false 119 rfl rfl rfl rfl rfl ?_
            refine ops_no 2 false 119 rfl rfl rfl rfl rfl ?_
            refine ops_y (wn rfl) rfl (y_pick (b := true) rfl rfl) ?_
            refine ops_nil ?_
            exact goes_cut hL80 true [0, 1, 2, 3, 4] (vcons rfl (vcons rfl (vcons rfl (vcons rfl (vcons rfl (vcons rfl (vcons rfl (vcons rfl (vnil))))))))) (by decide) rfl (by rw [hg81]; simp)
          · skip
            refine ops_y (wg 2 false 119 rfl rfl rfl rfl) rfl (y_move rfl) ?_
            refine ops_y (wg 2 false 119 rfl rfl rfl rfl) rfl (y_move rfl) ?_
            refine ops_y (wg 2 false 119 rfl rfl rfl rfl) rfl (y_gtr rfl rfl) ?_
            refine ops_y (wn rfl) rfl (y_pick (b := false) rfl rfl) ?_
            refine ops_nil ?_
            exact goes_cut hL80 (decide (r77.1 < sum_62)) [0, 1, 2, 3, 4] (vcons rfl (vcons rfl (vcons rfl (vcons rfl (vcons rfl (vcons rfl (vcons rfl (vcons rfl (vnil))))))))) (by decide) rfl (by rw [hg81]; simp)
        rintro _ rfl
        refine ops_nil ?_
        refine goes_code ?_
        refine run_cond (decide (r77.2 ≠ 0) || decide (r77.1 < sum_62)) rfl (fun hc82 => ?_) (fun hc82 => ?_)
        · replace h := cond_t h hc82
          refine run_seq ?_
          refine run_region' ?_
          refine ops_y (wn rfl) rfl (y_assign rfl) ?_
          refine ops_nil ?_
          refine goes_code ?_
          refine run_ret ?_
          obtain rfl := some_eq h
          obtain rfl := hstop34 _ rfl
          skip
          obtain rfl := after_stop ho18
          refine fin_slots [4] [.bool false] [] [] Try.results4 rfl (by decide) rfl ?_
          exact ⟨rfl, rfl⟩
        · replace h := cond_f h hc82
          refine run_skip ?_
          refine goes_blk ?_
          refine goes_code ?_
          refine run_region' ?_
          refine ops_y (wn rfl) rfl (y_move rfl) ?_
          refine ops_y (wn rfl) rfl (y_add rfl rfl) ?_
          refine ops_y (wn rfl) rfl (y_assign rfl) ?_
          refine ops_nil ?_
          obtain rfl := some_eq h
          exact goes_iter hgo33 ((times_21 ++ [(IntKind.i64.wrap (t_23 + (IntKind.i64.wrap x37.After)))]), (taken_22 ++ [n_45]), (IntKind.i64.wrap (t_23 + (IntKind.i64.wrap x37.After))), (IntKind.i64.wrap (i_24 + 1)), x_46, x_47, x_48, x_49, x_50) (v57, v60) [0, 1, 2, 3, 4] rfl (vcons rfl (vcons rfl (vcons rfl (vcons rfl (vcons rfl (vcons rfl (vcons rfl (vnil)))))))) (by decide) rfl
      · replace h := cond_f h hc36
        refine run_exit _ rfl ?_
        obtain rfl := some_eq h
        obtain rfl := hstop34 _ rfl
        exact goes_cut hL19 ((), ()) [] vnil (by decide) rfl rfl
    rintro ⟨_, _⟩ hj
    obtain rfl : o17 = _ := hj
    replace h := after_go ho18
    clear ho18
    change Run _ _ _ (VF.of []) []
    refine run_seq ?_
    refine run_region' ?_
    obtain ⟨r83, hr84, h⟩ := bind_some h
    refine ops_t (wn rfl) rfl (t_call (vs := []) (cs := []) [] rfl Try.call19 rfl (law12_sanity_ok n   hr84) shows_nil (.inl rfl)) ?_
    rintro _ _ ⟨_, ⟨rfl, rfl⟩, rfl⟩
    refine ops_y (wn rfl) rfl (y_assign rfl) ?_
    refine ops_nil ?_
    refine goes_code ?_
    refine run_ret ?_
    obtain rfl := some_eq h
    refine fin_slots [4] [.bool r83] [] [] Try.results4 rfl (by decide) rfl ?_
    exact ⟨rfl, rfl⟩

end Go.Proofs.Ytpalglggjndmlaa
