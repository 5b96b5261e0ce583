/-
  The law BucketPartsKeepTheRate, lifted.
-/
import Derived.Test.YtpalglggjndmlaaFc
namespace Go.Proofs.Ytpalglggjndmlaa
open Go.Abs
set_option linter.unusedVariables false
set_option linter.unusedSimpArgs false
set_option maxRecDepth 20000


def law12_BucketPartsKeepTheRate_L1 (l_3 : (List S_law12_Try)) : (Int × Int × Int × Int × Int × Int × Int × (List S_api_Bucket)) → Option (Lp (Int × Int × Int × Int × Int × Int × Int × (List S_api_Bucket)) (Lp (Int × Int × Int × Int × Int × Int × (List S_api_Bucket)) (Bool))) :=
  fun (t_46, i_47, x_48, x_49, x_50, x_51, x_52, x_53) =>
    cond (decide (i_47 < (l_3.length : Int)))
      (bindJ (S := Int × Int × Int × Int × Int × Int × (List S_api_Bucket))
        (idx l_3 i_47 fun x70 =>
        need ((x_53.length : Int) ≠ 0) (
        idx x_53 ((IntKind.i64.wrap x70.Part).tmod (x_53.length : Int)) fun x72 =>
        (bucket_Take x72 (IntKind.i64.wrap (t_46 + (IntKind.i64.wrap x70.After))) (IntKind.i64.wrap x70.N)).bind fun r73 =>
        cond (decide (r73.2 ≠ 0))
          (some (.go ((IntKind.i64.wrap (t_46 + (IntKind.i64.wrap x70.After))), x_48, x_49, x_50, x_51, x_52, x_53)))
          ((bucket_Take (S_api_Bucket.mk x_48 x_49 x_50 x_51 x_52) (IntKind.i64.wrap (t_46 + (IntKind.i64.wrap x70.After))) (IntKind.i64.wrap x70.N)).bind fun r81 =>
          cond (decide (r81.2 ≠ 0))
            (some (.stop (.stop (.stop false))))
            (some (.go ((IntKind.i64.wrap (t_46 + (IntKind.i64.wrap x70.After))), r81.1.Cap, r81.1.Num, r81.1.Den, r81.1.Level, r81.1.At, (x_53.set ((((IntKind.i64.wrap x70.Part).tmod (x_53.length : Int))).toNat) r73.1)))))))
      (fun (t_59, x_60, x_61, x_62, x_63, x_64, x_65) =>
        some (.go (t_59, (IntKind.i64.wrap (i_47 + 1)), x_60, x_61, x_62, x_63, x_64, x_65))))
      (some (.stop (.go (t_46, x_48, x_49, x_50, x_51, x_52, x_53))))
def law12_BucketPartsKeepTheRate_L2 (t_35 : Int) : (Int × (List S_api_Bucket)) → Option (Lp (Int × (List S_api_Bucket)) (Lp ((List S_api_Bucket)) (Bool))) :=
  fun (k_94, x_95) =>
    cond (decide (k_94 < (x_95.length : Int)))
      (idx x_95 k_94 fun x101 =>
      (bucket_Refill x101 t_35).bind fun r102 =>
      cond (decide (r102.2 ≠ 0))
        (some (.stop (.stop false)))
        (some (.go ((IntKind.i64.wrap (k_94 + 1)), (x_95.set k_94.toNat r102.1)))))
      (some (.stop (.go x_95)))
def law12_BucketPartsKeepTheRate (n : Nat) (b_0 : S_api_Bucket) (caps_1 : (List Int)) (nums_2 : (List Int)) (l_3 : (List S_law12_Try)) : Option (Bool) :=
  bindJ (S := Bool)
    (cond (decide (64 < (caps_1.length : Int)) || decide (60 < (l_3.length : Int)))
      (some (.go true))
      ((bucket_Valid b_0).bind fun r11 =>
      some (.go (!r11))))
  (fun b5 =>
    cond (b5 || decide (1099511527776 < b_0.At))
      ((law12_sanity n).bind fun r17 =>
      some r17)
      ((bucket_Split n b_0 caps_1 nums_2).bind fun r19 =>
      cond (decide (r19.2 ≠ 0))
        ((law12_sanity n).bind fun r23 =>
        some r23)
        ((bucket_Merge n r19.1).bind fun r25 =>
        cond ((decide (r25.2 ≠ 0) || (!(decide (r25.1.Cap = b_0.Cap) && (decide (r25.1.Num = b_0.Num) && (decide (r25.1.Den = b_0.Den) && (decide (r25.1.Level = b_0.Level) && (decide (r25.1.At = b_0.At)))))))) || decide ((r19.1.length : Int) ≠ (caps_1.length : Int)))
          (some false)
          (bindJ (S := Int × Int × Int × Int × Int × Int × (List S_api_Bucket))
            (iter (law12_BucketPartsKeepTheRate_L1 l_3) n (b_0.At, 0, b_0.Cap, b_0.Num, b_0.Den, b_0.Level, b_0.At, r19.1))
          (fun (t_35, x_36, x_37, x_38, x_39, x_40, x_41) =>
            bindJ (S := (List S_api_Bucket))
              (iter (law12_BucketPartsKeepTheRate_L2 t_35) n (0, x_41))
            (fun x_89 =>
              (bucket_Refill (S_api_Bucket.mk x_36 x_37 x_38 x_39 x_40) t_35).bind fun r106 =>
              (bucket_Merge n x_89).bind fun r109 =>
              (law12_sanity n).bind fun r112 =>
              some (((r112 && decide (r106.2 = 0)) && decide (r109.2 = 0)) && decide (r109.1.Level ≤ r106.1.Level))))))))
theorem law12_BucketPartsKeepTheRate_ok (n : Nat) (b_0 : S_api_Bucket) (caps_1 : (List Int)) (nums_2 : (List Int)) (l_3 : (List S_law12_Try)) (caps_1v : Value) (nums_2v : Value) (l_3v : Value) {r : Bool} (h : law12_BucketPartsKeepTheRate n b_0 caps_1 nums_2 l_3 = some r) :
    Meets Try.prog 8 [.agg #[.int .i64 b_0.Cap, .int .i64 b_0.Num, .int .i64 b_0.Den, .int .i64 b_0.Level, .int .i64 b_0.At], caps_1v, nums_2v, l_3v] [ro caps_1v 1 (caps_1.map (eInt .i64)), ro nums_2v 1 (nums_2.map (eInt .i64)), ro l_3v 3 (l_3.map S_law12_Try.enc)] (fun v G => v = .bool r ∧ G = []) := by
  refine fn_of_run Try.func8 rfl Try.ntmps8 rfl (fun w0 o0 => ?_)
  refine run_seq ?_
  refine run_region' ?_
  refine ops_t (wn rfl) rfl (t_box rfl) ?_
  rintro _ _ ⟨b1, rfl, rfl⟩
  refine ops_y (wn rfl) rfl (y_assign rfl) ?_
  refine ops_nil ?_
  refine goes_code ?_
  refine run_seq ?_
  refine run_seq ?_
  refine run_region' ?_
  refine ops_y (wn rfl) rfl (y_move rfl) ?_
  refine ops_y (wn rfl) rfl ((y_len 0 rfl Try.runUnderlying46 rfl rfl reads_ro).to (v_len (eInt .i64) _)) ?_
  refine ops_y (wn rfl) rfl (y_gtr rfl rfl) ?_
  refine ops_y (wn rfl) rfl (y_move rfl) ?_
  refine ops_cut 4 Bool (fun σ => [(1, caps_1v), (2, nums_2v), (3, l_3v), (4, boxP b1 0), (34, .bool σ)]) (fun σ => [ro caps_1v 1 (caps_1.map (eInt .i64)), ro nums_2v 1 (nums_2.map (eInt .i64)), ro l_3v 3 (l_3.map S_law12_Try.enc), box b1 [.int .i64 b_0.Cap, .int .i64 b_0.Num, .int .i64 b_0.Den, .int .i64 b_0.Level, .int .i64 b_0.At]]) (fun σ => σ = (decide (64 < (caps_1.length : Int)) || decide (60 < (l_3.length : Int)))) (fun L2 hL3 => ?_) ?_
  · refine ops_split 30 (decide (64 < (caps_1.length : Int))) rfl (fun hg4 => ?_) (fun hg4 => ?_)
    · skip
      refine ops_no 3 false 30 rfl rfl rfl rfl rfl ?_
      refine ops_no 3 false 30 rfl rfl rfl rfl rfl ?_
      refine ops_no 3 false 30 rfl rfl rfl rfl rfl ?_
      refine ops_y (wn rfl) rfl (y_pick (b := true) rfl rfl) ?_
      refine ops_nil ?_
      exact goes_cut hL3 true [0, 1, 2, 3] (vcons rfl (vcons rfl (vcons rfl (vcons rfl (vcons rfl (vnil)))))) (by decide) rfl (by rw [hg4]; simp)
    · skip
      refine ops_y (wg 3 false 30 rfl rfl rfl rfl) rfl (y_move rfl) ?_
      refine ops_y (wg 3 false 30 rfl rfl rfl rfl) rfl ((y_len 2 rfl Try.runUnderlying45 rfl rfl reads_ro).to (v_len S_law12_Try.enc _)) ?_
      refine ops_y (wg 3 false 30 rfl rfl rfl rfl) rfl (y_gtr rfl rfl) ?_
      refine ops_y (wn rfl) rfl (y_pick (b := false) rfl rfl) ?_
      refine ops_nil ?_
      exact goes_cut hL3 (decide (60 < (l_3.length : Int))) [0, 1, 2, 3] (vcons rfl (vcons rfl (vcons rfl (vcons rfl (vcons rfl (vnil)))))) (by decide) rfl (by rw [hg4]; simp)
  rintro _ rfl
  refine ops_y (wn rfl) rfl (y_move rfl) ?_
  obtain ⟨o6, h, ho7⟩ := bindJ_some h
  refine ops_cut 4 Bool (fun σ => [(1, caps_1v), (2, nums_2v), (3, l_3v), (4, boxP b1 0), (39, .bool σ)]) (fun σ => [ro caps_1v 1 (caps_1.map (eInt .i64)), ro nums_2v 1 (nums_2.map (eInt .i64)), ro l_3v 3 (l_3.map S_law12_Try.enc), box b1 [.int .i64 b_0.Cap, .int .i64 b_0.Num, .int .i64 b_0.Den, .int .i64 b_0.Level, .int .i64 b_0.At]]) (fun σ => o6 = .go σ) (fun L8 hL9 => ?_) ?_
  · refine ops_split 35 (decide (64 < (caps_1.length : Int)) || decide (60 < (l_3.length : Int))) rfl (fun hg10 => ?_) (fun hg10 => ?_)
    · replace h := cond_t h hg10
      refine ops_no 8 false 35 rfl rfl rfl rfl rfl ?_
      refine ops_no 8 false 35 rfl rfl rfl rfl rfl ?_
      refine ops_no 8 false 35 rfl rfl rfl rfl rfl ?_
      refine ops_y (wn rfl) rfl (y_pick (b := true) rfl rfl) ?_
      refine ops_nil ?_
      obtain rfl := some_eq h
      exact goes_cut hL9 true [0, 1, 2, 3] (vcons rfl (vcons rfl (vcons rfl (vcons rfl (vcons rfl (vnil)))))) (by decide) rfl rfl
    · replace h := cond_f h hg10
      refine ops_y (wg 8 false 35 rfl rfl rfl rfl) rfl (y_load_boxagg (c := [.int .i64 b_0.Cap, .int .i64 b_0.Num, .int .i64 b_0.Den, .int .i64 b_0.Level, .int .i64 b_0.At]) 3 Try.isAgg23 Try.sizeOf23 rfl rfl rfl) ?_
      obtain ⟨r11, hr12, h⟩ := bind_some h
      refine ops_t (wg 8 false 35 rfl rfl rfl rfl) rfl (t_call (vs := [.agg #[.int .i64 b_0.Cap, .int .i64 b_0.Num, .int .i64 b_0.Den, .int .i64 b_0.Level, .int .i64 b_0.At]]) (cs := []) [] rfl Try.call20 rfl (bucket_Valid_ok b_0  hr12) shows_nil (.inl rfl)) ?_
      rintro _ _ ⟨_, ⟨rfl, rfl⟩, rfl⟩
      refine ops_y (wg 8 false 35 rfl rfl rfl rfl) rfl (y_not rfl) ?_
      refine ops_y (wn rfl) rfl (y_pick (b := false) rfl rfl) ?_
      refine ops_nil ?_
      obtain rfl := some_eq h
      exact goes_cut hL9 (!r11) [0, 1, 2, 3] (vcons rfl (vcons rfl (vcons rfl (vcons rfl (vcons rfl (vnil)))))) (by decide) rfl rfl
  rintro b5 hj
  obtain rfl : o6 = _ := hj
  replace h := after_go ho7
  clear ho7
  refine ops_y (wn rfl) rfl (y_move rfl) ?_
  refine ops_cut 4 Bool (fun σ => [(1, caps_1v), (2, nums_2v), (3, l_3v), (4, boxP b1 0), (44, .bool σ)]) (fun σ => [ro caps_1v 1 (caps_1.map (eInt .i64)), ro nums_2v 1 (nums_2.map (eInt .i64)), ro l_3v 3 (l_3.map S_law12_Try.enc), box b1 [.int .i64 b_0.Cap, .int .i64 b_0.Num, .int .i64 b_0.Den, .int .i64 b_0.Level, .int .i64 b_0.At]]) (fun σ => σ = (b5 || decide (1099511527776 < b_0.At))) (fun L13 hL14 => ?_) ?_
  · refine ops_split 40 b5 rfl (fun hg15 => ?_) (fun hg15 => ?_)
    · skip
      refine ops_no 13 false 40 rfl rfl rfl rfl rfl ?_
      refine ops_no 13 false 40 rfl rfl rfl rfl rfl ?_
      refine ops_no 13 false 40 rfl rfl rfl rfl rfl ?_
      refine ops_y (wn rfl) rfl (y_pick (b := true) rfl rfl) ?_
      refine ops_nil ?_
      exact goes_cut hL14 true [0, 1, 2, 3] (vcons rfl (vcons rfl (vcons rfl (vcons rfl (vcons rfl (vnil)))))) (by decide) rfl (by rw [hg15]; simp)
    · skip
      refine ops_y (wg 13 false 40 rfl rfl rfl rfl) rfl (y_fieldAddr_box (sz := 0) Try.runUnderlying23 rfl Try.sizeOf3 rfl) ?_
      refine ops_y (wg 13 false 40 rfl rfl rfl rfl) rfl (y_load_box 3 Try.isAgg3 rfl rfl rfl) ?_
      refine ops_y (wg 13 false 40 rfl rfl rfl rfl) rfl (y_gtr rfl rfl) ?_
      refine ops_y (wn rfl) rfl (y_pick (b := false) rfl rfl) ?_
      refine ops_nil ?_
      exact goes_cut hL14 (decide (1099511527776 < b_0.At)) [0, 1, 2, 3] (vcons rfl (vcons rfl (vcons rfl (vcons rfl (vcons rfl (vnil)))))) (by decide) rfl (by rw [hg15]; simp)
  rintro _ rfl
  refine ops_nil ?_
  refine goes_code ?_
  refine run_cond (b5 || decide (1099511527776 < b_0.At)) rfl (fun hc16 => ?_) (fun hc16 => ?_)
  · replace h := cond_t h hc16
    refine run_seq ?_
    refine run_region' ?_
    obtain ⟨r17, hr18, h⟩ := bind_some h
    refine ops_t (wn rfl) rfl (t_call (vs := []) (cs := []) [] rfl Try.call19 rfl (law12_sanity_ok n   hr18) shows_nil (.inl rfl)) ?_
    rintro _ _ ⟨_, ⟨rfl, rfl⟩, rfl⟩
    refine ops_y (wn rfl) rfl (y_assign rfl) ?_
    refine ops_nil ?_
    refine goes_code ?_
    refine run_ret ?_
    obtain rfl := some_eq h
    refine fin_slots [8] [.bool r17] [] [] Try.results8 rfl (by decide) rfl ?_
    exact ⟨rfl, rfl⟩
  · replace h := cond_f h hc16
    refine run_skip ?_
    refine goes_code ?_
    refine run_seq ?_
    refine run_region' ?_
    refine ops_y (wn rfl) rfl (y_load_boxagg (c := [.int .i64 b_0.Cap, .int .i64 b_0.Num, .int .i64 b_0.Den, .int .i64 b_0.Level, .int .i64 b_0.At]) 3 Try.isAgg23 Try.sizeOf23 rfl rfl rfl) ?_
    refine ops_y (wn rfl) rfl (y_move rfl) ?_
    refine ops_y (wn rfl) rfl (y_move rfl) ?_
    obtain ⟨r19, hr20, h⟩ := bind_some h
    refine ops_t (wn rfl) rfl (t_call (vs := [.agg #[.int .i64 b_0.Cap, .int .i64 b_0.Num, .int .i64 b_0.Den, .int .i64 b_0.Level, .int .i64 b_0.At], caps_1v, nums_2v]) (cs := []) [⟨0, false⟩, ⟨1, false⟩] rfl Try.call24 rfl (bucket_Split_ok n b_0 caps_1 nums_2 caps_1v nums_2v hr20) (shows_cons 0 false rfl views_ro (shows_cons 1 false rfl views_ro shows_nil)) (.inl rfl)) ?_
    rintro _ _ ⟨_, ⟨v21, rfl, rfl⟩, rfl⟩
    refine ops_y (wn rfl) rfl (y_move rfl) ?_
    refine ops_y (wn rfl) rfl (y_extract rfl rfl) ?_
    refine ops_y (wn rfl) rfl (y_extract rfl rfl) ?_
    refine ops_y (wn rfl) rfl (y_assign rfl) ?_
    refine ops_y (wn rfl) rfl (y_assign rfl) ?_
    refine ops_nil ?_
    refine goes_code ?_
    refine run_seq ?_
    refine run_seq ?_
    refine run_weak [(1, caps_1v), (3, l_3v), (4, boxP b1 0), (9, v21), (10, .int .i64 r19.2)] [0, 2, 3, 4] [ro caps_1v 1 (caps_1.map (eInt .i64)), ro l_3v 3 (l_3.map S_law12_Try.enc), box b1 [.int .i64 b_0.Cap, .int .i64 b_0.Num, .int .i64 b_0.Den, .int .i64 b_0.Level, .int .i64 b_0.At], row v21 5 (r19.1.map S_api_Bucket.enc)] (vcons rfl (vcons rfl (vcons rfl (vcons rfl (vcons rfl (vnil)))))) (by decide) rfl ?_
    refine run_region' ?_
    refine ops_y (wn rfl) rfl (y_move rfl) ?_
    refine ops_y (wn rfl) rfl (y_neq rfl rfl) ?_
    refine ops_nil ?_
    refine goes_code ?_
    refine run_cond (decide (r19.2 ≠ 0)) rfl (fun hc22 => ?_) (fun hc22 => ?_)
    · replace h := cond_t h hc22
      refine run_seq ?_
      refine run_region' ?_
      obtain ⟨r23, hr24, h⟩ := bind_some h
      refine ops_t (wn rfl) rfl (t_call (vs := []) (cs := []) [] rfl Try.call19 rfl (law12_sanity_ok n   hr24) shows_nil (.inl rfl)) ?_
      rintro _ _ ⟨_, ⟨rfl, rfl⟩, rfl⟩
      refine ops_y (wn rfl) rfl (y_assign rfl) ?_
      refine ops_nil ?_
      refine goes_code ?_
      refine run_ret ?_
      obtain rfl := some_eq h
      refine fin_slots [8] [.bool r23] [] [] Try.results8 rfl (by decide) rfl ?_
      exact ⟨rfl, rfl⟩
    · replace h := cond_f h hc22
      refine run_skip ?_
      refine goes_code ?_
      refine run_seq ?_
      refine run_region' ?_
      refine ops_y (wn rfl) rfl (y_move rfl) ?_
      obtain ⟨r25, hr26, h⟩ := bind_some h
      refine ops_t (wn rfl) rfl (t_call (vs := [v21]) (cs := []) [⟨3, true⟩] rfl Try.call25 rfl (bucket_Merge_ok n r19.1 v21 hr26) (shows_cons 3 true rfl views_row shows_nil) (.inr (by rintro _ _ ⟨rfl, rfl⟩ g hg; first | (cases hg; done) | (simp only [List.mem_cons, List.not_mem_nil, or_false] at hg; first | (subst hg; first | exact strict_row | exact strict_box) | (rcases hg with rfl | rfl <;> first | exact strict_row | exact strict_box) | (rcases hg with rfl | rfl | rfl <;> first | exact strict_row | exact strict_box))))) ?_
      rintro _ _ ⟨_, ⟨rfl, rfl⟩, rfl⟩
      refine ops_y (wn rfl) rfl (y_move rfl) ?_
      refine ops_y (wn rfl) rfl (y_extract rfl rfl) ?_
      refine ops_y (wn rfl) rfl (y_extract rfl rfl) ?_
      refine ops_t (wn rfl) rfl (t_alloc Try.zeroValue23) ?_
      rintro _ _ ⟨b27, rfl, rfl⟩
      refine ops_t (wn rfl) rfl (t_store 4 Try.sizeOf23 rfl rfl rfl rfl (by simp [Value.cells]) (by simp [Value.cells, Value.oneCell'])) ?_
      rintro _ _ ⟨rfl, rfl⟩
      refine ops_turn (retell 4 (g := box b27 [.int .i64 r25.1.Cap, .int .i64 r25.1.Num, .int .i64 r25.1.Den, .int .i64 r25.1.Level, .int .i64 r25.1.At]) rfl rfl) ?_
      refine ops_y (wn rfl) rfl (y_assign rfl) ?_
      refine ops_nil ?_
      refine goes_code ?_
      refine run_seq ?_
      refine run_seq ?_
      refine run_weak [(1, caps_1v), (3, l_3v), (4, boxP b1 0), (9, v21), (11, boxP b27 0), (12, .int .i64 r25.2)] [0, 1, 2, 3, 4] [ro caps_1v 1 (caps_1.map (eInt .i64)), ro l_3v 3 (l_3.map S_law12_Try.enc), box b1 [.int .i64 b_0.Cap, .int .i64 b_0.Num, .int .i64 b_0.Den, .int .i64 b_0.Level, .int .i64 b_0.At], row v21 5 (r19.1.map S_api_Bucket.enc), box b27 [.int .i64 r25.1.Cap, .int .i64 r25.1.Num, .int .i64 r25.1.Den, .int .i64 r25.1.Level, .int .i64 r25.1.At]] (vcons rfl (vcons rfl (vcons rfl (vcons rfl (vcons rfl (vcons rfl (vnil))))))) (by decide) rfl ?_
      refine run_region' ?_
      refine ops_y (wn rfl) rfl (y_move rfl) ?_
      refine ops_y (wn rfl) rfl (y_neq rfl rfl) ?_
      refine ops_y (wn rfl) rfl (y_move rfl) ?_
      refine ops_cut 4 Bool (fun σ => [(1, caps_1v), (3, l_3v), (4, boxP b1 0), (9, v21), (67, .bool σ)]) (fun σ => [ro caps_1v 1 (caps_1.map (eInt .i64)), ro l_3v 3 (l_3.map S_law12_Try.enc), box b1 [.int .i64 b_0.Cap, .int .i64 b_0.Num, .int .i64 b_0.Den, .int .i64 b_0.Level, .int .i64 b_0.At], row v21 5 (r19.1.map S_api_Bucket.enc), box b27 [.int .i64 r25.1.Cap, .int .i64 r25.1.Num, .int .i64 r25.1.Den, .int .i64 r25.1.Level, .int .i64 r25.1.At]]) (fun σ => σ = (decide (r25.2 ≠ 0) || (!(decide (r25.1.Cap = b_0.Cap) && (decide (r25.1.Num = b_0.Num) && (decide (r25.1.Den = b_0.Den) && (decide (r25.1.Level = b_0.Level) && (decide (r25.1.At = b_0.At))))))))) (fun L28 hL29 => ?_) ?_
      · refine ops_split 63 (decide (r25.2 ≠ 0)) rfl (fun hg30 => ?_) (fun hg30 => ?_)
        · skip
          refine ops_no 2 false 63 rfl rfl rfl rfl rfl ?_
          refine ops_no 2 false 63 rfl rfl rfl rfl rfl ?_
          refine ops_no 2 false 63 rfl rfl rfl rfl rfl ?_
          refine ops_y (wn rfl) rfl (y_pick (b := true) rfl rfl) ?_
          refine ops_nil ?_
          exact goes_cut hL29 true [0, 1, 2, 3, 4] (vcons rfl (vcons rfl (vcons rfl (vcons rfl (vcons rfl (vnil)))))) (by decide) rfl (by rw [hg30]; simp)
        · skip
          refine ops_y (wg 2 false 63 rfl rfl rfl rfl) rfl (y_load_boxagg (c := [.int .i64 r25.1.Cap, .int .i64 r25.1.Num, .int .i64 r25.1.Den, .int .i64 r25.1.Level, .int .i64 r25.1.At]) 4 Try.isAgg23 Try.sizeOf23 rfl rfl rfl) ?_
          refine ops_y (wg 2 false 63 rfl rfl rfl rfl) rfl (y_load_boxagg (c := [.int .i64 b_0.Cap, .int .i64 b_0.Num, .int .i64 b_0.Den, .int .i64 b_0.Level, .int .i64 b_0.At]) 2 Try.isAgg23 Try.sizeOf23 rfl rfl rfl) ?_
          refine ops_y (wg 2 false 63 rfl rfl rfl rfl) rfl (y_neS (by kernel_rfl) (by kernel_rfl) Try.runUnderlying23 rfl rfl (.cons (eqf_int (by decide) Try.runUnderlying3 Try.isAgg3 rfl rfl) (.cons (eqf_int (by decide) Try.runUnderlying3 Try.isAgg3 rfl rfl) (.cons (eqf_int (by decide) Try.runUnderlying3 Try.isAgg3 rfl rfl) (.cons (eqf_int (by decide) Try.runUnderlying3 Try.isAgg3 rfl rfl) (.cons (eqf_int (by decide) Try.runUnderlying3 Try.isAgg3 rfl rfl) EqFs.nil)))))) ?_
          refine ops_y (wn rfl) rfl (y_pick (b := false) rfl rfl) ?_
          refine ops_nil ?_
          exact goes_cut hL29 (!(decide (r25.1.Cap = b_0.Cap) && (decide (r25.1.Num = b_0.Num) && (decide (r25.1.Den = b_0.Den) && (decide (r25.1.Level = b_0.Level) && (decide (r25.1.At = b_0.At))))))) [0, 1, 2, 3, 4] (vcons rfl (vcons rfl (vcons rfl (vcons rfl (vcons rfl (vnil)))))) (by decide) rfl (by rw [hg30]; simp)
      rintro _ rfl
      refine ops_y (wn rfl) rfl (y_move rfl) ?_
      refine ops_cut 6 Bool (fun σ => [(3, l_3v), (4, boxP b1 0), (9, v21), (74, .bool σ)]) (fun σ => [ro caps_1v 1 (caps_1.map (eInt .i64)), ro l_3v 3 (l_3.map S_law12_Try.enc), box b1 [.int .i64 b_0.Cap, .int .i64 b_0.Num, .int .i64 b_0.Den, .int .i64 b_0.Level, .int .i64 b_0.At], row v21 5 (r19.1.map S_api_Bucket.enc), box b27 [.int .i64 r25.1.Cap, .int .i64 r25.1.Num, .int .i64 r25.1.Den, .int .i64 r25.1.Level, .int .i64 r25.1.At]]) (fun σ => σ = ((decide (r25.2 ≠ 0) || (!(decide (r25.1.Cap = b_0.Cap) && (decide (r25.1.Num = b_0.Num) && (decide (r25.1.Den = b_0.Den) && (decide (r25.1.Level = b_0.Level) && (decide (r25.1.At = b_0.At)))))))) || decide ((r19.1.length : Int) ≠ (caps_1.length : Int)))) (fun L31 hL32 => ?_) ?_
      · refine ops_split 68 (decide (r25.2 ≠ 0) || (!(decide (r25.1.Cap = b_0.Cap) && (decide (r25.1.Num = b_0.Num) && (decide (r25.1.Den = b_0.Den) && (decide (r25.1.Level = b_0.Level) && (decide (r25.1.At = b_0.At)))))))) rfl (fun hg33 => ?_) (fun hg33 => ?_)
        · skip
          refine ops_no 7 false 68 rfl rfl rfl rfl rfl ?_
          refine ops_no 7 false 68 rfl rfl rfl rfl rfl ?_
          refine ops_no 7 false 68 rfl rfl rfl rfl rfl ?_
          refine ops_no 7 false 68 rfl rfl rfl rfl rfl ?_
          refine ops_no 7 false 68 rfl rfl rfl rfl rfl ?_
          refine ops_y (wn rfl) rfl (y_pick (b := true) rfl rfl) ?_
          refine ops_nil ?_
          exact goes_cut hL32 true [0, 1, 2, 3, 4] (vcons rfl (vcons rfl (vcons rfl (vcons rfl (vnil))))) (by decide) rfl (by rw [hg33]; simp)
        · skip
          refine ops_y (wg 7 false 68 rfl rfl rfl rfl) rfl (y_move rfl) ?_
          refine ops_y (wg 7 false 68 rfl rfl rfl rfl) rfl ((y_len 3 rfl Try.runUnderlying51 rfl rfl reads_row).to (v_len S_api_Bucket.enc _)) ?_
          refine ops_y (wg 7 false 68 rfl rfl rfl rfl) rfl (y_move rfl) ?_
          refine ops_y (wg 7 false 68 rfl rfl rfl rfl) rfl ((y_len 0 rfl Try.runUnderlying46 rfl rfl reads_ro).to (v_len (eInt .i64) _)) ?_
          refine ops_y (wg 7 false 68 rfl rfl rfl rfl) rfl (y_neq rfl rfl) ?_
          refine ops_y (wn rfl) rfl (y_pick (b := false) rfl rfl) ?_
          refine ops_nil ?_
          exact goes_cut hL32 (decide ((r19.1.length : Int) ≠ (caps_1.length : Int))) [0, 1, 2, 3, 4] (vcons rfl (vcons rfl (vcons rfl (vcons rfl (vnil))))) (by decide) rfl (by rw [hg33]; simp)
      rintro _ rfl
      refine ops_nil ?_
      refine goes_code ?_
      refine run_cond ((decide (r25.2 ≠ 0) || (!(decide (r25.1.Cap = b_0.Cap) && (decide (r25.1.Num = b_0.Num) && (decide (r25.1.Den = b_0.Den) && (decide (r25.1.Level = b_0.Level) && (decide (r25.1.At = b_0.At)))))))) || decide ((r19.1.length : Int) ≠ (caps_1.length : Int))) rfl (fun hc34 => ?_) (fun hc34 => ?_)
      · replace h := cond_t h hc34
        refine run_seq ?_
        refine run_region' ?_
        refine ops_y (wn rfl) rfl (y_assign rfl) ?_
        refine ops_nil ?_
        refine goes_code ?_
        refine run_ret ?_
        obtain rfl := some_eq h
        refine fin_slots [8] [.bool false] [] [] Try.results8 rfl (by decide) rfl ?_
        exact ⟨rfl, rfl⟩
      · replace h := cond_f h hc34
        refine run_skip ?_
        refine goes_code ?_
        refine run_seq ?_
        refine run_region' ?_
        refine ops_y (wn rfl) rfl (y_fieldAddr_box (sz := 0) Try.runUnderlying23 rfl Try.sizeOf3 rfl) ?_
        refine ops_y (wn rfl) rfl (y_load_box 2 Try.isAgg3 rfl rfl rfl) ?_
        refine ops_y (wn rfl) rfl (y_assign rfl) ?_
        refine ops_nil ?_
        refine goes_code ?_
        obtain ⟨o42, h, ho43⟩ := bindJ_some h
        refine run_cut ((Int × Int × Int × Int × Int × Int × (List S_api_Bucket)) × (Unit)) (fun σ => [(4, boxP b1 0), (9, v21), (13, .int .i64 σ.1.1)]) (fun σ => [box b1 [.int .i64 σ.1.2.1, .int .i64 σ.1.2.2.1, .int .i64 σ.1.2.2.2.1, .int .i64 σ.1.2.2.2.2.1, .int .i64 σ.1.2.2.2.2.2.1], row v21 5 (σ.1.2.2.2.2.2.2.map S_api_Bucket.enc)]) (fun σ => o42 = .go σ.1) (fun L45 hL44 => ?_) ?_
        · -- the ways through
          refine run_seq ?_
          refine run_region' ?_
          refine ops_y (wn rfl) rfl (y_assign rfl) ?_
          refine ops_nil ?_
          refine goes_code ?_
          refine run_block ?_
          refine run_iter (step := law12_BucketPartsKeepTheRate_L1 l_3) (n := n) (s0 := (b_0.At, 0, b_0.Cap, b_0.Num, b_0.Den, b_0.Level, b_0.At, r19.1)) h (G := Unit) () (fun σ γ => [(3, l_3v), (4, boxP b1 0), (9, v21), (13, .int .i64 σ.1), (14, .int .i64 σ.2.1)]) (fun σ γ => [ro l_3v 3 (l_3.map S_law12_Try.enc), box b1 [.int .i64 σ.2.2.1, .int .i64 σ.2.2.2.1, .int .i64 σ.2.2.2.2.1, .int .i64 σ.2.2.2.2.2.1, .int .i64 σ.2.2.2.2.2.2.1], row v21 5 (σ.2.2.2.2.2.2.2.map S_api_Bucket.enc)]) [1, 2, 3] (vcons rfl (vcons rfl (vcons rfl (vcons rfl (vcons rfl (vnil)))))) (by decide) rfl ?_
          rintro ⟨t_46, i_47, x_48, x_49, x_50, x_51, x_52, x_53⟩ _ o54 h L57 hgo55 hstop56
          change Run _ _ _ (VF.of [(3, l_3v), (4, boxP b1 0), (9, v21), (13, .int .i64 t_46), (14, .int .i64 i_47)]) [ro l_3v 3 (l_3.map S_law12_Try.enc), box b1 [.int .i64 x_48, .int .i64 x_49, .int .i64 x_50, .int .i64 x_51, .int .i64 x_52], row v21 5 (x_53.map S_api_Bucket.enc)]
          refine run_seq ?_
          refine run_seq ?_
          refine run_region' ?_
          refine ops_y (wn rfl) rfl (y_move rfl) ?_
          refine ops_y (wn rfl) rfl (y_move rfl) ?_
          refine ops_y (wn rfl) rfl ((y_len 0 rfl Try.runUnderlying45 rfl rfl reads_ro).to (v_len S_law12_Try.enc _)) ?_
          refine ops_y (wn rfl) rfl (y_lss rfl rfl) ?_
          refine ops_nil ?_
          refine goes_code ?_
          refine run_cond (decide (i_47 < (l_3.length : Int))) rfl (fun hc58 => ?_) (fun hc58 => ?_)
          · replace h := cond_t h hc58
            refine run_skip ?_
            refine goes_code ?_
            obtain ⟨o66, h, ho67⟩ := bindJ_some h
            refine run_cut ((Int × Int × Int × Int × Int × Int × (List S_api_Bucket)) × (Unit)) (fun σ => [(3, l_3v), (4, boxP b1 0), (9, v21), (13, .int .i64 σ.1.1), (14, .int .i64 i_47)]) (fun σ => [ro l_3v 3 (l_3.map S_law12_Try.enc), box b1 [.int .i64 σ.1.2.1, .int .i64 σ.1.2.2.1, .int .i64 σ.1.2.2.2.1, .int .i64 σ.1.2.2.2.2.1, .int .i64 σ.1.2.2.2.2.2.1], row v21 5 (σ.1.2.2.2.2.2.2.map S_api_Bucket.enc)]) (fun σ => o66 = .go σ.1) (fun L69 hL68 => ?_) ?_
            · -- the ways through
              refine run_block ?_
              refine run_seq ?_
              refine run_region' ?_
              refine ops_y (wn rfl) rfl (y_move rfl) ?_
              refine ops_y (wn rfl) rfl (y_move rfl) ?_
              refine ops_y (wn rfl) rfl (y_move rfl) ?_
              obtain ⟨x70, hzx70, hlx70, hxx70, h⟩ := idx_some h
              refine ops_y (wn rfl) rfl (y_indexAddrI (kd := .i64) (i := i_47) 0 Try.runUnderlying45 Try.sizeOf48 rfl rfl rfl reads_ro hzx70 (map_lt hlx70)) ?_
              refine ops_y (wn rfl) rfl (y_fieldAddr_elem (sz := 0) Try.runUnderlying48 rfl Try.sizeOf5 rfl) ?_
              refine ops_y (wn rfl) rfl (y_load_field (i := i_47.toNat) (j := 0) 0 Try.isAgg5 rfl rfl reads_ro (map_get hxx70) rfl) ?_
              refine ops_y (wn rfl) rfl (y_conv Try.runUnderlying5 Try.runUnderlying3 rfl) ?_
              refine ops_y (wn rfl) rfl (y_add rfl rfl) ?_
              refine ops_y (wn rfl) rfl (y_assign rfl) ?_
              refine ops_nil ?_
              refine goes_code ?_
              refine run_seq ?_
              refine run_weak [(3, l_3v), (4, boxP b1 0), (9, v21), (13, .int .i64 (IntKind.i64.wrap (t_46 + (IntKind.i64.wrap x70.After)))), (14, .int .i64 i_47)] [0, 1, 2] [ro l_3v 3 (l_3.map S_law12_Try.enc), box b1 [.int .i64 x_48, .int .i64 x_49, .int .i64 x_50, .int .i64 x_51, .int .i64 x_52], row v21 5 (x_53.map S_api_Bucket.enc)] (vcons rfl (vcons rfl (vcons rfl (vcons rfl (vcons rfl (vnil)))))) (by decide) rfl ?_
              refine run_region' ?_
              refine ops_y (wn rfl) rfl (y_move rfl) ?_
              refine ops_y (wn rfl) rfl (y_move rfl) ?_
              refine ops_y (wn rfl) rfl (y_indexAddrI (kd := .i64) (i := i_47) 0 Try.runUnderlying45 Try.sizeOf48 rfl rfl rfl reads_ro hzx70 (map_lt hlx70)) ?_
              refine ops_y (wn rfl) rfl (y_fieldAddr_elem (sz := 0) Try.runUnderlying48 rfl Try.sizeOf5 rfl) ?_
              refine ops_y (wn rfl) rfl (y_load_field (i := i_47.toNat) (j := 2) 0 Try.isAgg5 rfl rfl reads_ro (map_get hxx70) rfl) ?_
              refine ops_y (wn rfl) rfl (y_conv Try.runUnderlying5 Try.runUnderlying3 rfl) ?_
              refine ops_y (wn rfl) rfl (y_move rfl) ?_
              refine ops_y (wn rfl) rfl ((y_len 2 rfl Try.runUnderlying51 rfl rfl reads_row).to (v_len S_api_Bucket.enc _)) ?_
              obtain ⟨hd71, h⟩ := need_some h
              refine ops_y (wn rfl) rfl (y_rem rfl rfl hd71) ?_
              refine ops_y (wn rfl) rfl (y_assign rfl) ?_
              refine ops_nil ?_
              refine goes_code ?_
              refine run_seq ?_
              refine run_weak [(3, l_3v), (4, boxP b1 0), (9, v21), (13, .int .i64 (IntKind.i64.wrap (t_46 + (IntKind.i64.wrap x70.After)))), (14, .int .i64 i_47), (15, .int .i64 ((IntKind.i64.wrap x70.Part).tmod (x_53.length : Int)))] [0, 1, 2] [ro l_3v 3 (l_3.map S_law12_Try.enc), box b1 [.int .i64 x_48, .int .i64 x_49, .int .i64 x_50, .int .i64 x_51, .int .i64 x_52], row v21 5 (x_53.map S_api_Bucket.enc)] (vcons rfl (vcons rfl (vcons rfl (vcons rfl (vcons rfl (vcons rfl (vnil))))))) (by decide) rfl ?_
              obtain ⟨x72, hzx72, hlx72, hxx72, h⟩ := idx_some h
              obtain ⟨r73, hr74, h⟩ := bind_some h
              refine run_mid (Nat) (fun σ => [(3, l_3v), (4, boxP b1 0), (9, v21), (13, .int .i64 (IntKind.i64.wrap (t_46 + (IntKind.i64.wrap x70.After)))), (14, .int .i64 i_47), (15, .int .i64 ((IntKind.i64.wrap x70.Part).tmod (x_53.length : Int))), (16, boxP σ 0), (17, .int .i64 r73.2)]) (fun σ => [ro l_3v 3 (l_3.map S_law12_Try.enc), box b1 [.int .i64 x_48, .int .i64 x_49, .int .i64 x_50, .int .i64 x_51, .int .i64 x_52], row v21 5 (x_53.map S_api_Bucket.enc), box σ [.int .i64 r73.1.Cap, .int .i64 r73.1.Num, .int .i64 r73.1.Den, .int .i64 r73.1.Level, .int .i64 r73.1.At]]) (fun L76 hL77 => ?_) ?_
              · -- every order
                refine run_drawany [ro l_3v 3 (l_3.map S_law12_Try.enc), box b1 [.int .i64 x_48, .int .i64 x_49, .int .i64 x_50, .int .i64 x_51, .int .i64 x_52], row v21 5 (x_53.map S_api_Bucket.enc)] (by kernel_rfl) ?_
                refine any_y 0 rfl (by kernel_rfl) (by kernel_rfl) (by kernel_rfl) (sub_same (sub_same (sub_same (sub_nil)))) (wn rfl) rfl (y_move rfl) ?_
                refine any_y 1 rfl (by kernel_rfl) (by kernel_rfl) (by kernel_rfl) (sub_same (sub_same (sub_same (sub_nil)))) (wn rfl) rfl (y_move rfl) ?_
                refine any_y 2 rfl (by kernel_rfl) (by kernel_rfl) (by kernel_rfl) (sub_same (sub_same (sub_same (sub_nil)))) (wn rfl) rfl (y_indexAddrI (kd := .i64) (i := ((IntKind.i64.wrap x70.Part).tmod (x_53.length : Int))) 2 Try.runUnderlying51 Try.sizeOf23 rfl rfl rfl reads_row hzx72 (map_lt hlx72)) ?_
                refine any_y 3 rfl (by kernel_rfl) (by kernel_rfl) (by kernel_rfl) (sub_same (sub_same (sub_same (sub_nil)))) (wn rfl) rfl (y_load_agg (i := (((IntKind.i64.wrap x70.Part).tmod (x_53.length : Int))).toNat) (c := [.int .i64 x72.Cap, .int .i64 x72.Num, .int .i64 x72.Den, .int .i64 x72.Level, .int .i64 x72.At]) 2 Try.isAgg23 Try.sizeOf23 rfl rfl reads_row (map_get hxx72)) ?_
                refine any_y 4 rfl (by kernel_rfl) (by kernel_rfl) (by kernel_rfl) (sub_same (sub_same (sub_same (sub_nil)))) (wn rfl) rfl (y_move rfl) ?_
                refine any_y 5 rfl (by kernel_rfl) (by kernel_rfl) (by kernel_rfl) (sub_same (sub_same (sub_same (sub_nil)))) (wn rfl) rfl (y_move rfl) ?_
                refine any_y 6 rfl (by kernel_rfl) (by kernel_rfl) (by kernel_rfl) (sub_same (sub_same (sub_same (sub_nil)))) (wn rfl) rfl (y_move rfl) ?_
                refine any_y 7 rfl (by kernel_rfl) (by kernel_rfl) (by kernel_rfl) (sub_same (sub_same (sub_same (sub_nil)))) (wn rfl) rfl (y_indexAddrI (kd := .i64) (i := i_47) 0 Try.runUnderlying45 Try.sizeOf48 rfl rfl rfl reads_ro hzx70 (map_lt hlx70)) ?_
                refine any_y 8 rfl (by kernel_rfl) (by kernel_rfl) (by kernel_rfl) (sub_same (sub_same (sub_same (sub_nil)))) (wn rfl) rfl (y_fieldAddr_elem (sz := 0) Try.runUnderlying48 rfl Try.sizeOf5 rfl) ?_
                refine any_y 9 rfl (by kernel_rfl) (by kernel_rfl) (by kernel_rfl) (sub_same (sub_same (sub_same (sub_nil)))) (wn rfl) rfl (y_load_field (i := i_47.toNat) (j := 1) 0 Try.isAgg5 rfl rfl reads_ro (map_get hxx70) rfl) ?_
                refine any_y 10 rfl (by kernel_rfl) (by kernel_rfl) (by kernel_rfl) (sub_same (sub_same (sub_same (sub_nil)))) (wn rfl) rfl (y_conv Try.runUnderlying5 Try.runUnderlying3 rfl) ?_
                refine any_all [11, 15] (by kernel_rfl) rfl ?_
                refine anyo_cons ?_ ?_
                · -- 11
                  refine any_t rfl (wn rfl) rfl (t_call (vs := [.agg #[.int .i64 x72.Cap, .int .i64 x72.Num, .int .i64 x72.Den, .int .i64 x72.Level, .int .i64 x72.At], .int .i64 (IntKind.i64.wrap (t_46 + (IntKind.i64.wrap x70.After))), .int .i64 (IntKind.i64.wrap x70.N)]) (cs := []) [] rfl Try.call11 rfl (bucket_Take_ok x72 (IntKind.i64.wrap (t_46 + (IntKind.i64.wrap x70.After))) (IntKind.i64.wrap x70.N)  hr74) shows_nil (.inl rfl)) ?_
                  rintro _ _ ⟨_, ⟨rfl, rfl⟩, rfl⟩
                  refine ⟨(sub_same (sub_same (sub_same (sub_nil)))), ?_⟩
                  refine any_y 12 rfl (by kernel_rfl) (by kernel_rfl) (by kernel_rfl) (sub_same (sub_same (sub_same (sub_nil)))) (wn rfl) rfl (y_move rfl) ?_
                  refine any_y 13 rfl (by kernel_rfl) (by kernel_rfl) (by kernel_rfl) (sub_same (sub_same (sub_same (sub_nil)))) (wn rfl) rfl (y_extract rfl rfl) ?_
                  refine any_y 14 rfl (by kernel_rfl) (by kernel_rfl) (by kernel_rfl) (sub_same (sub_same (sub_same (sub_nil)))) (wn rfl) rfl (y_extract rfl rfl) ?_
                  refine any_all [15] (by kernel_rfl) rfl ?_
                  refine anyo_cons ?_ ?_
                  · -- 15
                    refine any_t rfl (wn rfl) rfl (t_alloc Try.zeroValue23) ?_
                    rintro _ _ ⟨b78, rfl, rfl⟩
                    refine ⟨(sub_same (sub_same (sub_same (sub_nil)))), ?_⟩
                    refine any_all [16] (by kernel_rfl) rfl ?_
                    refine anyo_cons ?_ ?_
                    · -- 16
                      refine any_t rfl (wn rfl) rfl (t_store 3 Try.sizeOf23 rfl rfl rfl rfl (by simp [Value.cells]) (by simp [Value.cells, Value.oneCell'])) ?_
                      rintro _ _ ⟨rfl, rfl⟩
                      refine ⟨(sub_same (sub_same (sub_same (sub_nil)))), ?_⟩
                      refine any_turn (retell 3 (g := box b78 [.int .i64 r73.1.Cap, .int .i64 r73.1.Num, .int .i64 r73.1.Den, .int .i64 r73.1.Level, .int .i64 r73.1.At]) rfl rfl) ?_
                      refine any_y 17 rfl (by kernel_rfl) (by kernel_rfl) (by kernel_rfl) (sub_same (sub_same (sub_same (sub_nil)))) (wn rfl) rfl (y_assign rfl) ?_
                      refine any_nil (by kernel_rfl) ?_
                      exact goes_cut hL77 b78 [0, 1, 2, 3] (vcons rfl (vcons rfl (vcons rfl (vcons rfl (vcons rfl (vcons rfl (vcons rfl (vcons rfl (vnil))))))))) (by decide) rfl trivial
                    exact anyo_nil
                  exact anyo_nil
                refine anyo_cons ?_ ?_
                · -- 15
                  refine any_t rfl (wn rfl) rfl (t_alloc Try.zeroValue23) ?_
                  rintro _ _ ⟨b79, rfl, rfl⟩
                  refine ⟨(sub_same (sub_same (sub_same (sub_nil)))), ?_⟩
                  refine any_all [11] (by kernel_rfl) rfl ?_
                  refine anyo_cons ?_ ?_
                  · -- 11
                    refine any_t rfl (wn rfl) rfl (t_call (vs := [.agg #[.int .i64 x72.Cap, .int .i64 x72.Num, .int .i64 x72.Den, .int .i64 x72.Level, .int .i64 x72.At], .int .i64 (IntKind.i64.wrap (t_46 + (IntKind.i64.wrap x70.After))), .int .i64 (IntKind.i64.wrap x70.N)]) (cs := []) [] rfl Try.call11 rfl (bucket_Take_ok x72 (IntKind.i64.wrap (t_46 + (IntKind.i64.wrap x70.After))) (IntKind.i64.wrap x70.N)  hr74) shows_nil (.inl rfl)) ?_
                    rintro _ _ ⟨_, ⟨rfl, rfl⟩, rfl⟩
                    refine ⟨(sub_same (sub_same (sub_same (sub_nil)))), ?_⟩
                    refine any_y 12 rfl (by kernel_rfl) (by kernel_rfl) (by kernel_rfl) (sub_same (sub_same (sub_same (sub_nil)))) (wn rfl) rfl (y_move rfl) ?_
                    refine any_y 13 rfl (by kernel_rfl) (by kernel_rfl) (by kernel_rfl) (sub_same (sub_same (sub_same (sub_nil)))) (wn rfl) rfl (y_extract rfl rfl) ?_
                    refine any_y 14 rfl (by kernel_rfl) (by kernel_rfl) (by kernel_rfl) (sub_same (sub_same (sub_same (sub_nil)))) (wn rfl) rfl (y_extract rfl rfl) ?_
                    refine any_all [16] (by kernel_rfl) rfl ?_
                    refine anyo_cons ?_ ?_
                    · -- 16
                      refine any_t rfl (wn rfl) rfl (t_store 3 Try.sizeOf23 rfl rfl rfl rfl (by simp [Value.cells]) (by simp [Value.cells, Value.oneCell'])) ?_
                      rintro _ _ ⟨rfl, rfl⟩
                      refine ⟨(sub_same (sub_same (sub_same (sub_nil)))), ?_⟩
                      refine any_turn (retell 3 (g := box b79 [.int .i64 r73.1.Cap, .int .i64 r73.1.Num, .int .i64 r73.1.Den, .int .i64 r73.1.Level, .int .i64 r73.1.At]) rfl rfl) ?_
                      refine any_y 17 rfl (by kernel_rfl) (by kernel_rfl) (by kernel_rfl) (sub_same (sub_same (sub_same (sub_nil)))) (wn rfl) rfl (y_assign rfl) ?_
                      refine any_nil (by kernel_rfl) ?_
                      exact goes_cut hL77 b79 [0, 1, 2, 3] (vcons rfl (vcons rfl (vcons rfl (vcons rfl (vcons rfl (vcons rfl (vcons rfl (vcons rfl (vnil))))))))) (by decide) rfl trivial
                    exact anyo_nil
                  exact anyo_nil
                exact anyo_nil
              rintro b75
              change Goes _ _ (VF.of [(3, l_3v), (4, boxP b1 0), (9, v21), (13, .int .i64 (IntKind.i64.wrap (t_46 + (IntKind.i64.wrap x70.After)))), (14, .int .i64 i_47), (15, .int .i64 ((IntKind.i64.wrap x70.Part).tmod (x_53.length : Int))), (16, boxP b75 0), (17, .int .i64 r73.2)]) [ro l_3v 3 (l_3.map S_law12_Try.enc), box b1 [.int .i64 x_48, .int .i64 x_49, .int .i64 x_50, .int .i64 x_51, .int .i64 x_52], row v21 5 (x_53.map S_api_Bucket.enc), box b75 [.int .i64 r73.1.Cap, .int .i64 r73.1.Num, .int .i64 r73.1.Den, .int .i64 r73.1.Level, .int .i64 r73.1.At]]
              refine goes_code ?_
              refine run_seq ?_
              refine run_seq ?_
              refine run_region' ?_
              refine ops_y (wn rfl) rfl (y_move rfl) ?_
              refine ops_y (wn rfl) rfl (y_neq rfl rfl) ?_
              refine ops_nil ?_
              refine goes_code ?_
              refine run_cond (decide (r73.2 ≠ 0)) rfl (fun hc80 => ?_) (fun hc80 => ?_)
              · replace h := cond_t h hc80
                refine run_exit _ rfl ?_
                obtain rfl := some_eq h
                exact goes_cut hL68 (((IntKind.i64.wrap (t_46 + (IntKind.i64.wrap x70.After))), x_48, x_49, x_50, x_51, x_52, x_53), ()) [0, 1, 2] (vcons rfl (vcons rfl (vcons rfl (vcons rfl (vcons rfl (vnil)))))) (by decide) rfl rfl
              · replace h := cond_f h hc80
                refine run_skip ?_
                refine goes_code ?_
                refine run_seq ?_
                obtain ⟨r81, hr82, h⟩ := bind_some h
                refine run_mid (Nat) (fun σ => [(3, l_3v), (4, boxP b1 0), (9, v21), (13, .int .i64 (IntKind.i64.wrap (t_46 + (IntKind.i64.wrap x70.After)))), (14, .int .i64 i_47), (15, .int .i64 ((IntKind.i64.wrap x70.Part).tmod (x_53.length : Int))), (16, boxP b75 0), (18, boxP σ 0), (19, .int .i64 r81.2)]) (fun σ => [ro l_3v 3 (l_3.map S_law12_Try.enc), box b1 [.int .i64 x_48, .int .i64 x_49, .int .i64 x_50, .int .i64 x_51, .int .i64 x_52], row v21 5 (x_53.map S_api_Bucket.enc), box b75 [.int .i64 r73.1.Cap, .int .i64 r73.1.Num, .int .i64 r73.1.Den, .int .i64 r73.1.Level, .int .i64 r73.1.At], box σ [.int .i64 r81.1.Cap, .int .i64 r81.1.Num, .int .i64 r81.1.Den, .int .i64 r81.1.Level, .int .i64 r81.1.At]]) (fun L84 hL85 => ?_) ?_
                · -- every order
                  refine run_drawany [ro l_3v 3 (l_3.map S_law12_Try.enc), box b1 [.int .i64 x_48, .int .i64 x_49, .int .i64 x_50, .int .i64 x_51, .int .i64 x_52], row v21 5 (x_53.map S_api_Bucket.enc), box b75 [.int .i64 r73.1.Cap, .int .i64 r73.1.Num, .int .i64 r73.1.Den, .int .i64 r73.1.Level, .int .i64 r73.1.At]] (by kernel_rfl) ?_
                  refine any_y 0 rfl (by kernel_rfl) (by kernel_rfl) (by kernel_rfl) (sub_same (sub_same (sub_same (sub_same (sub_nil))))) (wn rfl) rfl (y_load_boxagg (c := [.int .i64 x_48, .int .i64 x_49, .int .i64 x_50, .int .i64 x_51, .int .i64 x_52]) 1 Try.isAgg23 Try.sizeOf23 rfl rfl rfl) ?_
                  refine any_y 1 rfl (by kernel_rfl) (by kernel_rfl) (by kernel_rfl) (sub_same (sub_same (sub_same (sub_same (sub_nil))))) (wn rfl) rfl (y_move rfl) ?_
                  refine any_y 2 rfl (by kernel_rfl) (by kernel_rfl) (by kernel_rfl) (sub_same (sub_same (sub_same (sub_same (sub_nil))))) (wn rfl) rfl (y_move rfl) ?_
                  refine any_y 3 rfl (by kernel_rfl) (by kernel_rfl) (by kernel_rfl) (sub_same (sub_same (sub_same (sub_same (sub_nil))))) (wn rfl) rfl (y_move rfl) ?_
                  refine any_y 4 rfl (by kernel_rfl) (by kernel_rfl) (by kernel_rfl) (sub_same (sub_same (sub_same (sub_same (sub_nil))))) (wn rfl) rfl (y_indexAddrI (kd := .i64) (i := i_47) 0 Try.runUnderlying45 Try.sizeOf48 rfl rfl rfl reads_ro hzx70 (map_lt hlx70)) ?_
                  refine any_y 5 rfl (by kernel_rfl) (by kernel_rfl) (by kernel_rfl) (sub_same (sub_same (sub_same (sub_same (sub_nil))))) (wn rfl) rfl (y_fieldAddr_elem (sz := 0) Try.runUnderlying48 rfl Try.sizeOf5 rfl) ?_
                  refine any_y 6 rfl (by kernel_rfl) (by kernel_rfl) (by kernel_rfl) (sub_same (sub_same (sub_same (sub_same (sub_nil))))) (wn rfl) rfl (y_load_field (i := i_47.toNat) (j := 1) 0 Try.isAgg5 rfl rfl reads_ro (map_get hxx70) rfl) ?_
                  refine any_y 7 rfl (by kernel_rfl) (by kernel_rfl) (by kernel_rfl) (sub_same (sub_same (sub_same (sub_same (sub_nil))))) (wn rfl) rfl (y_conv Try.runUnderlying5 Try.runUnderlying3 rfl) ?_
                  refine any_all [8, 12] (by kernel_rfl) rfl ?_
                  refine anyo_cons ?_ ?_
                  · -- 8
                    refine any_t rfl (wn rfl) rfl (t_call (vs := [.agg #[.int .i64 x_48, .int .i64 x_49, .int .i64 x_50, .int .i64 x_51, .int .i64 x_52], .int .i64 (IntKind.i64.wrap (t_46 + (IntKind.i64.wrap x70.After))), .int .i64 (IntKind.i64.wrap x70.N)]) (cs := []) [] rfl Try.call11 rfl (bucket_Take_ok (S_api_Bucket.mk x_48 x_49 x_50 x_51 x_52) (IntKind.i64.wrap (t_46 + (IntKind.i64.wrap x70.After))) (IntKind.i64.wrap x70.N)  hr82) shows_nil (.inl rfl)) ?_
                    rintro _ _ ⟨_, ⟨rfl, rfl⟩, rfl⟩
                    refine ⟨(sub_same (sub_same (sub_same (sub_same (sub_nil))))), ?_⟩
                    refine any_y 9 rfl (by kernel_rfl) (by kernel_rfl) (by kernel_rfl) (sub_same (sub_same (sub_same (sub_same (sub_nil))))) (wn rfl) rfl (y_move rfl) ?_
                    refine any_y 10 rfl (by kernel_rfl) (by kernel_rfl) (by kernel_rfl) (sub_same (sub_same (sub_same (sub_same (sub_nil))))) (wn rfl) rfl (y_extract rfl rfl) ?_
                    refine any_y 11 rfl (by kernel_rfl) (by kernel_rfl) (by kernel_rfl) (sub_same (sub_same (sub_same (sub_same (sub_nil))))) (wn rfl) rfl (y_extract rfl rfl) ?_
                    refine any_all [12] (by kernel_rfl) rfl ?_
                    refine anyo_cons ?_ ?_
                    · -- 12
                      refine any_t rfl (wn rfl) rfl (t_alloc Try.zeroValue23) ?_
                      rintro _ _ ⟨b86, rfl, rfl⟩
                      refine ⟨(sub_same (sub_same (sub_same (sub_same (sub_nil))))), ?_⟩
                      refine any_all [13] (by kernel_rfl) rfl ?_
                      refine anyo_cons ?_ ?_
                      · -- 13
                        refine any_t rfl (wn rfl) rfl (t_store 4 Try.sizeOf23 rfl rfl rfl rfl (by simp [Value.cells]) (by simp [Value.cells, Value.oneCell'])) ?_
                        rintro _ _ ⟨rfl, rfl⟩
                        refine ⟨(sub_same (sub_same (sub_same (sub_same (sub_nil))))), ?_⟩
                        refine any_turn (retell 4 (g := box b86 [.int .i64 r81.1.Cap, .int .i64 r81.1.Num, .int .i64 r81.1.Den, .int .i64 r81.1.Level, .int .i64 r81.1.At]) rfl rfl) ?_
                        refine any_y 14 rfl (by kernel_rfl) (by kernel_rfl) (by kernel_rfl) (sub_same (sub_same (sub_same (sub_same (sub_nil))))) (wn rfl) rfl (y_assign rfl) ?_
                        refine any_nil (by kernel_rfl) ?_
                        exact goes_cut hL85 b86 [0, 1, 2, 3, 4] (vcons rfl (vcons rfl (vcons rfl (vcons rfl (vcons rfl (vcons rfl (vcons rfl (vcons rfl (vcons rfl (vnil)))))))))) (by decide) rfl trivial
                      exact anyo_nil
                    exact anyo_nil
                  refine anyo_cons ?_ ?_
                  · -- 12
                    refine any_t rfl (wn rfl) rfl (t_alloc Try.zeroValue23) ?_
                    rintro _ _ ⟨b87, rfl, rfl⟩
                    refine ⟨(sub_same (sub_same (sub_same (sub_same (sub_nil))))), ?_⟩
                    refine any_all [8] (by kernel_rfl) rfl ?_
                    refine anyo_cons ?_ ?_
                    · -- 8
                      refine any_t rfl (wn rfl) rfl (t_call (vs := [.agg #[.int .i64 x_48, .int .i64 x_49, .int .i64 x_50, .int .i64 x_51, .int .i64 x_52], .int .i64 (IntKind.i64.wrap (t_46 + (IntKind.i64.wrap x70.After))), .int .i64 (IntKind.i64.wrap x70.N)]) (cs := []) [] rfl Try.call11 rfl (bucket_Take_ok (S_api_Bucket.mk x_48 x_49 x_50 x_51 x_52) (IntKind.i64.wrap (t_46 + (IntKind.i64.wrap x70.After))) (IntKind.i64.wrap x70.N)  hr82) shows_nil (.inl rfl)) ?_
                      rintro _ _ ⟨_, ⟨rfl, rfl⟩, rfl⟩
                      refine ⟨(sub_same (sub_same (sub_same (sub_same (sub_nil))))), ?_⟩
                      refine any_y 9 rfl (by kernel_rfl) (by kernel_rfl) (by kernel_rfl) (sub_same (sub_same (sub_same (sub_same (sub_nil))))) (wn rfl) rfl (y_move rfl) ?_
                      refine any_y 10 rfl (by kernel_rfl) (by kernel_rfl) (by kernel_rfl) (sub_same (sub_same (sub_same (sub_same (sub_nil))))) (wn rfl) rfl (y_extract rfl rfl) ?_
                      refine any_y 11 rfl (by kernel_rfl) (by kernel_rfl) (by kernel_rfl) (sub_same (sub_same (sub_same (sub_same (sub_nil))))) (wn rfl) rfl (y_extract rfl rfl) ?_
                      refine any_all [13] (by kernel_rfl) rfl ?_
                      refine anyo_cons ?_ ?_
                      · -- 13
                        refine any_t rfl (wn rfl) rfl (t_store 4 Try.sizeOf23 rfl rfl rfl rfl (by simp [Value.cells]) (by simp [Value.cells, Value.oneCell'])) ?_
                        rintro _ _ ⟨rfl, rfl⟩
                        refine ⟨(sub_same (sub_same (sub_same (sub_same (sub_nil))))), ?_⟩
                        refine any_turn (retell 4 (g := box b87 [.int .i64 r81.1.Cap, .int .i64 r81.1.Num, .int .i64 r81.1.Den, .int .i64 r81.1.Level, .int .i64 r81.1.At]) rfl rfl) ?_
                        refine any_y 14 rfl (by kernel_rfl) (by kernel_rfl) (by kernel_rfl) (sub_same (sub_same (sub_same (sub_same (sub_nil))))) (wn rfl) rfl (y_assign rfl) ?_
                        refine any_nil (by kernel_rfl) ?_
                        exact goes_cut hL85 b87 [0, 1, 2, 3, 4] (vcons rfl (vcons rfl (vcons rfl (vcons rfl (vcons rfl (vcons rfl (vcons rfl (vcons rfl (vcons rfl (vnil)))))))))) (by decide) rfl trivial
                      exact anyo_nil
                    exact anyo_nil
                  exact anyo_nil
                rintro b83
                change Goes _ _ (VF.of [(3, l_3v), (4, boxP b1 0), (9, v21), (13, .int .i64 (IntKind.i64.wrap (t_46 + (IntKind.i64.wrap x70.After)))), (14, .int .i64 i_47), (15, .int .i64 ((IntKind.i64.wrap x70.Part).tmod (x_53.length : Int))), (16, boxP b75 0), (18, boxP b83 0), (19, .int .i64 r81.2)]) [ro l_3v 3 (l_3.map S_law12_Try.enc), box b1 [.int .i64 x_48, .int .i64 x_49, .int .i64 x_50, .int .i64 x_51, .int .i64 x_52], row v21 5 (x_53.map S_api_Bucket.enc), box b75 [.int .i64 r73.1.Cap, .int .i64 r73.1.Num, .int .i64 r73.1.Den, .int .i64 r73.1.Level, .int .i64 r73.1.At], box b83 [.int .i64 r81.1.Cap, .int .i64 r81.1.Num, .int .i64 r81.1.Den, .int .i64 r81.1.Level, .int .i64 r81.1.At]]
                refine goes_code ?_
                refine run_seq ?_
                refine run_seq ?_
                refine run_region' ?_
                refine ops_y (wn rfl) rfl (y_move rfl) ?_
                refine ops_y (wn rfl) rfl (y_neq rfl rfl) ?_
                refine ops_nil ?_
                refine goes_code ?_
                refine run_cond (decide (r81.2 ≠ 0)) rfl (fun hc88 => ?_) (fun hc88 => ?_)
                · replace h := cond_t h hc88
                  refine run_seq ?_
                  refine run_region' ?_
                  refine ops_y (wn rfl) rfl (y_assign rfl) ?_
                  refine ops_nil ?_
                  refine goes_code ?_
                  refine run_ret ?_
                  obtain rfl := some_eq h
                  obtain rfl := after_stop ho67
                  skip
                  obtain rfl := hstop56 _ rfl
                  skip
                  obtain rfl := after_stop ho43
                  refine fin_slots [8] [.bool false] [] [] Try.results8 rfl (by decide) rfl ?_
                  exact ⟨rfl, rfl⟩
                · replace h := cond_f h hc88
                  refine run_skip ?_
                  refine goes_code ?_
                  refine run_seq ?_
                  refine run_region' ?_
                  refine ops_y (wn rfl) rfl (y_move rfl) ?_
                  refine ops_y (wn rfl) rfl (y_move rfl) ?_
                  refine ops_y (wn rfl) rfl (y_load_boxagg (c := [.int .i64 r73.1.Cap, .int .i64 r73.1.Num, .int .i64 r73.1.Den, .int .i64 r73.1.Level, .int .i64 r73.1.At]) 3 Try.isAgg23 Try.sizeOf23 rfl rfl rfl) ?_
                  refine ops_y (wn rfl) rfl (y_indexAddrI (kd := .i64) (i := ((IntKind.i64.wrap x70.Part).tmod (x_53.length : Int))) 2 Try.runUnderlying51 Try.sizeOf23 rfl rfl rfl reads_row hzx72 (map_lt hlx72)) ?_
                  refine ops_t (wn rfl) rfl (t_store_row (i := (((IntKind.i64.wrap x70.Part).tmod (x_53.length : Int))).toNat) (j := 0) (c := S_api_Bucket.enc x72) 2 Try.sizeOf23 rfl rfl rfl rfl (map_get hxx72) (by decide) (by simp [Value.cells, Value.oneCell'])) ?_
                  rintro _ _ ⟨rfl, rfl⟩
                  refine ops_turn (retell 2 (g := row v21 5 ((x_53.set ((((IntKind.i64.wrap x70.Part).tmod (x_53.length : Int))).toNat) r73.1).map S_api_Bucket.enc)) rfl (congrArg (row _ _) (map_set_at rfl))) ?_
                  refine ops_nil ?_
                  refine goes_code ?_
                  refine run_weak [(3, l_3v), (4, boxP b1 0), (9, v21), (13, .int .i64 (IntKind.i64.wrap (t_46 + (IntKind.i64.wrap x70.After)))), (14, .int .i64 i_47), (18, boxP b83 0)] [0, 1, 2, 4] [ro l_3v 3 (l_3.map S_law12_Try.enc), box b1 [.int .i64 x_48, .int .i64 x_49, .int .i64 x_50, .int .i64 x_51, .int .i64 x_52], row v21 5 ((x_53.set ((((IntKind.i64.wrap x70.Part).tmod (x_53.length : Int))).toNat) r73.1).map S_api_Bucket.enc), box b83 [.int .i64 r81.1.Cap, .int .i64 r81.1.Num, .int .i64 r81.1.Den, .int .i64 r81.1.Level, .int .i64 r81.1.At]] (vcons rfl (vcons rfl (vcons rfl (vcons rfl (vcons rfl (vcons rfl (vnil))))))) (by decide) rfl ?_
                  refine run_region' ?_
                  refine ops_y (wn rfl) rfl (y_load_boxagg (c := [.int .i64 r81.1.Cap, .int .i64 r81.1.Num, .int .i64 r81.1.Den, .int .i64 r81.1.Level, .int .i64 r81.1.At]) 3 Try.isAgg23 Try.sizeOf23 rfl rfl rfl) ?_
                  refine ops_t (wn rfl) rfl (t_store 1 Try.sizeOf23 rfl rfl rfl rfl (by simp [Value.cells]) (by simp [Value.cells, Value.oneCell'])) ?_
                  rintro _ _ ⟨rfl, rfl⟩
                  refine ops_turn (retell 1 (g := box b1 [.int .i64 r81.1.Cap, .int .i64 r81.1.Num, .int .i64 r81.1.Den, .int .i64 r81.1.Level, .int .i64 r81.1.At]) rfl rfl) ?_
                  refine ops_nil ?_
                  refine goes_blk ?_
                  obtain rfl := some_eq h
                  exact goes_cut hL68 (((IntKind.i64.wrap (t_46 + (IntKind.i64.wrap x70.After))), r81.1.Cap, r81.1.Num, r81.1.Den, r81.1.Level, r81.1.At, (x_53.set ((((IntKind.i64.wrap x70.Part).tmod (x_53.length : Int))).toNat) r73.1)), ()) [0, 1, 2] (vcons rfl (vcons rfl (vcons rfl (vcons rfl (vcons rfl (vnil)))))) (by decide) rfl rfl
            rintro ⟨⟨t_59, x_60, x_61, x_62, x_63, x_64, x_65⟩, _⟩ hj
            obtain rfl : o66 = _ := hj
            replace h := after_go ho67
            clear ho67
            change Run _ _ _ (VF.of [(3, l_3v), (4, boxP b1 0), (9, v21), (13, .int .i64 t_59), (14, .int .i64 i_47)]) [ro l_3v 3 (l_3.map S_law12_Try.enc), box b1 [.int .i64 x_60, .int .i64 x_61, .int .i64 x_62, .int .i64 x_63, .int .i64 x_64], row v21 5 (x_65.map S_api_Bucket.enc)]
            refine run_region' ?_
            refine ops_y (wn rfl) rfl (y_move rfl) ?_
            refine ops_y (wn rfl) rfl (y_add rfl rfl) ?_
            refine ops_y (wn rfl) rfl (y_assign rfl) ?_
            refine ops_nil ?_
            obtain rfl := some_eq h
            exact goes_iter hgo55 (t_59, (IntKind.i64.wrap (i_47 + 1)), x_60, x_61, x_62, x_63, x_64, x_65) () [0, 1, 2] rfl (vcons rfl (vcons rfl (vcons rfl (vcons rfl (vcons rfl (vnil)))))) (by decide) rfl
          · replace h := cond_f h hc58
            refine run_exit _ rfl ?_
            obtain rfl := some_eq h
            obtain rfl := hstop56 _ rfl
            exact goes_cut hL44 ((t_46, x_48, x_49, x_50, x_51, x_52, x_53), ()) [1, 2] (vcons rfl (vcons rfl (vcons rfl (vnil)))) (by decide) rfl rfl
        rintro ⟨⟨t_35, x_36, x_37, x_38, x_39, x_40, x_41⟩, _⟩ hj
        obtain rfl : o42 = _ := hj
        replace h := after_go ho43
        clear ho43
        change Run _ _ _ (VF.of [(4, boxP b1 0), (9, v21), (13, .int .i64 t_35)]) [box b1 [.int .i64 x_36, .int .i64 x_37, .int .i64 x_38, .int .i64 x_39, .int .i64 x_40], row v21 5 (x_41.map S_api_Bucket.enc)]
        obtain ⟨o90, h, ho91⟩ := bindJ_some h
        refine run_cut (((List S_api_Bucket)) × (Unit)) (fun σ => [(4, boxP b1 0), (9, v21), (13, .int .i64 t_35)]) (fun σ => [box b1 [.int .i64 x_36, .int .i64 x_37, .int .i64 x_38, .int .i64 x_39, .int .i64 x_40], row v21 5 (σ.1.map S_api_Bucket.enc)]) (fun σ => o90 = .go σ.1) (fun L93 hL92 => ?_) ?_
        · -- the ways through
          refine run_seq ?_
          refine run_region' ?_
          refine ops_y (wn rfl) rfl (y_assign rfl) ?_
          refine ops_nil ?_
          refine goes_code ?_
          refine run_block ?_
          refine run_iter (step := law12_BucketPartsKeepTheRate_L2 t_35) (n := n) (s0 := (0, x_41)) h (G := Unit) () (fun σ γ => [(4, boxP b1 0), (9, v21), (13, .int .i64 t_35), (20, .int .i64 σ.1)]) (fun σ γ => [box b1 [.int .i64 x_36, .int .i64 x_37, .int .i64 x_38, .int .i64 x_39, .int .i64 x_40], row v21 5 (σ.2.map S_api_Bucket.enc)]) [0, 1] (vcons rfl (vcons rfl (vcons rfl (vcons rfl (vnil))))) (by decide) rfl ?_
          rintro ⟨k_94, x_95⟩ _ o96 h L99 hgo97 hstop98
          change Run _ _ _ (VF.of [(4, boxP b1 0), (9, v21), (13, .int .i64 t_35), (20, .int .i64 k_94)]) [box b1 [.int .i64 x_36, .int .i64 x_37, .int .i64 x_38, .int .i64 x_39, .int .i64 x_40], row v21 5 (x_95.map S_api_Bucket.enc)]
          refine run_seq ?_
          refine run_seq ?_
          refine run_region' ?_
          refine ops_y (wn rfl) rfl (y_move rfl) ?_
          refine ops_y (wn rfl) rfl (y_move rfl) ?_
          refine ops_y (wn rfl) rfl ((y_len 1 rfl Try.runUnderlying51 rfl rfl reads_row).to (v_len S_api_Bucket.enc _)) ?_
          refine ops_y (wn rfl) rfl (y_lss rfl rfl) ?_
          refine ops_nil ?_
          refine goes_code ?_
          refine run_cond (decide (k_94 < (x_95.length : Int))) rfl (fun hc100 => ?_) (fun hc100 => ?_)
          · replace h := cond_t h hc100
            refine run_skip ?_
            refine goes_code ?_
            refine run_seq ?_
            refine run_block ?_
            refine run_seq ?_
            refine run_region' ?_
            refine ops_y (wn rfl) rfl (y_move rfl) ?_
            refine ops_y (wn rfl) rfl (y_move rfl) ?_
            obtain ⟨x101, hzx101, hlx101, hxx101, h⟩ := idx_some h
            refine ops_y (wn rfl) rfl (y_indexAddrI (kd := .i64) (i := k_94) 1 Try.runUnderlying51 Try.sizeOf23 rfl rfl rfl reads_row hzx101 (map_lt hlx101)) ?_
            refine ops_y (wn rfl) rfl (y_load_agg (i := k_94.toNat) (c := [.int .i64 x101.Cap, .int .i64 x101.Num, .int .i64 x101.Den, .int .i64 x101.Level, .int .i64 x101.At]) 1 Try.isAgg23 Try.sizeOf23 rfl rfl reads_row (map_get hxx101)) ?_
            refine ops_y (wn rfl) rfl (y_move rfl) ?_
            obtain ⟨r102, hr103, h⟩ := bind_some h
            refine ops_t (wn rfl) rfl (t_call (vs := [.agg #[.int .i64 x101.Cap, .int .i64 x101.Num, .int .i64 x101.Den, .int .i64 x101.Level, .int .i64 x101.At], .int .i64 t_35]) (cs := []) [] rfl Try.call10 rfl (bucket_Refill_ok x101 t_35  hr103) shows_nil (.inl rfl)) ?_
            rintro _ _ ⟨_, ⟨rfl, rfl⟩, rfl⟩
            refine ops_y (wn rfl) rfl (y_move rfl) ?_
            refine ops_y (wn rfl) rfl (y_extract rfl rfl) ?_
            refine ops_y (wn rfl) rfl (y_extract rfl rfl) ?_
            refine ops_t (wn rfl) rfl (t_alloc Try.zeroValue23) ?_
            rintro _ _ ⟨b104, rfl, rfl⟩
            refine ops_t (wn rfl) rfl (t_store 2 Try.sizeOf23 rfl rfl rfl rfl (by simp [Value.cells]) (by simp [Value.cells, Value.oneCell'])) ?_
            rintro _ _ ⟨rfl, rfl⟩
            refine ops_turn (retell 2 (g := box b104 [.int .i64 r102.1.Cap, .int .i64 r102.1.Num, .int .i64 r102.1.Den, .int .i64 r102.1.Level, .int .i64 r102.1.At]) rfl rfl) ?_
            refine ops_y (wn rfl) rfl (y_assign rfl) ?_
            refine ops_nil ?_
            refine goes_code ?_
            refine run_seq ?_
            refine run_seq ?_
            refine run_weak [(4, boxP b1 0), (9, v21), (13, .int .i64 t_35), (20, .int .i64 k_94), (21, boxP b104 0), (22, .int .i64 r102.2)] [0, 1, 2] [box b1 [.int .i64 x_36, .int .i64 x_37, .int .i64 x_38, .int .i64 x_39, .int .i64 x_40], row v21 5 (x_95.map S_api_Bucket.enc), box b104 [.int .i64 r102.1.Cap, .int .i64 r102.1.Num, .int .i64 r102.1.Den, .int .i64 r102.1.Level, .int .i64 r102.1.At]] (vcons rfl (vcons rfl (vcons rfl (vcons rfl (vcons rfl (vcons rfl (vnil))))))) (by decide) rfl ?_
            refine run_region' ?_
            refine ops_y (wn rfl) rfl (y_move rfl) ?_
            refine ops_y (wn rfl) rfl (y_neq rfl rfl) ?_
            refine ops_nil ?_
            refine goes_code ?_
            refine run_cond (decide (r102.2 ≠ 0)) rfl (fun hc105 => ?_) (fun hc105 => ?_)
            · replace h := cond_t h hc105
              refine run_seq ?_
              refine run_region' ?_
              refine ops_y (wn rfl) rfl (y_assign rfl) ?_
              refine ops_nil ?_
              refine goes_code ?_
              refine run_ret ?_
              obtain rfl := some_eq h
              obtain rfl := hstop98 _ rfl
              skip
              obtain rfl := after_stop ho91
              refine fin_slots [8] [.bool false] [] [] Try.results8 rfl (by decide) rfl ?_
              exact ⟨rfl, rfl⟩
            · replace h := cond_f h hc105
              refine run_skip ?_
              refine goes_code ?_
              refine run_region' ?_
              refine ops_y (wn rfl) rfl (y_move rfl) ?_
              refine ops_y (wn rfl) rfl (y_move rfl) ?_
              refine ops_y (wn rfl) rfl (y_load_boxagg (c := [.int .i64 r102.1.Cap, .int .i64 r102.1.Num, .int .i64 r102.1.Den, .int .i64 r102.1.Level, .int .i64 r102.1.At]) 2 Try.isAgg23 Try.sizeOf23 rfl rfl rfl) ?_
              refine ops_y (wn rfl) rfl (y_indexAddrI (kd := .i64) (i := k_94) 1 Try.runUnderlying51 Try.sizeOf23 rfl rfl rfl reads_row hzx101 (map_lt hlx101)) ?_
              refine ops_t (wn rfl) rfl (t_store_row (i := k_94.toNat) (j := 0) (c := S_api_Bucket.enc x101) 1 Try.sizeOf23 rfl rfl rfl rfl (map_get hxx101) (by decide) (by simp [Value.cells, Value.oneCell'])) ?_
              rintro _ _ ⟨rfl, rfl⟩
              refine ops_turn (retell 1 (g := row v21 5 ((x_95.set k_94.toNat r102.1).map S_api_Bucket.enc)) rfl (congrArg (row _ _) (map_set_at rfl))) ?_
              refine ops_nil ?_
              refine goes_blk ?_
              refine goes_code ?_
              refine run_region' ?_
              refine ops_y (wn rfl) rfl (y_move rfl) ?_
              refine ops_y (wn rfl) rfl (y_add rfl rfl) ?_
              refine ops_y (wn rfl) rfl (y_assign rfl) ?_
              refine ops_nil ?_
              obtain rfl := some_eq h
              exact goes_iter hgo97 ((IntKind.i64.wrap (k_94 + 1)), (x_95.set k_94.toNat r102.1)) () [0, 1] rfl (vcons rfl (vcons rfl (vcons rfl (vcons rfl (vnil))))) (by decide) rfl
          · replace h := cond_f h hc100
            refine run_exit _ rfl ?_
            obtain rfl := some_eq h
            obtain rfl := hstop98 _ rfl
            exact goes_cut hL92 (x_95, ()) [0, 1] (vcons rfl (vcons rfl (vcons rfl (vnil)))) (by decide) rfl rfl
        rintro ⟨x_89, _⟩ hj
        obtain rfl : o90 = _ := hj
        replace h := after_go ho91
        clear ho91
        change Run _ _ _ (VF.of [(4, boxP b1 0), (9, v21), (13, .int .i64 t_35)]) [box b1 [.int .i64 x_36, .int .i64 x_37, .int .i64 x_38, .int .i64 x_39, .int .i64 x_40], row v21 5 (x_89.map S_api_Bucket.enc)]
        refine run_seq ?_
        refine run_region' ?_
        refine ops_y (wn rfl) rfl (y_load_boxagg (c := [.int .i64 x_36, .int .i64 x_37, .int .i64 x_38, .int .i64 x_39, .int .i64 x_40]) 0 Try.isAgg23 Try.sizeOf23 rfl rfl rfl) ?_
        refine ops_y (wn rfl) rfl (y_move rfl) ?_
        obtain ⟨r106, hr107, h⟩ := bind_some h
        refine ops_t (wn rfl) rfl (t_call (vs := [.agg #[.int .i64 x_36, .int .i64 x_37, .int .i64 x_38, .int .i64 x_39, .int .i64 x_40], .int .i64 t_35]) (cs := []) [] rfl Try.call10 rfl (bucket_Refill_ok (S_api_Bucket.mk x_36 x_37 x_38 x_39 x_40) t_35  hr107) shows_nil (.inl rfl)) ?_
        rintro _ _ ⟨_, ⟨rfl, rfl⟩, rfl⟩
        refine ops_y (wn rfl) rfl (y_move rfl) ?_
        refine ops_y (wn rfl) rfl (y_extract rfl rfl) ?_
        refine ops_y (wn rfl) rfl (y_extract rfl rfl) ?_
        refine ops_t (wn rfl) rfl (t_alloc Try.zeroValue23) ?_
        rintro _ _ ⟨b108, rfl, rfl⟩
        refine ops_t (wn rfl) rfl (t_store 2 Try.sizeOf23 rfl rfl rfl rfl (by simp [Value.cells]) (by simp [Value.cells, Value.oneCell'])) ?_
        rintro _ _ ⟨rfl, rfl⟩
        refine ops_turn (retell 2 (g := box b108 [.int .i64 r106.1.Cap, .int .i64 r106.1.Num, .int .i64 r106.1.Den, .int .i64 r106.1.Level, .int .i64 r106.1.At]) rfl rfl) ?_
        refine ops_y (wn rfl) rfl (y_assign rfl) ?_
        refine ops_nil ?_
        refine goes_code ?_
        refine run_seq ?_
        refine run_weak [(9, v21), (23, boxP b108 0), (24, .int .i64 r106.2)] [1, 2] [row v21 5 (x_89.map S_api_Bucket.enc), box b108 [.int .i64 r106.1.Cap, .int .i64 r106.1.Num, .int .i64 r106.1.Den, .int .i64 r106.1.Level, .int .i64 r106.1.At]] (vcons rfl (vcons rfl (vcons rfl (vnil)))) (by decide) rfl ?_
        refine run_region' ?_
        refine ops_y (wn rfl) rfl (y_move rfl) ?_
        obtain ⟨r109, hr110, h⟩ := bind_some h
        refine ops_t (wn rfl) rfl (t_call (vs := [v21]) (cs := []) [⟨0, true⟩] rfl Try.call25 rfl (bucket_Merge_ok n x_89 v21 hr110) (shows_cons 0 true rfl views_row shows_nil) (.inr (by rintro _ _ ⟨rfl, rfl⟩ g hg; first | (cases hg; done) | (simp only [List.mem_cons, List.not_mem_nil, or_false] at hg; first | (subst hg; first | exact strict_row | exact strict_box) | (rcases hg with rfl | rfl <;> first | exact strict_row | exact strict_box) | (rcases hg with rfl | rfl | rfl <;> first | exact strict_row | exact strict_box))))) ?_
        rintro _ _ ⟨_, ⟨rfl, rfl⟩, rfl⟩
        refine ops_y (wn rfl) rfl (y_move rfl) ?_
        refine ops_y (wn rfl) rfl (y_extract rfl rfl) ?_
        refine ops_y (wn rfl) rfl (y_extract rfl rfl) ?_
        refine ops_t (wn rfl) rfl (t_alloc Try.zeroValue23) ?_
        rintro _ _ ⟨b111, rfl, rfl⟩
        refine ops_t (wn rfl) rfl (t_store 2 Try.sizeOf23 rfl rfl rfl rfl (by simp [Value.cells]) (by simp [Value.cells, Value.oneCell'])) ?_
        rintro _ _ ⟨rfl, rfl⟩
        refine ops_turn (retell 2 (g := box b111 [.int .i64 r109.1.Cap, .int .i64 r109.1.Num, .int .i64 r109.1.Den, .int .i64 r109.1.Level, .int .i64 r109.1.At]) rfl rfl) ?_
        refine ops_y (wn rfl) rfl (y_assign rfl) ?_
        refine ops_nil ?_
        refine goes_code ?_
        refine run_seq ?_
        refine run_weak [(23, boxP b108 0), (24, .int .i64 r106.2), (25, boxP b111 0), (26, .int .i64 r109.2)] [1, 2] [box b108 [.int .i64 r106.1.Cap, .int .i64 r106.1.Num, .int .i64 r106.1.Den, .int .i64 r106.1.Level, .int .i64 r106.1.At], box b111 [.int .i64 r109.1.Cap, .int .i64 r109.1.Num, .int .i64 r109.1.Den, .int .i64 r109.1.Level, .int .i64 r109.1.At]] (vcons rfl (vcons rfl (vcons rfl (vcons rfl (vnil))))) (by decide) rfl ?_
        refine run_region' ?_
        obtain ⟨r112, hr113, h⟩ := bind_some h
        refine ops_t (wn rfl) rfl (t_call (vs := []) (cs := []) [] rfl Try.call19 rfl (law12_sanity_ok n   hr113) shows_nil (.inl rfl)) ?_
        rintro _ _ ⟨_, ⟨rfl, rfl⟩, rfl⟩
        refine ops_y (wn rfl) rfl (y_move rfl) ?_
        refine ops_cut 3 Bool (fun σ => [(23, boxP b108 0), (25, boxP b111 0), (26, .int .i64 r109.2), (172, .bool σ)]) (fun σ => [box b108 [.int .i64 r106.1.Cap, .int .i64 r106.1.Num, .int .i64 r106.1.Den, .int .i64 r106.1.Level, .int .i64 r106.1.At], box b111 [.int .i64 r109.1.Cap, .int .i64 r109.1.Num, .int .i64 r109.1.Den, .int .i64 r109.1.Level, .int .i64 r109.1.At]]) (fun σ => σ = (r112 && decide (r106.2 = 0))) (fun L114 hL115 => ?_) ?_
        · refine ops_split 169 r112 rfl (fun hg116 => ?_) (fun hg116 => ?_)
          · skip
            refine ops_y (wg 1 true 169 rfl rfl rfl rfl) rfl (y_move rfl) ?_
            refine ops_y (wg 1 true 169 rfl rfl rfl rfl) rfl (y_eql rfl rfl) ?_
            refine ops_y (wn rfl) rfl (y_pick (b := true) rfl rfl) ?_
            refine ops_nil ?_
            exact goes_cut hL115 (decide (r106.2 = 0)) [0, 1] (vcons rfl (vcons rfl (vcons rfl (vcons rfl (vnil))))) (by decide) rfl (by rw [hg116]; simp)
          · skip
            refine ops_no 1 true 169 rfl rfl rfl rfl rfl ?_
            refine ops_no 1 true 169 rfl rfl rfl rfl rfl ?_
            refine ops_y (wn rfl) rfl (y_pick (b := false) rfl rfl) ?_
            refine ops_nil ?_
            exact goes_cut hL115 false [0, 1] (vcons rfl (vcons rfl (vcons rfl (vcons rfl (vnil))))) (by decide) rfl (by rw [hg116]; simp)
        rintro _ rfl
        refine ops_y (wn rfl) rfl (y_move rfl) ?_
        refine ops_cut 3 Bool (fun σ => [(23, boxP b108 0), (25, boxP b111 0), (176, .bool σ)]) (fun σ => [box b108 [.int .i64 r106.1.Cap, .int .i64 r106.1.Num, .int .i64 r106.1.Den, .int .i64 r106.1.Level, .int .i64 r106.1.At], box b111 [.int .i64 r109.1.Cap, .int .i64 r109.1.Num, .int .i64 r109.1.Den, .int .i64 r109.1.Level, .int .i64 r109.1.At]]) (fun σ => σ = ((r112 && decide (r106.2 = 0)) && decide (r109.2 = 0))) (fun L117 hL118 => ?_) ?_
        · refine ops_split 173 (r112 && decide (r106.2 = 0)) rfl (fun hg119 => ?_) (fun hg119 => ?_)
          · skip
            refine ops_y (wg 5 true 173 rfl rfl rfl rfl) rfl (y_move rfl) ?_
            refine ops_y (wg 5 true 173 rfl rfl rfl rfl) rfl (y_eql rfl rfl) ?_
            refine ops_y (wn rfl) rfl (y_pick (b := true) rfl rfl) ?_
            refine ops_nil ?_
            exact goes_cut hL118 (decide (r109.2 = 0)) [0, 1] (vcons rfl (vcons rfl (vcons rfl (vnil)))) (by decide) rfl (by rw [hg119]; simp)
          · skip
            refine ops_no 5 true 173 rfl rfl rfl rfl rfl ?_
            refine ops_no 5 true 173 rfl rfl rfl rfl rfl ?_
            refine ops_y (wn rfl) rfl (y_pick (b := false) rfl rfl) ?_
            refine ops_nil ?_
            exact goes_cut hL118 false [0, 1] (vcons rfl (vcons rfl (vcons rfl (vnil)))) (by decide) rfl (by rw [hg119]; simp)
        rintro _ rfl
        refine ops_y (wn rfl) rfl (y_move rfl) ?_
        refine ops_cut 6 Bool (fun σ => [(183, .bool σ)]) (fun σ => [box b108 [.int .i64 r106.1.Cap, .int .i64 r106.1.Num, .int .i64 r106.1.Den, .int .i64 r106.1.Level, .int .i64 r106.1.At], box b111 [.int .i64 r109.1.Cap, .int .i64 r109.1.Num, .int .i64 r109.1.Den, .int .i64 r109.1.Level, .int .i64 r109.1.At]]) (fun σ => σ = (((r112 && decide (r106.2 = 0)) && decide (r109.2 = 0)) && decide (r109.1.Level ≤ r106.1.Level))) (fun L120 hL121 => ?_) ?_
        · refine ops_split 177 ((r112 && decide (r106.2 = 0)) && decide (r109.2 = 0)) rfl (fun hg122 => ?_) (fun hg122 => ?_)
          · skip
            refine ops_y (wg 9 true 177 rfl rfl rfl rfl) rfl (y_fieldAddr_box (sz := 0) Try.runUnderlying23 rfl Try.sizeOf3 rfl) ?_
            refine ops_y (wg 9 true 177 rfl rfl rfl rfl) rfl (y_load_box 1 Try.isAgg3 rfl rfl rfl) ?_
            refine ops_y (wg 9 true 177 rfl rfl rfl rfl) rfl (y_fieldAddr_box (sz := 0) Try.runUnderlying23 rfl Try.sizeOf3 rfl) ?_
            refine ops_y (wg 9 true 177 rfl rfl rfl rfl) rfl (y_load_box 0 Try.isAgg3 rfl rfl rfl) ?_
            refine ops_y (wg 9 true 177 rfl rfl rfl rfl) rfl (y_leq rfl rfl) ?_
            refine ops_y (wn rfl) rfl (y_pick (b := true) rfl rfl) ?_
            refine ops_nil ?_
            exact goes_cut hL121 (decide (r109.1.Level ≤ r106.1.Level)) [0, 1] (vcons rfl (vnil)) (by decide) rfl (by rw [hg122]; simp)
          · skip
            refine ops_no 9 true 177 rfl rfl rfl rfl rfl ?_
            refine ops_no 9 true 177 rfl rfl rfl rfl rfl ?_
            refine ops_no 9 true 177 rfl rfl rfl rfl rfl ?_
            refine ops_no 9 true 177 rfl rfl rfl rfl rfl ?_
            refine ops_no 9 true 177 rfl rfl rfl rfl rfl ?_
            refine ops_y (wn rfl) rfl (y_pick (b := false) rfl rfl) ?_
            refine ops_nil ?_
            exact goes_cut hL121 false [0, 1] (vcons rfl (vnil)) (by decide) rfl (by rw [hg122]; simp)
        rintro _ rfl
        refine ops_y (wn rfl) rfl (y_assign rfl) ?_
        refine ops_nil ?_
        refine goes_code ?_
        refine run_ret ?_
        obtain rfl := some_eq h
        refine fin_slots [8] [.bool (((r112 && decide (r106.2 = 0)) && decide (r109.2 = 0)) && decide (r109.1.Level ≤ r106.1.Level))] [] [] Try.results8 rfl (by decide) rfl ?_
        exact ⟨rfl, rfl⟩

end Go.Proofs.Ytpalglggjndmlaa
