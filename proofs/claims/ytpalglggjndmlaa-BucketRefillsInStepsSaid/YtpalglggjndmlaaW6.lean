/-
  The law BucketRefillsInSteps, lifted.
-/
import Derived.Test.YtpalglggjndmlaaFb
namespace Go.Proofs.Ytpalglggjndmlaa
open Go.Abs
set_option linter.unusedVariables false
set_option linter.unusedSimpArgs false
set_option maxRecDepth 20000


def law12_BucketRefillsInSteps (n : Nat) (b_0 : S_api_Bucket) (t_1 : Int) (u_2 : Int) (less_3 : Int) : Option (Bool) :=
  (bucket_Valid b_0).bind fun r2 =>
  cond ((((!r2) || decide (t_1 < b_0.At)) || decide (u_2 < t_1)) || decide (1099511627776 < u_2))
    ((law12_sanity n).bind fun r14 =>
    some r14)
    ((bucket_Refill b_0 t_1).bind fun r16 =>
    (bucket_Refill r16.1 u_2).bind fun r19 =>
    (bucket_Refill b_0 u_2).bind fun r22 =>
    bindJ (S := Bool)
      (cond (((decide (r16.2 ≠ 0) || decide (r19.2 ≠ 0)) || decide (r22.2 ≠ 0)) || (!(decide (r19.1.Cap = r22.1.Cap) && (decide (r19.1.Num = r22.1.Num) && (decide (r19.1.Den = r22.1.Den) && (decide (r19.1.Level = r22.1.Level) && (decide (r19.1.At = r22.1.At))))))))
        (some (.go true))
        ((bucket_Tokens r16.1).bind fun r40 =>
        (bucket_Tokens r19.1).bind fun r42 =>
        some (.go (decide (r42 < r40)))))
    (fun b34 =>
      cond b34
        (some false)
        (cond (decide (less_3 < 0) || decide (b_0.Level < less_3))
          ((law12_sanity n).bind fun r49 =>
          some r49)
          ((bucket_Refill (S_api_Bucket.mk b_0.Cap b_0.Num b_0.Den (IntKind.i64.wrap (b_0.Level - less_3)) b_0.At) u_2).bind fun r52 =>
          (law12_sanity n).bind fun r55 =>
          some (((r55 && decide (r52.2 = 0)) && decide (r52.1.Level ≤ r22.1.Level)) && decide ((IntKind.i64.wrap (r22.1.Level - r52.1.Level)) ≤ less_3))))))
theorem law12_BucketRefillsInSteps_ok (n : Nat) (b_0 : S_api_Bucket) (t_1 : Int) (u_2 : Int) (less_3 : Int)  {r : Bool} (h : law12_BucketRefillsInSteps n b_0 t_1 u_2 less_3 = some r) :
    Meets Try.prog 6 [.agg #[.int .i64 b_0.Cap, .int .i64 b_0.Num, .int .i64 b_0.Den, .int .i64 b_0.Level, .int .i64 b_0.At], .int .i64 t_1, .int .i64 u_2, .int .i64 less_3] [] (fun v G => v = .bool r ∧ G = []) := by
  refine fn_of_run Try.func6 rfl Try.ntmps6 rfl (fun w0 o0 => ?_)
  refine run_seq ?_
  refine run_region' ?_
  refine ops_t (wn rfl) rfl (t_box rfl) ?_
  rintro _ _ ⟨b1, rfl, rfl⟩
  refine ops_y (wn rfl) rfl (y_assign rfl) ?_
  refine ops_nil ?_
  refine goes_code ?_
  refine run_seq ?_
  refine run_seq ?_
  refine run_region' ?_
  refine ops_y (wn rfl) rfl (y_load_boxagg (c := [.int .i64 b_0.Cap, .int .i64 b_0.Num, .int .i64 b_0.Den, .int .i64 b_0.Level, .int .i64 b_0.At]) 0 Try.isAgg23 Try.sizeOf23 rfl rfl rfl) ?_
  obtain ⟨r2, hr3, h⟩ := bind_some h
  refine ops_t (wn rfl) rfl (t_call (vs := [.agg #[.int .i64 b_0.Cap, .int .i64 b_0.Num, .int .i64 b_0.Den, .int .i64 b_0.Level, .int .i64 b_0.At]]) (cs := []) [] rfl Try.call20 rfl (bucket_Valid_ok b_0  hr3) shows_nil (.inl rfl)) ?_
  rintro _ _ ⟨_, ⟨rfl, rfl⟩, rfl⟩
  refine ops_y (wn rfl) rfl (y_not rfl) ?_
  refine ops_y (wn rfl) rfl (y_move rfl) ?_
  refine ops_cut 5 Bool (fun σ => [(1, .int .i64 t_1), (2, .int .i64 u_2), (3, .int .i64 less_3), (4, boxP b1 0), (26, .bool σ)]) (fun σ => [box b1 [.int .i64 b_0.Cap, .int .i64 b_0.Num, .int .i64 b_0.Den, .int .i64 b_0.Level, .int .i64 b_0.At]]) (fun σ => σ = ((!r2) || decide (t_1 < b_0.At))) (fun L4 hL5 => ?_) ?_
  · refine ops_split 21 (!r2) rfl (fun hg6 => ?_) (fun hg6 => ?_)
    · skip
      refine ops_no 3 false 21 rfl rfl rfl rfl rfl ?_
      refine ops_no 3 false 21 rfl rfl rfl rfl rfl ?_
      refine ops_no 3 false 21 rfl rfl rfl rfl rfl ?_
      refine ops_no 3 false 21 rfl rfl rfl rfl rfl ?_
      refine ops_y (wn rfl) rfl (y_pick (b := true) rfl rfl) ?_
      refine ops_nil ?_
      exact goes_cut hL5 true [0] (vcons rfl (vcons rfl (vcons rfl (vcons rfl (vcons rfl (vnil)))))) (by decide) rfl (by rw [hg6]; simp)
    · skip
      refine ops_y (wg 3 false 21 rfl rfl rfl rfl) rfl (y_move rfl) ?_
      refine ops_y (wg 3 false 21 rfl rfl rfl rfl) rfl (y_fieldAddr_box (sz := 0) Try.runUnderlying23 rfl Try.sizeOf3 rfl) ?_
      refine ops_y (wg 3 false 21 rfl rfl rfl rfl) rfl (y_load_box 0 Try.isAgg3 rfl rfl rfl) ?_
      refine ops_y (wg 3 false 21 rfl rfl rfl rfl) rfl (y_lss rfl rfl) ?_
      refine ops_y (wn rfl) rfl (y_pick (b := false) rfl rfl) ?_
      refine ops_nil ?_
      exact goes_cut hL5 (decide (t_1 < b_0.At)) [0] (vcons rfl (vcons rfl (vcons rfl (vcons rfl (vcons rfl (vnil)))))) (by decide) rfl (by rw [hg6]; simp)
  rintro _ rfl
  refine ops_y (wn rfl) rfl (y_move rfl) ?_
  refine ops_cut 4 Bool (fun σ => [(1, .int .i64 t_1), (2, .int .i64 u_2), (3, .int .i64 less_3), (4, boxP b1 0), (31, .bool σ)]) (fun σ => [box b1 [.int .i64 b_0.Cap, .int .i64 b_0.Num, .int .i64 b_0.Den, .int .i64 b_0.Level, .int .i64 b_0.At]]) (fun σ => σ = (((!r2) || decide (t_1 < b_0.At)) || decide (u_2 < t_1))) (fun L7 hL8 => ?_) ?_
  · refine ops_split 27 ((!r2) || decide (t_1 < b_0.At)) rfl (fun hg9 => ?_) (fun hg9 => ?_)
    · skip
      refine ops_no 9 false 27 rfl rfl rfl rfl rfl ?_
      refine ops_no 9 false 27 rfl rfl rfl rfl rfl ?_
      refine ops_no 9 false 27 rfl rfl rfl rfl rfl ?_
      refine ops_y (wn rfl) rfl (y_pick (b := true) rfl rfl) ?_
      refine ops_nil ?_
      exact goes_cut hL8 true [0] (vcons rfl (vcons rfl (vcons rfl (vcons rfl (vcons rfl (vnil)))))) (by decide) rfl (by rw [hg9]; simp)
    · skip
      refine ops_y (wg 9 false 27 rfl rfl rfl rfl) rfl (y_move rfl) ?_
      refine ops_y (wg 9 false 27 rfl rfl rfl rfl) rfl (y_move rfl) ?_
      refine ops_y (wg 9 false 27 rfl rfl rfl rfl) rfl (y_lss rfl rfl) ?_
      refine ops_y (wn rfl) rfl (y_pick (b := false) rfl rfl) ?_
      refine ops_nil ?_
      exact goes_cut hL8 (decide (u_2 < t_1)) [0] (vcons rfl (vcons rfl (vcons rfl (vcons rfl (vcons rfl (vnil)))))) (by decide) rfl (by rw [hg9]; simp)
  rintro _ rfl
  refine ops_y (wn rfl) rfl (y_move rfl) ?_
  refine ops_cut 3 Bool (fun σ => [(1, .int .i64 t_1), (2, .int .i64 u_2), (3, .int .i64 less_3), (4, boxP b1 0), (35, .bool σ)]) (fun σ => [box b1 [.int .i64 b_0.Cap, .int .i64 b_0.Num, .int .i64 b_0.Den, .int .i64 b_0.Level, .int .i64 b_0.At]]) (fun σ => σ = ((((!r2) || decide (t_1 < b_0.At)) || decide (u_2 < t_1)) || decide (1099511627776 < u_2))) (fun L10 hL11 => ?_) ?_
  · refine ops_split 32 (((!r2) || decide (t_1 < b_0.At)) || decide (u_2 < t_1)) rfl (fun hg12 => ?_) (fun hg12 => ?_)
    · skip
      refine ops_no 14 false 32 rfl rfl rfl rfl rfl ?_
      refine ops_no 14 false 32 rfl rfl rfl rfl rfl ?_
      refine ops_y (wn rfl) rfl (y_pick (b := true) rfl rfl) ?_
      refine ops_nil ?_
      exact goes_cut hL11 true [0] (vcons rfl (vcons rfl (vcons rfl (vcons rfl (vcons rfl (vnil)))))) (by decide) rfl (by rw [hg12]; simp)
    · skip
      refine ops_y (wg 14 false 32 rfl rfl rfl rfl) rfl (y_move rfl) ?_
      refine ops_y (wg 14 false 32 rfl rfl rfl rfl) rfl (y_gtr rfl rfl) ?_
      refine ops_y (wn rfl) rfl (y_pick (b := false) rfl rfl) ?_
      refine ops_nil ?_
      exact goes_cut hL11 (decide (1099511627776 < u_2)) [0] (vcons rfl (vcons rfl (vcons rfl (vcons rfl (vcons rfl (vnil)))))) (by decide) rfl (by rw [hg12]; simp)
  rintro _ rfl
  refine ops_nil ?_
  refine goes_code ?_
  refine run_cond ((((!r2) || decide (t_1 < b_0.At)) || decide (u_2 < t_1)) || decide (1099511627776 < u_2)) rfl (fun hc13 => ?_) (fun hc13 => ?_)
  · replace h := cond_t h hc13
    refine run_seq ?_
    refine run_region' ?_
    obtain ⟨r14, hr15, h⟩ := bind_some h
    refine ops_t (wn rfl) rfl (t_call (vs := []) (cs := []) [] rfl Try.call19 rfl (law12_sanity_ok n   hr15) shows_nil (.inl rfl)) ?_
    rintro _ _ ⟨_, ⟨rfl, rfl⟩, rfl⟩
    refine ops_y (wn rfl) rfl (y_assign rfl) ?_
    refine ops_nil ?_
    refine goes_code ?_
    refine run_ret ?_
    obtain rfl := some_eq h
    refine fin_slots [8] [.bool r14] [] [] Try.results6 rfl (by decide) rfl ?_
    exact ⟨rfl, rfl⟩
  · replace h := cond_f h hc13
    refine run_skip ?_
    refine goes_code ?_
    refine run_seq ?_
    refine run_region' ?_
    refine ops_y (wn rfl) rfl (y_load_boxagg (c := [.int .i64 b_0.Cap, .int .i64 b_0.Num, .int .i64 b_0.Den, .int .i64 b_0.Level, .int .i64 b_0.At]) 0 Try.isAgg23 Try.sizeOf23 rfl rfl rfl) ?_
    refine ops_y (wn rfl) rfl (y_move rfl) ?_
    obtain ⟨r16, hr17, h⟩ := bind_some h
    refine ops_t (wn rfl) rfl (t_call (vs := [.agg #[.int .i64 b_0.Cap, .int .i64 b_0.Num, .int .i64 b_0.Den, .int .i64 b_0.Level, .int .i64 b_0.At], .int .i64 t_1]) (cs := []) [] rfl Try.call10 rfl (bucket_Refill_ok b_0 t_1  hr17) shows_nil (.inl rfl)) ?_
    rintro _ _ ⟨_, ⟨rfl, rfl⟩, rfl⟩
    refine ops_y (wn rfl) rfl (y_move rfl) ?_
    refine ops_y (wn rfl) rfl (y_extract rfl rfl) ?_
    refine ops_y (wn rfl) rfl (y_extract rfl rfl) ?_
    refine ops_t (wn rfl) rfl (t_alloc Try.zeroValue23) ?_
    rintro _ _ ⟨b18, rfl, rfl⟩
    refine ops_t (wn rfl) rfl (t_store 1 Try.sizeOf23 rfl rfl rfl rfl (by simp [Value.cells]) (by simp [Value.cells, Value.oneCell'])) ?_
    rintro _ _ ⟨rfl, rfl⟩
    refine ops_turn (retell 1 (g := box b18 [.int .i64 r16.1.Cap, .int .i64 r16.1.Num, .int .i64 r16.1.Den, .int .i64 r16.1.Level, .int .i64 r16.1.At]) rfl rfl) ?_
    refine ops_y (wn rfl) rfl (y_assign rfl) ?_
    refine ops_nil ?_
    refine goes_code ?_
    refine run_seq ?_
    refine run_weak [(2, .int .i64 u_2), (3, .int .i64 less_3), (4, boxP b1 0), (9, boxP b18 0), (10, .int .i64 r16.2)] [0, 1] [box b1 [.int .i64 b_0.Cap, .int .i64 b_0.Num, .int .i64 b_0.Den, .int .i64 b_0.Level, .int .i64 b_0.At], box b18 [.int .i64 r16.1.Cap, .int .i64 r16.1.Num, .int .i64 r16.1.Den, .int .i64 r16.1.Level, .int .i64 r16.1.At]] (vcons rfl (vcons rfl (vcons rfl (vcons rfl (vcons rfl (vnil)))))) (by decide) rfl ?_
    refine run_region' ?_
    refine ops_y (wn rfl) rfl (y_load_boxagg (c := [.int .i64 r16.1.Cap, .int .i64 r16.1.Num, .int .i64 r16.1.Den, .int .i64 r16.1.Level, .int .i64 r16.1.At]) 1 Try.isAgg23 Try.sizeOf23 rfl rfl rfl) ?_
    refine ops_y (wn rfl) rfl (y_move rfl) ?_
    obtain ⟨r19, hr20, h⟩ := bind_some h
    refine ops_t (wn rfl) rfl (t_call (vs := [.agg #[.int .i64 r16.1.Cap, .int .i64 r16.1.Num, .int .i64 r16.1.Den, .int .i64 r16.1.Level, .int .i64 r16.1.At], .int .i64 u_2]) (cs := []) [] rfl Try.call10 rfl (bucket_Refill_ok r16.1 u_2  hr20) shows_nil (.inl rfl)) ?_
    rintro _ _ ⟨_, ⟨rfl, rfl⟩, rfl⟩
    refine ops_y (wn rfl) rfl (y_move rfl) ?_
    refine ops_y (wn rfl) rfl (y_extract rfl rfl) ?_
    refine ops_y (wn rfl) rfl (y_extract rfl rfl) ?_
    refine ops_t (wn rfl) rfl (t_alloc Try.zeroValue23) ?_
    rintro _ _ ⟨b21, rfl, rfl⟩
    refine ops_t (wn rfl) rfl (t_store 2 Try.sizeOf23 rfl rfl rfl rfl (by simp [Value.cells]) (by simp [Value.cells, Value.oneCell'])) ?_
    rintro _ _ ⟨rfl, rfl⟩
    refine ops_turn (retell 2 (g := box b21 [.int .i64 r19.1.Cap, .int .i64 r19.1.Num, .int .i64 r19.1.Den, .int .i64 r19.1.Level, .int .i64 r19.1.At]) rfl rfl) ?_
    refine ops_y (wn rfl) rfl (y_assign rfl) ?_
    refine ops_nil ?_
    refine goes_code ?_
    refine run_seq ?_
    refine run_weak [(2, .int .i64 u_2), (3, .int .i64 less_3), (4, boxP b1 0), (9, boxP b18 0), (10, .int .i64 r16.2), (11, boxP b21 0), (12, .int .i64 r19.2)] [0, 1, 2] [box b1 [.int .i64 b_0.Cap, .int .i64 b_0.Num, .int .i64 b_0.Den, .int .i64 b_0.Level, .int .i64 b_0.At], box b18 [.int .i64 r16.1.Cap, .int .i64 r16.1.Num, .int .i64 r16.1.Den, .int .i64 r16.1.Level, .int .i64 r16.1.At], box b21 [.int .i64 r19.1.Cap, .int .i64 r19.1.Num, .int .i64 r19.1.Den, .int .i64 r19.1.Level, .int .i64 r19.1.At]] (vcons rfl (vcons rfl (vcons rfl (vcons rfl (vcons rfl (vcons rfl (vcons rfl (vnil)))))))) (by decide) rfl ?_
    refine run_region' ?_
    refine ops_y (wn rfl) rfl (y_load_boxagg (c := [.int .i64 b_0.Cap, .int .i64 b_0.Num, .int .i64 b_0.Den, .int .i64 b_0.Level, .int .i64 b_0.At]) 0 Try.isAgg23 Try.sizeOf23 rfl rfl rfl) ?_
    refine ops_y (wn rfl) rfl (y_move rfl) ?_
    obtain ⟨r22, hr23, h⟩ := bind_some h
    refine ops_t (wn rfl) rfl (t_call (vs := [.agg #[.int .i64 b_0.Cap, .int .i64 b_0.Num, .int .i64 b_0.Den, .int .i64 b_0.Level, .int .i64 b_0.At], .int .i64 u_2]) (cs := []) [] rfl Try.call10 rfl (bucket_Refill_ok b_0 u_2  hr23) shows_nil (.inl rfl)) ?_
    rintro _ _ ⟨_, ⟨rfl, rfl⟩, rfl⟩
    refine ops_y (wn rfl) rfl (y_move rfl) ?_
    refine ops_y (wn rfl) rfl (y_extract rfl rfl) ?_
    refine ops_y (wn rfl) rfl (y_extract rfl rfl) ?_
    refine ops_t (wn rfl) rfl (t_alloc Try.zeroValue23) ?_
    rintro _ _ ⟨b24, rfl, rfl⟩
    refine ops_t (wn rfl) rfl (t_store 3 Try.sizeOf23 rfl rfl rfl rfl (by simp [Value.cells]) (by simp [Value.cells, Value.oneCell'])) ?_
    rintro _ _ ⟨rfl, rfl⟩
    refine ops_turn (retell 3 (g := box b24 [.int .i64 r22.1.Cap, .int .i64 r22.1.Num, .int .i64 r22.1.Den, .int .i64 r22.1.Level, .int .i64 r22.1.At]) rfl rfl) ?_
    refine ops_y (wn rfl) rfl (y_assign rfl) ?_
    refine ops_nil ?_
    refine goes_code ?_
    refine run_seq ?_
    refine run_seq ?_
    refine run_weak [(2, .int .i64 u_2), (3, .int .i64 less_3), (4, boxP b1 0), (9, boxP b18 0), (10, .int .i64 r16.2), (11, boxP b21 0), (12, .int .i64 r19.2), (13, boxP b24 0), (14, .int .i64 r22.2)] [0, 1, 2, 3] [box b1 [.int .i64 b_0.Cap, .int .i64 b_0.Num, .int .i64 b_0.Den, .int .i64 b_0.Level, .int .i64 b_0.At], box b18 [.int .i64 r16.1.Cap, .int .i64 r16.1.Num, .int .i64 r16.1.Den, .int .i64 r16.1.Level, .int .i64 r16.1.At], box b21 [.int .i64 r19.1.Cap, .int .i64 r19.1.Num, .int .i64 r19.1.Den, .int .i64 r19.1.Level, .int .i64 r19.1.At], box b24 [.int .i64 r22.1.Cap, .int .i64 r22.1.Num, .int .i64 r22.1.Den, .int .i64 r22.1.Level, .int .i64 r22.1.At]] (vcons rfl (vcons rfl (vcons rfl (vcons rfl (vcons rfl (vcons rfl (vcons rfl (vcons rfl (vcons rfl (vnil)))))))))) (by decide) rfl ?_
    refine run_drawany [box b1 [.int .i64 b_0.Cap, .int .i64 b_0.Num, .int .i64 b_0.Den, .int .i64 b_0.Level, .int .i64 b_0.At], box b18 [.int .i64 r16.1.Cap, .int .i64 r16.1.Num, .int .i64 r16.1.Den, .int .i64 r16.1.Level, .int .i64 r16.1.At], box b21 [.int .i64 r19.1.Cap, .int .i64 r19.1.Num, .int .i64 r19.1.Den, .int .i64 r19.1.Level, .int .i64 r19.1.At], box b24 [.int .i64 r22.1.Cap, .int .i64 r22.1.Num, .int .i64 r22.1.Den, .int .i64 r22.1.Level, .int .i64 r22.1.At]] (by kernel_rfl) ?_
    refine any_y 0 rfl (by kernel_rfl) (by kernel_rfl) (by kernel_rfl) (sub_same (sub_same (sub_same (sub_same (sub_nil))))) (wn rfl) rfl (y_move rfl) ?_
    refine any_y 1 rfl (by kernel_rfl) (by kernel_rfl) (by kernel_rfl) (sub_same (sub_same (sub_same (sub_same (sub_nil))))) (wn rfl) rfl (y_neq rfl rfl) ?_
    refine any_y 2 rfl (by kernel_rfl) (by kernel_rfl) (by kernel_rfl) (sub_same (sub_same (sub_same (sub_same (sub_nil))))) (wn rfl) rfl (y_move rfl) ?_
    refine any_cut #[true, true, true, true, true, true, false, false, false, false, false, false, false, false, false, false, false, false, false, false, false, false] 16 Bool (fun σ => [(2, .int .i64 u_2), (3, .int .i64 less_3), (4, boxP b1 0), (9, boxP b18 0), (11, boxP b21 0), (13, boxP b24 0), (14, .int .i64 r22.2), (60, .bool σ)]) (fun σ => [box b1 [.int .i64 b_0.Cap, .int .i64 b_0.Num, .int .i64 b_0.Den, .int .i64 b_0.Level, .int .i64 b_0.At], box b18 [.int .i64 r16.1.Cap, .int .i64 r16.1.Num, .int .i64 r16.1.Den, .int .i64 r16.1.Level, .int .i64 r16.1.At], box b21 [.int .i64 r19.1.Cap, .int .i64 r19.1.Num, .int .i64 r19.1.Den, .int .i64 r19.1.Level, .int .i64 r19.1.At], box b24 [.int .i64 r22.1.Cap, .int .i64 r22.1.Num, .int .i64 r22.1.Den, .int .i64 r22.1.Level, .int .i64 r22.1.At]]) (fun σ => σ = (decide (r16.2 ≠ 0) || decide (r19.2 ≠ 0))) (fun hL26 => ?_) ?_
    · refine any_split 57 (decide (r16.2 ≠ 0)) rfl (fun hg27 => ?_) (fun hg27 => ?_)
      · skip
        refine any_no 3 rfl (by kernel_rfl) (by kernel_rfl) (by kernel_rfl) (sub_same (sub_same (sub_same (sub_same (sub_nil))))) 2 false 57 rfl rfl rfl rfl rfl ?_
        refine any_no 4 rfl (by kernel_rfl) (by kernel_rfl) (by kernel_rfl) (sub_same (sub_same (sub_same (sub_same (sub_nil))))) 2 false 57 rfl rfl rfl rfl rfl ?_
        refine any_y 5 rfl (by kernel_rfl) (by kernel_rfl) (by kernel_rfl) (sub_same (sub_same (sub_same (sub_same (sub_nil))))) (wn rfl) rfl (y_pick (b := true) rfl rfl) ?_
        exact any_weak [(2, .int .i64 u_2), (3, .int .i64 less_3), (4, boxP b1 0), (9, boxP b18 0), (11, boxP b21 0), (13, boxP b24 0), (14, .int .i64 r22.2), (60, .bool true)] [0, 1, 2, 3] [box b1 [.int .i64 b_0.Cap, .int .i64 b_0.Num, .int .i64 b_0.Den, .int .i64 b_0.Level, .int .i64 b_0.At], box b18 [.int .i64 r16.1.Cap, .int .i64 r16.1.Num, .int .i64 r16.1.Den, .int .i64 r16.1.Level, .int .i64 r16.1.At], box b21 [.int .i64 r19.1.Cap, .int .i64 r19.1.Num, .int .i64 r19.1.Den, .int .i64 r19.1.Level, .int .i64 r19.1.At], box b24 [.int .i64 r22.1.Cap, .int .i64 r22.1.Num, .int .i64 r22.1.Den, .int .i64 r22.1.Level, .int .i64 r22.1.At]] (by kernel_rfl) (vcons rfl (vcons rfl (vcons rfl (vcons rfl (vcons rfl (vcons rfl (vcons rfl (vcons rfl (vnil))))))))) (by decide) rfl (hL26 true (by rw [hg27]; simp))
      · skip
        refine any_y 3 rfl (by kernel_rfl) (by kernel_rfl) (by kernel_rfl) (sub_same (sub_same (sub_same (sub_same (sub_nil))))) (wg 2 false 57 rfl rfl rfl rfl) rfl (y_move rfl) ?_
        refine any_y 4 rfl (by kernel_rfl) (by kernel_rfl) (by kernel_rfl) (sub_same (sub_same (sub_same (sub_same (sub_nil))))) (wg 2 false 57 rfl rfl rfl rfl) rfl (y_neq rfl rfl) ?_
        refine any_y 5 rfl (by kernel_rfl) (by kernel_rfl) (by kernel_rfl) (sub_same (sub_same (sub_same (sub_same (sub_nil))))) (wn rfl) rfl (y_pick (b := false) rfl rfl) ?_
        exact any_weak [(2, .int .i64 u_2), (3, .int .i64 less_3), (4, boxP b1 0), (9, boxP b18 0), (11, boxP b21 0), (13, boxP b24 0), (14, .int .i64 r22.2), (60, .bool (decide (r19.2 ≠ 0)))] [0, 1, 2, 3] [box b1 [.int .i64 b_0.Cap, .int .i64 b_0.Num, .int .i64 b_0.Den, .int .i64 b_0.Level, .int .i64 b_0.At], box b18 [.int .i64 r16.1.Cap, .int .i64 r16.1.Num, .int .i64 r16.1.Den, .int .i64 r16.1.Level, .int .i64 r16.1.At], box b21 [.int .i64 r19.1.Cap, .int .i64 r19.1.Num, .int .i64 r19.1.Den, .int .i64 r19.1.Level, .int .i64 r19.1.At], box b24 [.int .i64 r22.1.Cap, .int .i64 r22.1.Num, .int .i64 r22.1.Den, .int .i64 r22.1.Level, .int .i64 r22.1.At]] (by kernel_rfl) (vcons rfl (vcons rfl (vcons rfl (vcons rfl (vcons rfl (vcons rfl (vcons rfl (vcons rfl (vnil))))))))) (by decide) rfl (hL26 (decide (r19.2 ≠ 0)) (by rw [hg27]; simp))
    rintro _ rfl
    refine any_y 6 rfl (by kernel_rfl) (by kernel_rfl) (by kernel_rfl) (sub_same (sub_same (sub_same (sub_same (sub_nil))))) (wn rfl) rfl (y_move rfl) ?_
    refine any_cut #[true, true, true, true, true, true, true, true, true, true, false, false, false, false, false, false, false, false, false, false, false, false] 12 Bool (fun σ => [(2, .int .i64 u_2), (3, .int .i64 less_3), (4, boxP b1 0), (9, boxP b18 0), (11, boxP b21 0), (13, boxP b24 0), (64, .bool σ)]) (fun σ => [box b1 [.int .i64 b_0.Cap, .int .i64 b_0.Num, .int .i64 b_0.Den, .int .i64 b_0.Level, .int .i64 b_0.At], box b18 [.int .i64 r16.1.Cap, .int .i64 r16.1.Num, .int .i64 r16.1.Den, .int .i64 r16.1.Level, .int .i64 r16.1.At], box b21 [.int .i64 r19.1.Cap, .int .i64 r19.1.Num, .int .i64 r19.1.Den, .int .i64 r19.1.Level, .int .i64 r19.1.At], box b24 [.int .i64 r22.1.Cap, .int .i64 r22.1.Num, .int .i64 r22.1.Den, .int .i64 r22.1.Level, .int .i64 r22.1.At]]) (fun σ => σ = ((decide (r16.2 ≠ 0) || decide (r19.2 ≠ 0)) || decide (r22.2 ≠ 0))) (fun hL29 => ?_) ?_
    · refine any_split 61 (decide (r16.2 ≠ 0) || decide (r19.2 ≠ 0)) rfl (fun hg30 => ?_) (fun hg30 => ?_)
      · skip
        refine any_no 7 rfl (by kernel_rfl) (by kernel_rfl) (by kernel_rfl) (sub_same (sub_same (sub_same (sub_same (sub_nil))))) 6 false 61 rfl rfl rfl rfl rfl ?_
        refine any_no 8 rfl (by kernel_rfl) (by kernel_rfl) (by kernel_rfl) (sub_same (sub_same (sub_same (sub_same (sub_nil))))) 6 false 61 rfl rfl rfl rfl rfl ?_
        refine any_y 9 rfl (by kernel_rfl) (by kernel_rfl) (by kernel_rfl) (sub_same (sub_same (sub_same (sub_same (sub_nil))))) (wn rfl) rfl (y_pick (b := true) rfl rfl) ?_
        exact any_weak [(2, .int .i64 u_2), (3, .int .i64 less_3), (4, boxP b1 0), (9, boxP b18 0), (11, boxP b21 0), (13, boxP b24 0), (64, .bool true)] [0, 1, 2, 3] [box b1 [.int .i64 b_0.Cap, .int .i64 b_0.Num, .int .i64 b_0.Den, .int .i64 b_0.Level, .int .i64 b_0.At], box b18 [.int .i64 r16.1.Cap, .int .i64 r16.1.Num, .int .i64 r16.1.Den, .int .i64 r16.1.Level, .int .i64 r16.1.At], box b21 [.int .i64 r19.1.Cap, .int .i64 r19.1.Num, .int .i64 r19.1.Den, .int .i64 r19.1.Level, .int .i64 r19.1.At], box b24 [.int .i64 r22.1.Cap, .int .i64 r22.1.Num, .int .i64 r22.1.Den, .int .i64 r22.1.Level, .int .i64 r22.1.At]] (by kernel_rfl) (vcons rfl (vcons rfl (vcons rfl (vcons rfl (vcons rfl (vcons rfl (vcons rfl (vnil)))))))) (by decide) rfl (hL29 true (by rw [hg30]; simp))
      · skip
        refine any_y 7 rfl (by kernel_rfl) (by kernel_rfl) (by kernel_rfl) (sub_same (sub_same (sub_same (sub_same (sub_nil))))) (wg 6 false 61 rfl rfl rfl rfl) rfl (y_move rfl) ?_
        refine any_y 8 rfl (by kernel_rfl) (by kernel_rfl) (by kernel_rfl) (sub_same (sub_same (sub_same (sub_same (sub_nil))))) (wg 6 false 61 rfl rfl rfl rfl) rfl (y_neq rfl rfl) ?_
        refine any_y 9 rfl (by kernel_rfl) (by kernel_rfl) (by kernel_rfl) (sub_same (sub_same (sub_same (sub_same (sub_nil))))) (wn rfl) rfl (y_pick (b := false) rfl rfl) ?_
        exact any_weak [(2, .int .i64 u_2), (3, .int .i64 less_3), (4, boxP b1 0), (9, boxP b18 0), (11, boxP b21 0), (13, boxP b24 0), (64, .bool (decide (r22.2 ≠ 0)))] [0, 1, 2, 3] [box b1 [.int .i64 b_0.Cap, .int .i64 b_0.Num, .int .i64 b_0.Den, .int .i64 b_0.Level, .int .i64 b_0.At], box b18 [.int .i64 r16.1.Cap, .int .i64 r16.1.Num, .int .i64 r16.1.Den, .int .i64 r16.1.Level, .int .i64 r16.1.At], box b21 [.int .i64 r19.1.Cap, .int .i64 r19.1.Num, .int .i64 r19.1.Den, .int .i64 r19.1.Level, .int .i64 r19.1.At], box b24 [.int .i64 r22.1.Cap, .int .i64 r22.1.Num, .int .i64 r22.1.Den, .int .i64 r22.1.Level, .int .i64 r22.1.At]] (by kernel_rfl) (vcons rfl (vcons rfl (vcons rfl (vcons rfl (vcons rfl (vcons rfl (vcons rfl (vnil)))))))) (by decide) rfl (hL29 (decide (r22.2 ≠ 0)) (by rw [hg30]; simp))
    rintro _ rfl
    refine any_y 10 rfl (by kernel_rfl) (by kernel_rfl) (by kernel_rfl) (sub_same (sub_same (sub_same (sub_same (sub_nil))))) (wn rfl) rfl (y_move rfl) ?_
    refine any_cut #[true, true, true, true, true, true, true, true, true, true, true, true, true, true, true, false, false, false, false, false, false, false] 7 Bool (fun σ => [(2, .int .i64 u_2), (3, .int .i64 less_3), (4, boxP b1 0), (9, boxP b18 0), (11, boxP b21 0), (13, boxP b24 0), (69, .bool σ)]) (fun σ => [box b1 [.int .i64 b_0.Cap, .int .i64 b_0.Num, .int .i64 b_0.Den, .int .i64 b_0.Level, .int .i64 b_0.At], box b18 [.int .i64 r16.1.Cap, .int .i64 r16.1.Num, .int .i64 r16.1.Den, .int .i64 r16.1.Level, .int .i64 r16.1.At], box b21 [.int .i64 r19.1.Cap, .int .i64 r19.1.Num, .int .i64 r19.1.Den, .int .i64 r19.1.Level, .int .i64 r19.1.At], box b24 [.int .i64 r22.1.Cap, .int .i64 r22.1.Num, .int .i64 r22.1.Den, .int .i64 r22.1.Level, .int .i64 r22.1.At]]) (fun σ => σ = (((decide (r16.2 ≠ 0) || decide (r19.2 ≠ 0)) || decide (r22.2 ≠ 0)) || (!(decide (r19.1.Cap = r22.1.Cap) && (decide (r19.1.Num = r22.1.Num) && (decide (r19.1.Den = r22.1.Den) && (decide (r19.1.Level = r22.1.Level) && (decide (r19.1.At = r22.1.At))))))))) (fun hL32 => ?_) ?_
    · refine any_split 65 ((decide (r16.2 ≠ 0) || decide (r19.2 ≠ 0)) || decide (r22.2 ≠ 0)) rfl (fun hg33 => ?_) (fun hg33 => ?_)
      · skip
        refine any_no 11 rfl (by kernel_rfl) (by kernel_rfl) (by kernel_rfl) (sub_same (sub_same (sub_same (sub_same (sub_nil))))) 10 false 65 rfl rfl rfl rfl rfl ?_
        refine any_no 12 rfl (by kernel_rfl) (by kernel_rfl) (by kernel_rfl) (sub_same (sub_same (sub_same (sub_same (sub_nil))))) 10 false 65 rfl rfl rfl rfl rfl ?_
        refine any_no 13 rfl (by kernel_rfl) (by kernel_rfl) (by kernel_rfl) (sub_same (sub_same (sub_same (sub_same (sub_nil))))) 10 false 65 rfl rfl rfl rfl rfl ?_
        refine any_y 14 rfl (by kernel_rfl) (by kernel_rfl) (by kernel_rfl) (sub_same (sub_same (sub_same (sub_same (sub_nil))))) (wn rfl) rfl (y_pick (b := true) rfl rfl) ?_
        exact any_weak [(2, .int .i64 u_2), (3, .int .i64 less_3), (4, boxP b1 0), (9, boxP b18 0), (11, boxP b21 0), (13, boxP b24 0), (69, .bool true)] [0, 1, 2, 3] [box b1 [.int .i64 b_0.Cap, .int .i64 b_0.Num, .int .i64 b_0.Den, .int .i64 b_0.Level, .int .i64 b_0.At], box b18 [.int .i64 r16.1.Cap, .int .i64 r16.1.Num, .int .i64 r16.1.Den, .int .i64 r16.1.Level, .int .i64 r16.1.At], box b21 [.int .i64 r19.1.Cap, .int .i64 r19.1.Num, .int .i64 r19.1.Den, .int .i64 r19.1.Level, .int .i64 r19.1.At], box b24 [.int .i64 r22.1.Cap, .int .i64 r22.1.Num, .int .i64 r22.1.Den, .int .i64 r22.1.Level, .int .i64 r22.1.At]] (by kernel_rfl) (vcons rfl (vcons rfl (vcons rfl (vcons rfl (vcons rfl (vcons rfl (vcons rfl (vnil)))))))) (by decide) rfl (hL32 true (by rw [hg33]; simp))
      · skip
        refine any_y 11 rfl (by kernel_rfl) (by kernel_rfl) (by kernel_rfl) (sub_same (sub_same (sub_same (sub_same (sub_nil))))) (wg 10 false 65 rfl rfl rfl rfl) rfl (y_load_boxagg (c := [.int .i64 r19.1.Cap, .int .i64 r19.1.Num, .int .i64 r19.1.Den, .int .i64 r19.1.Level, .int .i64 r19.1.At]) 2 Try.isAgg23 Try.sizeOf23 rfl rfl rfl) ?_
        refine any_y 12 rfl (by kernel_rfl) (by kernel_rfl) (by kernel_rfl) (sub_same (sub_same (sub_same (sub_same (sub_nil))))) (wg 10 false 65 rfl rfl rfl rfl) rfl (y_load_boxagg (c := [.int .i64 r22.1.Cap, .int .i64 r22.1.Num, .int .i64 r22.1.Den, .int .i64 r22.1.Level, .int .i64 r22.1.At]) 3 Try.isAgg23 Try.sizeOf23 rfl rfl rfl) ?_
        refine any_y 13 rfl (by kernel_rfl) (by kernel_rfl) (by kernel_rfl) (sub_same (sub_same (sub_same (sub_same (sub_nil))))) (wg 10 false 65 rfl rfl rfl rfl) rfl (y_neS (by kernel_rfl) (by kernel_rfl) Try.runUnderlying23 rfl rfl (.cons (eqf_int (by decide) Try.runUnderlying3 Try.isAgg3 rfl rfl) (.cons (eqf_int (by decide) Try.runUnderlying3 Try.isAgg3 rfl rfl) (.cons (eqf_int (by decide) Try.runUnderlying3 Try.isAgg3 rfl rfl) (.cons (eqf_int (by decide) Try.runUnderlying3 Try.isAgg3 rfl rfl) (.cons (eqf_int (by decide) Try.runUnderlying3 Try.isAgg3 rfl rfl) EqFs.nil)))))) ?_
        refine any_y 14 rfl (by kernel_rfl) (by kernel_rfl) (by kernel_rfl) (sub_same (sub_same (sub_same (sub_same (sub_nil))))) (wn rfl) rfl (y_pick (b := false) rfl rfl) ?_
        exact any_weak [(2, .int .i64 u_2), (3, .int .i64 less_3), (4, boxP b1 0), (9, boxP b18 0), (11, boxP b21 0), (13, boxP b24 0), (69, .bool (!(decide (r19.1.Cap = r22.1.Cap) && (decide (r19.1.Num = r22.1.Num) && (decide (r19.1.Den = r22.1.Den) && (decide (r19.1.Level = r22.1.Level) && (decide (r19.1.At = r22.1.At))))))))] [0, 1, 2, 3] [box b1 [.int .i64 b_0.Cap, .int .i64 b_0.Num, .int .i64 b_0.Den, .int .i64 b_0.Level, .int .i64 b_0.At], box b18 [.int .i64 r16.1.Cap, .int .i64 r16.1.Num, .int .i64 r16.1.Den, .int .i64 r16.1.Level, .int .i64 r16.1.At], box b21 [.int .i64 r19.1.Cap, .int .i64 r19.1.Num, .int .i64 r19.1.Den, .int .i64 r19.1.Level, .int .i64 r19.1.At], box b24 [.int .i64 r22.1.Cap, .int .i64 r22.1.Num, .int .i64 r22.1.Den, .int .i64 r22.1.Level, .int .i64 r22.1.At]] (by kernel_rfl) (vcons rfl (vcons rfl (vcons rfl (vcons rfl (vcons rfl (vcons rfl (vcons rfl (vnil)))))))) (by decide) rfl (hL32 (!(decide (r19.1.Cap = r22.1.Cap) && (decide (r19.1.Num = r22.1.Num) && (decide (r19.1.Den = r22.1.Den) && (decide (r19.1.Level = r22.1.Level) && (decide (r19.1.At = r22.1.At))))))) (by rw [hg33]; simp))
    rintro _ rfl
    refine any_y 15 rfl (by kernel_rfl) (by kernel_rfl) (by kernel_rfl) (sub_same (sub_same (sub_same (sub_same (sub_nil))))) (wn rfl) rfl (y_move rfl) ?_
    obtain ⟨o35, h, ho36⟩ := bindJ_some h
    refine any_cut #[true, true, true, true, true, true, true, true, true, true, true, true, true, true, true, true, true, true, true, true, true, true] 0 Bool (fun σ => [(2, .int .i64 u_2), (3, .int .i64 less_3), (4, boxP b1 0), (13, boxP b24 0), (76, .bool σ)]) (fun σ => [box b1 [.int .i64 b_0.Cap, .int .i64 b_0.Num, .int .i64 b_0.Den, .int .i64 b_0.Level, .int .i64 b_0.At], box b18 [.int .i64 r16.1.Cap, .int .i64 r16.1.Num, .int .i64 r16.1.Den, .int .i64 r16.1.Level, .int .i64 r16.1.At], box b21 [.int .i64 r19.1.Cap, .int .i64 r19.1.Num, .int .i64 r19.1.Den, .int .i64 r19.1.Level, .int .i64 r19.1.At], box b24 [.int .i64 r22.1.Cap, .int .i64 r22.1.Num, .int .i64 r22.1.Den, .int .i64 r22.1.Level, .int .i64 r22.1.At]]) (fun σ => o35 = .go σ) (fun hL38 => ?_) ?_
    · refine any_split 70 (((decide (r16.2 ≠ 0) || decide (r19.2 ≠ 0)) || decide (r22.2 ≠ 0)) || (!(decide (r19.1.Cap = r22.1.Cap) && (decide (r19.1.Num = r22.1.Num) && (decide (r19.1.Den = r22.1.Den) && (decide (r19.1.Level = r22.1.Level) && (decide (r19.1.At = r22.1.At)))))))) rfl (fun hg39 => ?_) (fun hg39 => ?_)
      · replace h := cond_t h hg39
        refine any_no 16 rfl (by kernel_rfl) (by kernel_rfl) (by kernel_rfl) (sub_same (sub_same (sub_same (sub_same (sub_nil))))) 15 false 70 rfl rfl rfl rfl rfl ?_
        refine any_no 18 rfl (by kernel_rfl) (by kernel_rfl) (by kernel_rfl) (sub_same (sub_same (sub_same (sub_same (sub_nil))))) 15 false 70 rfl rfl rfl rfl rfl ?_
        refine any_no 17 rfl (by kernel_rfl) (by kernel_rfl) (by kernel_rfl) (sub_same (sub_same (sub_same (sub_same (sub_nil))))) 15 false 70 rfl rfl rfl rfl rfl ?_
        refine any_no 19 rfl (by kernel_rfl) (by kernel_rfl) (by kernel_rfl) (sub_same (sub_same (sub_same (sub_same (sub_nil))))) 15 false 70 rfl rfl rfl rfl rfl ?_
        refine any_no 20 rfl (by kernel_rfl) (by kernel_rfl) (by kernel_rfl) (sub_same (sub_same (sub_same (sub_same (sub_nil))))) 15 false 70 rfl rfl rfl rfl rfl ?_
        refine any_y 21 rfl (by kernel_rfl) (by kernel_rfl) (by kernel_rfl) (sub_same (sub_same (sub_same (sub_same (sub_nil))))) (wn rfl) rfl (y_pick (b := true) rfl rfl) ?_
        obtain rfl := some_eq h
        exact any_weak [(2, .int .i64 u_2), (3, .int .i64 less_3), (4, boxP b1 0), (13, boxP b24 0), (76, .bool true)] [0, 1, 2, 3] [box b1 [.int .i64 b_0.Cap, .int .i64 b_0.Num, .int .i64 b_0.Den, .int .i64 b_0.Level, .int .i64 b_0.At], box b18 [.int .i64 r16.1.Cap, .int .i64 r16.1.Num, .int .i64 r16.1.Den, .int .i64 r16.1.Level, .int .i64 r16.1.At], box b21 [.int .i64 r19.1.Cap, .int .i64 r19.1.Num, .int .i64 r19.1.Den, .int .i64 r19.1.Level, .int .i64 r19.1.At], box b24 [.int .i64 r22.1.Cap, .int .i64 r22.1.Num, .int .i64 r22.1.Den, .int .i64 r22.1.Level, .int .i64 r22.1.At]] (by kernel_rfl) (vcons rfl (vcons rfl (vcons rfl (vcons rfl (vcons rfl (vnil)))))) (by decide) rfl (hL38 true rfl)
      · replace h := cond_f h hg39
        refine any_y 16 rfl (by kernel_rfl) (by kernel_rfl) (by kernel_rfl) (sub_same (sub_same (sub_same (sub_same (sub_nil))))) (wg 15 false 70 rfl rfl rfl rfl) rfl (y_load_boxagg (c := [.int .i64 r16.1.Cap, .int .i64 r16.1.Num, .int .i64 r16.1.Den, .int .i64 r16.1.Level, .int .i64 r16.1.At]) 1 Try.isAgg23 Try.sizeOf23 rfl rfl rfl) ?_
        refine any_y 18 rfl (by kernel_rfl) (by kernel_rfl) (by kernel_rfl) (sub_same (sub_same (sub_same (sub_same (sub_nil))))) (wg 15 false 70 rfl rfl rfl rfl) rfl (y_load_boxagg (c := [.int .i64 r19.1.Cap, .int .i64 r19.1.Num, .int .i64 r19.1.Den, .int .i64 r19.1.Level, .int .i64 r19.1.At]) 2 Try.isAgg23 Try.sizeOf23 rfl rfl rfl) ?_
        refine any_all [17] (by kernel_rfl) rfl (anyo_cons ?_ anyo_nil)
        obtain ⟨r40, hr41, h⟩ := bind_some h
        refine any_t rfl (wg 15 false 70 rfl rfl rfl rfl) rfl (t_call (vs := [.agg #[.int .i64 r16.1.Cap, .int .i64 r16.1.Num, .int .i64 r16.1.Den, .int .i64 r16.1.Level, .int .i64 r16.1.At]]) (cs := []) [] rfl Try.call22 rfl (bucket_Tokens_ok r16.1  hr41) shows_nil (.inl rfl)) ?_
        rintro _ _ ⟨_, ⟨rfl, rfl⟩, rfl⟩
        refine ⟨(sub_same (sub_same (sub_same (sub_same (sub_nil))))), ?_⟩
        refine any_all [19] (by kernel_rfl) rfl (anyo_cons ?_ anyo_nil)
        obtain ⟨r42, hr43, h⟩ := bind_some h
        refine any_t rfl (wg 15 false 70 rfl rfl rfl rfl) rfl (t_call (vs := [.agg #[.int .i64 r19.1.Cap, .int .i64 r19.1.Num, .int .i64 r19.1.Den, .int .i64 r19.1.Level, .int .i64 r19.1.At]]) (cs := []) [] rfl Try.call22 rfl (bucket_Tokens_ok r19.1  hr43) shows_nil (.inl rfl)) ?_
        rintro _ _ ⟨_, ⟨rfl, rfl⟩, rfl⟩
        refine ⟨(sub_same (sub_same (sub_same (sub_same (sub_nil))))), ?_⟩
        refine any_y 20 rfl (by kernel_rfl) (by kernel_rfl) (by kernel_rfl) (sub_same (sub_same (sub_same (sub_same (sub_nil))))) (wg 15 false 70 rfl rfl rfl rfl) rfl (y_gtr rfl rfl) ?_
        refine any_y 21 rfl (by kernel_rfl) (by kernel_rfl) (by kernel_rfl) (sub_same (sub_same (sub_same (sub_same (sub_nil))))) (wn rfl) rfl (y_pick (b := false) rfl rfl) ?_
        obtain rfl := some_eq h
        exact any_weak [(2, .int .i64 u_2), (3, .int .i64 less_3), (4, boxP b1 0), (13, boxP b24 0), (76, .bool (decide (r42 < r40)))] [0, 1, 2, 3] [box b1 [.int .i64 b_0.Cap, .int .i64 b_0.Num, .int .i64 b_0.Den, .int .i64 b_0.Level, .int .i64 b_0.At], box b18 [.int .i64 r16.1.Cap, .int .i64 r16.1.Num, .int .i64 r16.1.Den, .int .i64 r16.1.Level, .int .i64 r16.1.At], box b21 [.int .i64 r19.1.Cap, .int .i64 r19.1.Num, .int .i64 r19.1.Den, .int .i64 r19.1.Level, .int .i64 r19.1.At], box b24 [.int .i64 r22.1.Cap, .int .i64 r22.1.Num, .int .i64 r22.1.Den, .int .i64 r22.1.Level, .int .i64 r22.1.At]] (by kernel_rfl) (vcons rfl (vcons rfl (vcons rfl (vcons rfl (vcons rfl (vnil)))))) (by decide) rfl (hL38 (decide (r42 < r40)) rfl)
    rintro b34 hj
    obtain rfl : o35 = _ := hj
    replace h := after_go ho36
    clear ho36
    refine any_nil (by kernel_rfl) ?_
    refine goes_code ?_
    refine run_cond b34 rfl (fun hc44 => ?_) (fun hc44 => ?_)
    · replace h := cond_t h hc44
      refine run_seq ?_
      refine run_region' ?_
      refine ops_y (wn rfl) rfl (y_assign rfl) ?_
      refine ops_nil ?_
      refine goes_code ?_
      refine run_ret ?_
      obtain rfl := some_eq h
      refine fin_slots [8] [.bool false] [] [] Try.results6 rfl (by decide) rfl ?_
      exact ⟨rfl, rfl⟩
    · replace h := cond_f h hc44
      refine run_skip ?_
      refine goes_code ?_
      refine run_seq ?_
      refine run_seq ?_
      refine run_region' ?_
      refine ops_y (wn rfl) rfl (y_move rfl) ?_
      refine ops_y (wn rfl) rfl (y_lss rfl rfl) ?_
      refine ops_y (wn rfl) rfl (y_move rfl) ?_
      refine ops_cut 5 Bool (fun σ => [(2, .int .i64 u_2), (3, .int .i64 less_3), (4, boxP b1 0), (13, boxP b24 0), (84, .bool σ)]) (fun σ => [box b1 [.int .i64 b_0.Cap, .int .i64 b_0.Num, .int .i64 b_0.Den, .int .i64 b_0.Level, .int .i64 b_0.At], box b18 [.int .i64 r16.1.Cap, .int .i64 r16.1.Num, .int .i64 r16.1.Den, .int .i64 r16.1.Level, .int .i64 r16.1.At], box b21 [.int .i64 r19.1.Cap, .int .i64 r19.1.Num, .int .i64 r19.1.Den, .int .i64 r19.1.Level, .int .i64 r19.1.At], box b24 [.int .i64 r22.1.Cap, .int .i64 r22.1.Num, .int .i64 r22.1.Den, .int .i64 r22.1.Level, .int .i64 r22.1.At]]) (fun σ => σ = (decide (less_3 < 0) || decide (b_0.Level < less_3))) (fun L45 hL46 => ?_) ?_
      · refine ops_split 79 (decide (less_3 < 0)) rfl (fun hg47 => ?_) (fun hg47 => ?_)
        · skip
          refine ops_no 2 false 79 rfl rfl rfl rfl rfl ?_
          refine ops_no 2 false 79 rfl rfl rfl rfl rfl ?_
          refine ops_no 2 false 79 rfl rfl rfl rfl rfl ?_
          refine ops_no 2 false 79 rfl rfl rfl rfl rfl ?_
          refine ops_y (wn rfl) rfl (y_pick (b := true) rfl rfl) ?_
          refine ops_nil ?_
          exact goes_cut hL46 true [0, 1, 2, 3] (vcons rfl (vcons rfl (vcons rfl (vcons rfl (vcons rfl (vnil)))))) (by decide) rfl (by rw [hg47]; simp)
        · skip
          refine ops_y (wg 2 false 79 rfl rfl rfl rfl) rfl (y_move rfl) ?_
          refine ops_y (wg 2 false 79 rfl rfl rfl rfl) rfl (y_fieldAddr_box (sz := 0) Try.runUnderlying23 rfl Try.sizeOf3 rfl) ?_
          refine ops_y (wg 2 false 79 rfl rfl rfl rfl) rfl (y_load_box 0 Try.isAgg3 rfl rfl rfl) ?_
          refine ops_y (wg 2 false 79 rfl rfl rfl rfl) rfl (y_gtr rfl rfl) ?_
          refine ops_y (wn rfl) rfl (y_pick (b := false) rfl rfl) ?_
          refine ops_nil ?_
          exact goes_cut hL46 (decide (b_0.Level < less_3)) [0, 1, 2, 3] (vcons rfl (vcons rfl (vcons rfl (vcons rfl (vcons rfl (vnil)))))) (by decide) rfl (by rw [hg47]; simp)
      rintro _ rfl
      refine ops_nil ?_
      refine goes_code ?_
      refine run_cond (decide (less_3 < 0) || decide (b_0.Level < less_3)) rfl (fun hc48 => ?_) (fun hc48 => ?_)
      · replace h := cond_t h hc48
        refine run_seq ?_
        refine run_region' ?_
        obtain ⟨r49, hr50, h⟩ := bind_some h
        refine ops_t (wn rfl) rfl (t_call (vs := []) (cs := []) [] rfl Try.call19 rfl (law12_sanity_ok n   hr50) shows_nil (.inl rfl)) ?_
        rintro _ _ ⟨_, ⟨rfl, rfl⟩, rfl⟩
        refine ops_y (wn rfl) rfl (y_assign rfl) ?_
        refine ops_nil ?_
        refine goes_code ?_
        refine run_ret ?_
        obtain rfl := some_eq h
        refine fin_slots [8] [.bool r49] [] [] Try.results6 rfl (by decide) rfl ?_
        exact ⟨rfl, rfl⟩
      · replace h := cond_f h hc48
        refine run_skip ?_
        refine goes_code ?_
        refine run_seq ?_
        refine run_region' ?_
        refine ops_y (wn rfl) rfl (y_load_boxagg (c := [.int .i64 b_0.Cap, .int .i64 b_0.Num, .int .i64 b_0.Den, .int .i64 b_0.Level, .int .i64 b_0.At]) 0 Try.isAgg23 Try.sizeOf23 rfl rfl rfl) ?_
        refine ops_t (wn rfl) rfl (t_alloc Try.zeroValue23) ?_
        rintro _ _ ⟨b51, rfl, rfl⟩
        refine ops_t (wn rfl) rfl (t_store 4 Try.sizeOf23 rfl rfl rfl rfl (by simp [Value.cells]) (by simp [Value.cells, Value.oneCell'])) ?_
        rintro _ _ ⟨rfl, rfl⟩
        refine ops_turn (retell 4 (g := box b51 [.int .i64 b_0.Cap, .int .i64 b_0.Num, .int .i64 b_0.Den, .int .i64 b_0.Level, .int .i64 b_0.At]) rfl rfl) ?_
        refine ops_nil ?_
        refine goes_code ?_
        refine run_seq ?_
        refine run_region' ?_
        refine ops_y (wn rfl) rfl (y_fieldAddr_box (sz := 0) Try.runUnderlying23 rfl Try.sizeOf3 rfl) ?_
        refine ops_y (wn rfl) rfl (y_load_box 0 Try.isAgg3 rfl rfl rfl) ?_
        refine ops_y (wn rfl) rfl (y_move rfl) ?_
        refine ops_y (wn rfl) rfl (y_sub rfl rfl) ?_
        refine ops_y (wn rfl) rfl (y_fieldAddr_box (sz := 0) Try.runUnderlying23 rfl Try.sizeOf3 rfl) ?_
        refine ops_t (wn rfl) rfl (t_store 4 Try.sizeOf3 rfl rfl rfl rfl (by simp [Value.cells]) (by simp [Value.cells, Value.oneCell'])) ?_
        rintro _ _ ⟨rfl, rfl⟩
        refine ops_turn (retell 4 (g := box b51 [.int .i64 b_0.Cap, .int .i64 b_0.Num, .int .i64 b_0.Den, .int .i64 (IntKind.i64.wrap (b_0.Level - less_3)), .int .i64 b_0.At]) rfl rfl) ?_
        refine ops_nil ?_
        refine goes_code ?_
        refine run_seq ?_
        refine run_weak [(2, .int .i64 u_2), (3, .int .i64 less_3), (13, boxP b24 0), (15, boxP b51 0)] [3, 4] [box b24 [.int .i64 r22.1.Cap, .int .i64 r22.1.Num, .int .i64 r22.1.Den, .int .i64 r22.1.Level, .int .i64 r22.1.At], box b51 [.int .i64 b_0.Cap, .int .i64 b_0.Num, .int .i64 b_0.Den, .int .i64 (IntKind.i64.wrap (b_0.Level - less_3)), .int .i64 b_0.At]] (vcons rfl (vcons rfl (vcons rfl (vcons rfl (vnil))))) (by decide) rfl ?_
        refine run_region' ?_
        refine ops_y (wn rfl) rfl (y_load_boxagg (c := [.int .i64 b_0.Cap, .int .i64 b_0.Num, .int .i64 b_0.Den, .int .i64 (IntKind.i64.wrap (b_0.Level - less_3)), .int .i64 b_0.At]) 1 Try.isAgg23 Try.sizeOf23 rfl rfl rfl) ?_
        refine ops_y (wn rfl) rfl (y_move rfl) ?_
        obtain ⟨r52, hr53, h⟩ := bind_some h
        refine ops_t (wn rfl) rfl (t_call (vs := [.agg #[.int .i64 b_0.Cap, .int .i64 b_0.Num, .int .i64 b_0.Den, .int .i64 (IntKind.i64.wrap (b_0.Level - less_3)), .int .i64 b_0.At], .int .i64 u_2]) (cs := []) [] rfl Try.call10 rfl (bucket_Refill_ok (S_api_Bucket.mk b_0.Cap b_0.Num b_0.Den (IntKind.i64.wrap (b_0.Level - less_3)) b_0.At) u_2  hr53) shows_nil (.inl rfl)) ?_
        rintro _ _ ⟨_, ⟨rfl, rfl⟩, rfl⟩
        refine ops_y (wn rfl) rfl (y_move rfl) ?_
        refine ops_y (wn rfl) rfl (y_extract rfl rfl) ?_
        refine ops_y (wn rfl) rfl (y_extract rfl rfl) ?_
        refine ops_t (wn rfl) rfl (t_alloc Try.zeroValue23) ?_
        rintro _ _ ⟨b54, rfl, rfl⟩
        refine ops_t (wn rfl) rfl (t_store 2 Try.sizeOf23 rfl rfl rfl rfl (by simp [Value.cells]) (by simp [Value.cells, Value.oneCell'])) ?_
        rintro _ _ ⟨rfl, rfl⟩
        refine ops_turn (retell 2 (g := box b54 [.int .i64 r52.1.Cap, .int .i64 r52.1.Num, .int .i64 r52.1.Den, .int .i64 r52.1.Level, .int .i64 r52.1.At]) rfl rfl) ?_
        refine ops_y (wn rfl) rfl (y_assign rfl) ?_
        refine ops_nil ?_
        refine goes_code ?_
        refine run_seq ?_
        refine run_weak [(3, .int .i64 less_3), (13, boxP b24 0), (16, boxP b54 0), (17, .int .i64 r52.2)] [0, 2] [box b24 [.int .i64 r22.1.Cap, .int .i64 r22.1.Num, .int .i64 r22.1.Den, .int .i64 r22.1.Level, .int .i64 r22.1.At], box b54 [.int .i64 r52.1.Cap, .int .i64 r52.1.Num, .int .i64 r52.1.Den, .int .i64 r52.1.Level, .int .i64 r52.1.At]] (vcons rfl (vcons rfl (vcons rfl (vcons rfl (vnil))))) (by decide) rfl ?_
        refine run_region' ?_
        obtain ⟨r55, hr56, h⟩ := bind_some h
        refine ops_t (wn rfl) rfl (t_call (vs := []) (cs := []) [] rfl Try.call19 rfl (law12_sanity_ok n   hr56) shows_nil (.inl rfl)) ?_
        rintro _ _ ⟨_, ⟨rfl, rfl⟩, rfl⟩
        refine ops_y (wn rfl) rfl (y_move rfl) ?_
        refine ops_cut 3 Bool (fun σ => [(3, .int .i64 less_3), (13, boxP b24 0), (16, boxP b54 0), (102, .bool σ)]) (fun σ => [box b24 [.int .i64 r22.1.Cap, .int .i64 r22.1.Num, .int .i64 r22.1.Den, .int .i64 r22.1.Level, .int .i64 r22.1.At], box b54 [.int .i64 r52.1.Cap, .int .i64 r52.1.Num, .int .i64 r52.1.Den, .int .i64 r52.1.Level, .int .i64 r52.1.At]]) (fun σ => σ = (r55 && decide (r52.2 = 0))) (fun L57 hL58 => ?_) ?_
        · refine ops_split 99 r55 rfl (fun hg59 => ?_) (fun hg59 => ?_)
          · skip
            refine ops_y (wg 1 true 99 rfl rfl rfl rfl) rfl (y_move rfl) ?_
            refine ops_y (wg 1 true 99 rfl rfl rfl rfl) rfl (y_eql rfl rfl) ?_
            refine ops_y (wn rfl) rfl (y_pick (b := true) rfl rfl) ?_
            refine ops_nil ?_
            exact goes_cut hL58 (decide (r52.2 = 0)) [0, 1] (vcons rfl (vcons rfl (vcons rfl (vcons rfl (vnil))))) (by decide) rfl (by rw [hg59]; simp)
          · skip
            refine ops_no 1 true 99 rfl rfl rfl rfl rfl ?_
            refine ops_no 1 true 99 rfl rfl rfl rfl rfl ?_
            refine ops_y (wn rfl) rfl (y_pick (b := false) rfl rfl) ?_
            refine ops_nil ?_
            exact goes_cut hL58 false [0, 1] (vcons rfl (vcons rfl (vcons rfl (vcons rfl (vnil))))) (by decide) rfl (by rw [hg59]; simp)
        rintro _ rfl
        refine ops_y (wn rfl) rfl (y_move rfl) ?_
        refine ops_cut 6 Bool (fun σ => [(3, .int .i64 less_3), (13, boxP b24 0), (16, boxP b54 0), (109, .bool σ)]) (fun σ => [box b24 [.int .i64 r22.1.Cap, .int .i64 r22.1.Num, .int .i64 r22.1.Den, .int .i64 r22.1.Level, .int .i64 r22.1.At], box b54 [.int .i64 r52.1.Cap, .int .i64 r52.1.Num, .int .i64 r52.1.Den, .int .i64 r52.1.Level, .int .i64 r52.1.At]]) (fun σ => σ = ((r55 && decide (r52.2 = 0)) && decide (r52.1.Level ≤ r22.1.Level))) (fun L60 hL61 => ?_) ?_
        · refine ops_split 103 (r55 && decide (r52.2 = 0)) rfl (fun hg62 => ?_) (fun hg62 => ?_)
          · skip
            refine ops_y (wg 5 true 103 rfl rfl rfl rfl) rfl (y_fieldAddr_box (sz := 0) Try.runUnderlying23 rfl Try.sizeOf3 rfl) ?_
            refine ops_y (wg 5 true 103 rfl rfl rfl rfl) rfl (y_load_box 1 Try.isAgg3 rfl rfl rfl) ?_
            refine ops_y (wg 5 true 103 rfl rfl rfl rfl) rfl (y_fieldAddr_box (sz := 0) Try.runUnderlying23 rfl Try.sizeOf3 rfl) ?_
            refine ops_y (wg 5 true 103 rfl rfl rfl rfl) rfl (y_load_box 0 Try.isAgg3 rfl rfl rfl) ?_
            refine ops_y (wg 5 true 103 rfl rfl rfl rfl) rfl (y_leq rfl rfl) ?_
            refine ops_y (wn rfl) rfl (y_pick (b := true) rfl rfl) ?_
            refine ops_nil ?_
            exact goes_cut hL61 (decide (r52.1.Level ≤ r22.1.Level)) [0, 1] (vcons rfl (vcons rfl (vcons rfl (vcons rfl (vnil))))) (by decide) rfl (by rw [hg62]; simp)
          · skip
            refine ops_no 5 true 103 rfl rfl rfl rfl rfl ?_
            refine ops_no 5 true 103 rfl rfl rfl rfl rfl ?_
            refine ops_no 5 true 103 rfl rfl rfl rfl rfl ?_
            refine ops_no 5 true 103 rfl rfl rfl rfl rfl ?_
            refine ops_no 5 true 103 rfl rfl rfl rfl rfl ?_
            refine ops_y (wn rfl) rfl (y_pick (b := false) rfl rfl) ?_
            refine ops_nil ?_
            exact goes_cut hL61 false [0, 1] (vcons rfl (vcons rfl (vcons rfl (vcons rfl (vnil))))) (by decide) rfl (by rw [hg62]; simp)
        rintro _ rfl
        refine ops_y (wn rfl) rfl (y_move rfl) ?_
        refine ops_cut 8 Bool (fun σ => [(118, .bool σ)]) (fun σ => [box b24 [.int .i64 r22.1.Cap, .int .i64 r22.1.Num, .int .i64 r22.1.Den, .int .i64 r22.1.Level, .int .i64 r22.1.At], box b54 [.int .i64 r52.1.Cap, .int .i64 r52.1.Num, .int .i64 r52.1.Den, .int .i64 r52.1.Level, .int .i64 r52.1.At]]) (fun σ => σ = (((r55 && decide (r52.2 = 0)) && decide (r52.1.Level ≤ r22.1.Level)) && decide ((IntKind.i64.wrap (r22.1.Level - r52.1.Level)) ≤ less_3))) (fun L63 hL64 => ?_) ?_
        · refine ops_split 110 ((r55 && decide (r52.2 = 0)) && decide (r52.1.Level ≤ r22.1.Level)) rfl (fun hg65 => ?_) (fun hg65 => ?_)
          · skip
            refine ops_y (wg 12 true 110 rfl rfl rfl rfl) rfl (y_fieldAddr_box (sz := 0) Try.runUnderlying23 rfl Try.sizeOf3 rfl) ?_
            refine ops_y (wg 12 true 110 rfl rfl rfl rfl) rfl (y_load_box 0 Try.isAgg3 rfl rfl rfl) ?_
            refine ops_y (wg 12 true 110 rfl rfl rfl rfl) rfl (y_fieldAddr_box (sz := 0) Try.runUnderlying23 rfl Try.sizeOf3 rfl) ?_
            refine ops_y (wg 12 true 110 rfl rfl rfl rfl) rfl (y_load_box 1 Try.isAgg3 rfl rfl rfl) ?_
            refine ops_y (wg 12 true 110 rfl rfl rfl rfl) rfl (y_sub rfl rfl) ?_
            refine ops_y (wg 12 true 110 rfl rfl rfl rfl) rfl (y_move rfl) ?_
            refine ops_y (wg 12 true 110 rfl rfl rfl rfl) rfl (y_leq rfl rfl) ?_
            refine ops_y (wn rfl) rfl (y_pick (b := true) rfl rfl) ?_
            refine ops_nil ?_
            exact goes_cut hL64 (decide ((IntKind.i64.wrap (r22.1.Level - r52.1.Level)) ≤ less_3)) [0, 1] (vcons rfl (vnil)) (by decide) rfl (by rw [hg65]; simp)
          · skip
            refine ops_no 12 true 110 rfl rfl rfl rfl rfl ?_
            refine ops_no 12 true 110 rfl rfl rfl rfl rfl ?_
            refine ops_no 12 true 110 rfl rfl rfl rfl rfl ?_
            refine ops_no 12 true 110 rfl rfl rfl rfl rfl ?_
            refine ops_no 12 true 110 rfl rfl rfl rfl rfl ?_
            refine ops_no 12 true 110 rfl rfl rfl rfl rfl ?_
            refine ops_no 12 true 110 rfl rfl rfl rfl rfl ?_
            refine ops_y (wn rfl) rfl (y_pick (b := false) rfl rfl) ?_
            refine ops_nil ?_
            exact goes_cut hL64 false [0, 1] (vcons rfl (vnil)) (by decide) rfl (by rw [hg65]; simp)
        rintro _ rfl
        refine ops_y (wn rfl) rfl (y_assign rfl) ?_
        refine ops_nil ?_
        refine goes_code ?_
        refine run_ret ?_
        obtain rfl := some_eq h
        refine fin_slots [8] [.bool (((r55 && decide (r52.2 = 0)) && decide (r52.1.Level ≤ r22.1.Level)) && decide ((IntKind.i64.wrap (r22.1.Level - r52.1.Level)) ≤ less_3))] [] [] Try.results6 rfl (by decide) rfl ?_
        exact ⟨rfl, rfl⟩

end Go.Proofs.Ytpalglggjndmlaa
