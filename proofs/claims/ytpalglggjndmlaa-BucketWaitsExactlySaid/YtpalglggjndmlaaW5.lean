/-
  The law BucketWaitsExactly, lifted.
-/
import Derived.Test.YtpalglggjndmlaaFb
namespace Go.Proofs.Ytpalglggjndmlaa
open Go.Abs
set_option linter.unusedVariables false
set_option linter.unusedSimpArgs false
set_option maxRecDepth 20000


def law12_BucketWaitsExactly (n : Nat) (b_0 : S_api_Bucket) (n_1 : Int) (at_2 : Int) : Option (Bool) :=
  (bucket_Valid b_0).bind fun r2 =>
  cond (((!r2) || decide (n_1 < 1)) || decide (1073741824 < n_1))
    ((law12_sanity n).bind fun r11 =>
    some r11)
    ((bucket_Wait b_0 n_1).bind fun r13 =>
    cond (decide (r13.2 ≠ 0))
      (bindJ (S := Int)
        (cond (decide (at_2 < b_0.At) || decide (1099511627776 < at_2))
          (some (.go 1099511627776))
          (some (.go at_2)))
      (fun at_16 =>
        (bucket_Take b_0 at_16 n_1).bind fun r25 =>
        (law12_sanity n).bind fun r28 =>
        some ((r28 && decide (r25.2 = 4)) && (decide (r13.2 = 2) || decide (r13.2 = 4)))))
      ((bucket_Take b_0 r13.1 n_1).bind fun r39 =>
      cond (decide (r13.1 < b_0.At) || decide (r39.2 ≠ 0))
        (some false)
        (bindJ (S := Int)
          (cond (decide (r13.1 ≤ at_2) || decide (at_2 < b_0.At))
            (some (.go (IntKind.i64.wrap (r13.1 - 1))))
            (some (.go at_2)))
        (fun at_46 =>
          cond (decide (at_46 < b_0.At))
            ((law12_sanity n).bind fun r56 =>
            some r56)
            ((bucket_Take b_0 at_46 n_1).bind fun r58 =>
            (law12_sanity n).bind fun r61 =>
            some (r61 && decide (r58.2 = 4)))))))
theorem law12_BucketWaitsExactly_ok (n : Nat) (b_0 : S_api_Bucket) (n_1 : Int) (at_2 : Int)  {r : Bool} (h : law12_BucketWaitsExactly n b_0 n_1 at_2 = some r) :
    Meets Try.prog 5 [.agg #[.int .i64 b_0.Cap, .int .i64 b_0.Num, .int .i64 b_0.Den, .int .i64 b_0.Level, .int .i64 b_0.At], .int .i64 n_1, .int .i64 at_2] [] (fun v G => v = .bool r ∧ G = []) := by
  refine fn_of_run Try.func5 rfl Try.ntmps5 rfl (fun w0 o0 => ?_)
  refine run_seq ?_
  refine run_region' ?_
  refine ops_t (wn rfl) rfl (t_box rfl) ?_
  rintro _ _ ⟨b1, rfl, rfl⟩
  refine ops_y (wn rfl) rfl (y_assign rfl) ?_
  refine ops_nil ?_
  refine goes_code ?_
  refine run_seq ?_
  refine run_seq ?_
  refine run_region' ?_
  refine ops_y (wn rfl) rfl (y_load_boxagg (c := [.int .i64 b_0.Cap, .int .i64 b_0.Num, .int .i64 b_0.Den, .int .i64 b_0.Level, .int .i64 b_0.At]) 0 Try.isAgg23 Try.sizeOf23 rfl rfl rfl) ?_
  obtain ⟨r2, hr3, h⟩ := bind_some h
  refine ops_t (wn rfl) rfl (t_call (vs := [.agg #[.int .i64 b_0.Cap, .int .i64 b_0.Num, .int .i64 b_0.Den, .int .i64 b_0.Level, .int .i64 b_0.At]]) (cs := []) [] rfl Try.call20 rfl (bucket_Valid_ok b_0  hr3) shows_nil (.inl rfl)) ?_
  rintro _ _ ⟨_, ⟨rfl, rfl⟩, rfl⟩
  refine ops_y (wn rfl) rfl (y_not rfl) ?_
  refine ops_y (wn rfl) rfl (y_move rfl) ?_
  refine ops_cut 3 Bool (fun σ => [(1, .int .i64 n_1), (2, .int .i64 at_2), (3, boxP b1 0), (21, .bool σ)]) (fun σ => [box b1 [.int .i64 b_0.Cap, .int .i64 b_0.Num, .int .i64 b_0.Den, .int .i64 b_0.Level, .int .i64 b_0.At]]) (fun σ => σ = ((!r2) || decide (n_1 < 1))) (fun L4 hL5 => ?_) ?_
  · refine ops_split 18 (!r2) rfl (fun hg6 => ?_) (fun hg6 => ?_)
    · skip
      refine ops_no 3 false 18 rfl rfl rfl rfl rfl ?_
      refine ops_no 3 false 18 rfl rfl rfl rfl rfl ?_
      refine ops_y (wn rfl) rfl (y_pick (b := true) rfl rfl) ?_
      refine ops_nil ?_
      exact goes_cut hL5 true [0] (vcons rfl (vcons rfl (vcons rfl (vcons rfl (vnil))))) (by decide) rfl (by rw [hg6]; simp)
    · skip
      refine ops_y (wg 3 false 18 rfl rfl rfl rfl) rfl (y_move rfl) ?_
      refine ops_y (wg 3 false 18 rfl rfl rfl rfl) rfl (y_lss rfl rfl) ?_
      refine ops_y (wn rfl) rfl (y_pick (b := false) rfl rfl) ?_
      refine ops_nil ?_
      exact goes_cut hL5 (decide (n_1 < 1)) [0] (vcons rfl (vcons rfl (vcons rfl (vcons rfl (vnil))))) (by decide) rfl (by rw [hg6]; simp)
  rintro _ rfl
  refine ops_y (wn rfl) rfl (y_move rfl) ?_
  refine ops_cut 3 Bool (fun σ => [(1, .int .i64 n_1), (2, .int .i64 at_2), (3, boxP b1 0), (25, .bool σ)]) (fun σ => [box b1 [.int .i64 b_0.Cap, .int .i64 b_0.Num, .int .i64 b_0.Den, .int .i64 b_0.Level, .int .i64 b_0.At]]) (fun σ => σ = (((!r2) || decide (n_1 < 1)) || decide (1073741824 < n_1))) (fun L7 hL8 => ?_) ?_
  · refine ops_split 22 ((!r2) || decide (n_1 < 1)) rfl (fun hg9 => ?_) (fun hg9 => ?_)
    · skip
      refine ops_no 7 false 22 rfl rfl rfl rfl rfl ?_
      refine ops_no 7 false 22 rfl rfl rfl rfl rfl ?_
      refine ops_y (wn rfl) rfl (y_pick (b := true) rfl rfl) ?_
      refine ops_nil ?_
      exact goes_cut hL8 true [0] (vcons rfl (vcons rfl (vcons rfl (vcons rfl (vnil))))) (by decide) rfl (by rw [hg9]; simp)
    · skip
      refine ops_y (wg 7 false 22 rfl rfl rfl rfl) rfl (y_move rfl) ?_
      refine ops_y (wg 7 false 22 rfl rfl rfl rfl) rfl (y_gtr rfl rfl) ?_
      refine ops_y (wn rfl) rfl (y_pick (b := false) rfl rfl) ?_
      refine ops_nil ?_
      exact goes_cut hL8 (decide (1073741824 < n_1)) [0] (vcons rfl (vcons rfl (vcons rfl (vcons rfl (vnil))))) (by decide) rfl (by rw [hg9]; simp)
  rintro _ rfl
  refine ops_nil ?_
  refine goes_code ?_
  refine run_cond (((!r2) || decide (n_1 < 1)) || decide (1073741824 < n_1)) rfl (fun hc10 => ?_) (fun hc10 => ?_)
  · replace h := cond_t h hc10
    refine run_seq ?_
    refine run_region' ?_
    obtain ⟨r11, hr12, h⟩ := bind_some h
    refine ops_t (wn rfl) rfl (t_call (vs := []) (cs := []) [] rfl Try.call19 rfl (law12_sanity_ok n   hr12) shows_nil (.inl rfl)) ?_
    rintro _ _ ⟨_, ⟨rfl, rfl⟩, rfl⟩
    refine ops_y (wn rfl) rfl (y_assign rfl) ?_
    refine ops_nil ?_
    refine goes_code ?_
    refine run_ret ?_
    obtain rfl := some_eq h
    refine fin_slots [6] [.bool r11] [] [] Try.results5 rfl (by decide) rfl ?_
    exact ⟨rfl, rfl⟩
  · replace h := cond_f h hc10
    refine run_skip ?_
    refine goes_code ?_
    refine run_seq ?_
    refine run_region' ?_
    refine ops_y (wn rfl) rfl (y_load_boxagg (c := [.int .i64 b_0.Cap, .int .i64 b_0.Num, .int .i64 b_0.Den, .int .i64 b_0.Level, .int .i64 b_0.At]) 0 Try.isAgg23 Try.sizeOf23 rfl rfl rfl) ?_
    refine ops_y (wn rfl) rfl (y_move rfl) ?_
    obtain ⟨r13, hr14, h⟩ := bind_some h
    refine ops_t (wn rfl) rfl (t_call (vs := [.agg #[.int .i64 b_0.Cap, .int .i64 b_0.Num, .int .i64 b_0.Den, .int .i64 b_0.Level, .int .i64 b_0.At], .int .i64 n_1]) (cs := []) [] rfl Try.call12 rfl (bucket_Wait_ok b_0 n_1  hr14) shows_nil (.inl rfl)) ?_
    rintro _ _ ⟨_, ⟨rfl, rfl⟩, rfl⟩
    refine ops_y (wn rfl) rfl (y_move rfl) ?_
    refine ops_y (wn rfl) rfl (y_extract rfl rfl) ?_
    refine ops_y (wn rfl) rfl (y_extract rfl rfl) ?_
    refine ops_y (wn rfl) rfl (y_assign rfl) ?_
    refine ops_y (wn rfl) rfl (y_assign rfl) ?_
    refine ops_nil ?_
    refine goes_code ?_
    refine run_seq ?_
    refine run_seq ?_
    refine run_weak [(1, .int .i64 n_1), (2, .int .i64 at_2), (3, boxP b1 0), (7, .int .i64 r13.1), (8, .int .i64 r13.2)] [0] [box b1 [.int .i64 b_0.Cap, .int .i64 b_0.Num, .int .i64 b_0.Den, .int .i64 b_0.Level, .int .i64 b_0.At]] (vcons rfl (vcons rfl (vcons rfl (vcons rfl (vcons rfl (vnil)))))) (by decide) rfl ?_
    refine run_region' ?_
    refine ops_y (wn rfl) rfl (y_move rfl) ?_
    refine ops_y (wn rfl) rfl (y_neq rfl rfl) ?_
    refine ops_nil ?_
    refine goes_code ?_
    refine run_cond (decide (r13.2 ≠ 0)) rfl (fun hc15 => ?_) (fun hc15 => ?_)
    · replace h := cond_t h hc15
      obtain ⟨o17, h, ho18⟩ := bindJ_some h
      refine run_cut ((Int) × (Unit)) (fun σ => [(1, .int .i64 n_1), (2, .int .i64 σ.1), (3, boxP b1 0), (8, .int .i64 r13.2)]) (fun σ => [box b1 [.int .i64 b_0.Cap, .int .i64 b_0.Num, .int .i64 b_0.Den, .int .i64 b_0.Level, .int .i64 b_0.At]]) (fun σ => o17 = .go σ.1) (fun L20 hL19 => ?_) ?_
      · -- the ways through
        refine run_seq ?_
        refine run_region' ?_
        refine ops_y (wn rfl) rfl (y_move rfl) ?_
        refine ops_y (wn rfl) rfl (y_fieldAddr_box (sz := 0) Try.runUnderlying23 rfl Try.sizeOf3 rfl) ?_
        refine ops_y (wn rfl) rfl (y_load_box 0 Try.isAgg3 rfl rfl rfl) ?_
        refine ops_y (wn rfl) rfl (y_lss rfl rfl) ?_
        refine ops_y (wn rfl) rfl (y_move rfl) ?_
        refine ops_cut 3 Bool (fun σ => [(1, .int .i64 n_1), (2, .int .i64 at_2), (3, boxP b1 0), (8, .int .i64 r13.2), (42, .bool σ)]) (fun σ => [box b1 [.int .i64 b_0.Cap, .int .i64 b_0.Num, .int .i64 b_0.Den, .int .i64 b_0.Level, .int .i64 b_0.At]]) (fun σ => σ = (decide (at_2 < b_0.At) || decide (1099511627776 < at_2))) (fun L21 hL22 => ?_) ?_
        · refine ops_split 39 (decide (at_2 < b_0.At)) rfl (fun hg23 => ?_) (fun hg23 => ?_)
          · skip
            refine ops_no 4 false 39 rfl rfl rfl rfl rfl ?_
            refine ops_no 4 false 39 rfl rfl rfl rfl rfl ?_
            refine ops_y (wn rfl) rfl (y_pick (b := true) rfl rfl) ?_
            refine ops_nil ?_
            exact goes_cut hL22 true [0] (vcons rfl (vcons rfl (vcons rfl (vcons rfl (vcons rfl (vnil)))))) (by decide) rfl (by rw [hg23]; simp)
          · skip
            refine ops_y (wg 4 false 39 rfl rfl rfl rfl) rfl (y_move rfl) ?_
            refine ops_y (wg 4 false 39 rfl rfl rfl rfl) rfl (y_gtr rfl rfl) ?_
            refine ops_y (wn rfl) rfl (y_pick (b := false) rfl rfl) ?_
            refine ops_nil ?_
            exact goes_cut hL22 (decide (1099511627776 < at_2)) [0] (vcons rfl (vcons rfl (vcons rfl (vcons rfl (vcons rfl (vnil)))))) (by decide) rfl (by rw [hg23]; simp)
        rintro _ rfl
        refine ops_nil ?_
        refine goes_code ?_
        refine run_cond (decide (at_2 < b_0.At) || decide (1099511627776 < at_2)) rfl (fun hc24 => ?_) (fun hc24 => ?_)
        · replace h := cond_t h hc24
          refine run_region' ?_
          refine ops_y (wn rfl) rfl (y_assign rfl) ?_
          refine ops_nil ?_
          obtain rfl := some_eq h
          exact goes_cut hL19 (1099511627776, ()) [0] (vcons rfl (vcons rfl (vcons rfl (vcons rfl (vnil))))) (by decide) rfl rfl
        · replace h := cond_f h hc24
          refine run_skip ?_
          obtain rfl := some_eq h
          exact goes_cut hL19 (at_2, ()) [0] (vcons rfl (vcons rfl (vcons rfl (vcons rfl (vnil))))) (by decide) rfl rfl
      rintro ⟨at_16, _⟩ hj
      obtain rfl : o17 = _ := hj
      replace h := after_go ho18
      clear ho18
      change Run _ _ _ (VF.of [(1, .int .i64 n_1), (2, .int .i64 at_16), (3, boxP b1 0), (8, .int .i64 r13.2)]) [box b1 [.int .i64 b_0.Cap, .int .i64 b_0.Num, .int .i64 b_0.Den, .int .i64 b_0.Level, .int .i64 b_0.At]]
      refine run_seq ?_
      refine run_region' ?_
      refine ops_y (wn rfl) rfl (y_load_boxagg (c := [.int .i64 b_0.Cap, .int .i64 b_0.Num, .int .i64 b_0.Den, .int .i64 b_0.Level, .int .i64 b_0.At]) 0 Try.isAgg23 Try.sizeOf23 rfl rfl rfl) ?_
      refine ops_y (wn rfl) rfl (y_move rfl) ?_
      refine ops_y (wn rfl) rfl (y_move rfl) ?_
      obtain ⟨r25, hr26, h⟩ := bind_some h
      refine ops_t (wn rfl) rfl (t_call (vs := [.agg #[.int .i64 b_0.Cap, .int .i64 b_0.Num, .int .i64 b_0.Den, .int .i64 b_0.Level, .int .i64 b_0.At], .int .i64 at_16, .int .i64 n_1]) (cs := []) [] rfl Try.call11 rfl (bucket_Take_ok b_0 at_16 n_1  hr26) shows_nil (.inl rfl)) ?_
      rintro _ _ ⟨_, ⟨rfl, rfl⟩, rfl⟩
      refine ops_y (wn rfl) rfl (y_move rfl) ?_
      refine ops_y (wn rfl) rfl (y_extract rfl rfl) ?_
      refine ops_y (wn rfl) rfl (y_extract rfl rfl) ?_
      refine ops_t (wn rfl) rfl (t_alloc Try.zeroValue23) ?_
      rintro _ _ ⟨b27, rfl, rfl⟩
      refine ops_t (wn rfl) rfl (t_store 1 Try.sizeOf23 rfl rfl rfl rfl (by simp [Value.cells]) (by simp [Value.cells, Value.oneCell'])) ?_
      rintro _ _ ⟨rfl, rfl⟩
      refine ops_turn (retell 1 (g := box b27 [.int .i64 r25.1.Cap, .int .i64 r25.1.Num, .int .i64 r25.1.Den, .int .i64 r25.1.Level, .int .i64 r25.1.At]) rfl rfl) ?_
      refine ops_y (wn rfl) rfl (y_assign rfl) ?_
      refine ops_nil ?_
      refine goes_code ?_
      refine run_seq ?_
      refine run_weak [(8, .int .i64 r13.2), (10, .int .i64 r25.2)] [] [] (vcons rfl (vcons rfl (vnil))) (by decide) rfl ?_
      refine run_region' ?_
      obtain ⟨r28, hr29, h⟩ := bind_some h
      refine ops_t (wn rfl) rfl (t_call (vs := []) (cs := []) [] rfl Try.call19 rfl (law12_sanity_ok n   hr29) shows_nil (.inl rfl)) ?_
      rintro _ _ ⟨_, ⟨rfl, rfl⟩, rfl⟩
      refine ops_y (wn rfl) rfl (y_move rfl) ?_
      refine ops_cut 3 Bool (fun σ => [(8, .int .i64 r13.2), (54, .bool σ)]) (fun σ => []) (fun σ => σ = (r28 && decide (r25.2 = 4))) (fun L30 hL31 => ?_) ?_
      · refine ops_split 51 r28 rfl (fun hg32 => ?_) (fun hg32 => ?_)
        · skip
          refine ops_y (wg 1 true 51 rfl rfl rfl rfl) rfl (y_move rfl) ?_
          refine ops_y (wg 1 true 51 rfl rfl rfl rfl) rfl (y_eql rfl rfl) ?_
          refine ops_y (wn rfl) rfl (y_pick (b := true) rfl rfl) ?_
          refine ops_nil ?_
          exact goes_cut hL31 (decide (r25.2 = 4)) [] (vcons rfl (vcons rfl (vnil))) (by decide) rfl (by rw [hg32]; simp)
        · skip
          refine ops_no 1 true 51 rfl rfl rfl rfl rfl ?_
          refine ops_no 1 true 51 rfl rfl rfl rfl rfl ?_
          refine ops_y (wn rfl) rfl (y_pick (b := false) rfl rfl) ?_
          refine ops_nil ?_
          exact goes_cut hL31 false [] (vcons rfl (vcons rfl (vnil))) (by decide) rfl (by rw [hg32]; simp)
      rintro _ rfl
      refine ops_y (wn rfl) rfl (y_move rfl) ?_
      refine ops_cut 7 Bool (fun σ => [(62, .bool σ)]) (fun σ => []) (fun σ => σ = ((r28 && decide (r25.2 = 4)) && (decide (r13.2 = 2) || decide (r13.2 = 4)))) (fun L33 hL34 => ?_) ?_
      · refine ops_split 55 (r28 && decide (r25.2 = 4)) rfl (fun hg35 => ?_) (fun hg35 => ?_)
        · skip
          refine ops_y (wg 5 true 55 rfl rfl rfl rfl) rfl (y_move rfl) ?_
          refine ops_y (wg 5 true 55 rfl rfl rfl rfl) rfl (y_eql rfl rfl) ?_
          refine ops_y (wg 5 true 55 rfl rfl rfl rfl) rfl (y_move rfl) ?_
          refine ops_cut 3 Bool (fun σ => [(55, .bool true), (61, .bool σ)]) (fun σ => []) (fun σ => σ = (decide (r13.2 = 2) || decide (r13.2 = 4))) (fun L36 hL37 => ?_) ?_
          · refine ops_split 58 (decide (r13.2 = 2)) rfl (fun hg38 => ?_) (fun hg38 => ?_)
            · skip
              refine ops_no 8 false 58 rfl rfl rfl rfl rfl ?_
              refine ops_no 8 false 58 rfl rfl rfl rfl rfl ?_
              refine ops_y (wg 5 true 55 rfl rfl rfl rfl) rfl (y_pick (b := true) rfl rfl) ?_
              refine ops_nil ?_
              exact goes_cut hL37 true [] (vcons rfl (vcons rfl (vnil))) (by decide) rfl (by rw [hg38]; simp)
            · skip
              refine ops_y (wg 8 false 58 rfl rfl rfl rfl) rfl (y_move rfl) ?_
              refine ops_y (wg 8 false 58 rfl rfl rfl rfl) rfl (y_eql rfl rfl) ?_
              refine ops_y (wg 5 true 55 rfl rfl rfl rfl) rfl (y_pick (b := false) rfl rfl) ?_
              refine ops_nil ?_
              exact goes_cut hL37 (decide (r13.2 = 4)) [] (vcons rfl (vcons rfl (vnil))) (by decide) rfl (by rw [hg38]; simp)
          rintro _ rfl
          refine ops_y (wn rfl) rfl (y_pick (b := true) rfl rfl) ?_
          refine ops_nil ?_
          exact goes_cut hL34 (decide (r13.2 = 2) || decide (r13.2 = 4)) [] (vcons rfl (vnil)) (by decide) rfl (by rw [hg35]; simp)
        · skip
          refine ops_no 5 true 55 rfl rfl rfl rfl rfl ?_
          refine ops_no 5 true 55 rfl rfl rfl rfl rfl ?_
          refine ops_no 5 true 55 rfl rfl rfl rfl rfl ?_
          refine ops_un 8 false 58 rfl rfl rfl rfl rfl ?_
          refine ops_un 8 false 58 rfl rfl rfl rfl rfl ?_
          refine ops_no 5 true 55 rfl rfl rfl rfl rfl ?_
          refine ops_y (wn rfl) rfl (y_pick (b := false) rfl rfl) ?_
          refine ops_nil ?_
          exact goes_cut hL34 false [] (vcons rfl (vnil)) (by decide) rfl (by rw [hg35]; simp)
      rintro _ rfl
      refine ops_y (wn rfl) rfl (y_assign rfl) ?_
      refine ops_nil ?_
      refine goes_code ?_
      refine run_ret ?_
      obtain rfl := some_eq h
      refine fin_slots [6] [.bool ((r28 && decide (r25.2 = 4)) && (decide (r13.2 = 2) || decide (r13.2 = 4)))] [] [] Try.results5 rfl (by decide) rfl ?_
      exact ⟨rfl, rfl⟩
    · replace h := cond_f h hc15
      refine run_skip ?_
      refine goes_code ?_
      refine run_seq ?_
      refine run_region' ?_
      refine ops_y (wn rfl) rfl (y_load_boxagg (c := [.int .i64 b_0.Cap, .int .i64 b_0.Num, .int .i64 b_0.Den, .int .i64 b_0.Level, .int .i64 b_0.At]) 0 Try.isAgg23 Try.sizeOf23 rfl rfl rfl) ?_
      refine ops_y (wn rfl) rfl (y_move rfl) ?_
      refine ops_y (wn rfl) rfl (y_move rfl) ?_
      obtain ⟨r39, hr40, h⟩ := bind_some h
      refine ops_t (wn rfl) rfl (t_call (vs := [.agg #[.int .i64 b_0.Cap, .int .i64 b_0.Num, .int .i64 b_0.Den, .int .i64 b_0.Level, .int .i64 b_0.At], .int .i64 r13.1, .int .i64 n_1]) (cs := []) [] rfl Try.call11 rfl (bucket_Take_ok b_0 r13.1 n_1  hr40) shows_nil (.inl rfl)) ?_
      rintro _ _ ⟨_, ⟨rfl, rfl⟩, rfl⟩
      refine ops_y (wn rfl) rfl (y_move rfl) ?_
      refine ops_y (wn rfl) rfl (y_extract rfl rfl) ?_
      refine ops_y (wn rfl) rfl (y_extract rfl rfl) ?_
      refine ops_t (wn rfl) rfl (t_alloc Try.zeroValue23) ?_
      rintro _ _ ⟨b41, rfl, rfl⟩
      refine ops_t (wn rfl) rfl (t_store 1 Try.sizeOf23 rfl rfl rfl rfl (by simp [Value.cells]) (by simp [Value.cells, Value.oneCell'])) ?_
      rintro _ _ ⟨rfl, rfl⟩
      refine ops_turn (retell 1 (g := box b41 [.int .i64 r39.1.Cap, .int .i64 r39.1.Num, .int .i64 r39.1.Den, .int .i64 r39.1.Level, .int .i64 r39.1.At]) rfl rfl) ?_
      refine ops_y (wn rfl) rfl (y_assign rfl) ?_
      refine ops_nil ?_
      refine goes_code ?_
      refine run_seq ?_
      refine run_seq ?_
      refine run_weak [(1, .int .i64 n_1), (2, .int .i64 at_2), (3, boxP b1 0), (7, .int .i64 r13.1), (12, .int .i64 r39.2)] [0] [box b1 [.int .i64 b_0.Cap, .int .i64 b_0.Num, .int .i64 b_0.Den, .int .i64 b_0.Level, .int .i64 b_0.At]] (vcons rfl (vcons rfl (vcons rfl (vcons rfl (vcons rfl (vnil)))))) (by decide) rfl ?_
      refine run_region' ?_
      refine ops_y (wn rfl) rfl (y_move rfl) ?_
      refine ops_y (wn rfl) rfl (y_fieldAddr_box (sz := 0) Try.runUnderlying23 rfl Try.sizeOf3 rfl) ?_
      refine ops_y (wn rfl) rfl (y_load_box 0 Try.isAgg3 rfl rfl rfl) ?_
      refine ops_y (wn rfl) rfl (y_lss rfl rfl) ?_
      refine ops_y (wn rfl) rfl (y_move rfl) ?_
      refine ops_cut 3 Bool (fun σ => [(1, .int .i64 n_1), (2, .int .i64 at_2), (3, boxP b1 0), (7, .int .i64 r13.1), (77, .bool σ)]) (fun σ => [box b1 [.int .i64 b_0.Cap, .int .i64 b_0.Num, .int .i64 b_0.Den, .int .i64 b_0.Level, .int .i64 b_0.At]]) (fun σ => σ = (decide (r13.1 < b_0.At) || decide (r39.2 ≠ 0))) (fun L42 hL43 => ?_) ?_
      · refine ops_split 74 (decide (r13.1 < b_0.At)) rfl (fun hg44 => ?_) (fun hg44 => ?_)
        · skip
          refine ops_no 4 false 74 rfl rfl rfl rfl rfl ?_
          refine ops_no 4 false 74 rfl rfl rfl rfl rfl ?_
          refine ops_y (wn rfl) rfl (y_pick (b := true) rfl rfl) ?_
          refine ops_nil ?_
          exact goes_cut hL43 true [0] (vcons rfl (vcons rfl (vcons rfl (vcons rfl (vcons rfl (vnil)))))) (by decide) rfl (by rw [hg44]; simp)
        · skip
          refine ops_y (wg 4 false 74 rfl rfl rfl rfl) rfl (y_move rfl) ?_
          refine ops_y (wg 4 false 74 rfl rfl rfl rfl) rfl (y_neq rfl rfl) ?_
          refine ops_y (wn rfl) rfl (y_pick (b := false) rfl rfl) ?_
          refine ops_nil ?_
          exact goes_cut hL43 (decide (r39.2 ≠ 0)) [0] (vcons rfl (vcons rfl (vcons rfl (vcons rfl (vcons rfl (vnil)))))) (by decide) rfl (by rw [hg44]; simp)
      rintro _ rfl
      refine ops_nil ?_
      refine goes_code ?_
      refine run_cond (decide (r13.1 < b_0.At) || decide (r39.2 ≠ 0)) rfl (fun hc45 => ?_) (fun hc45 => ?_)
      · replace h := cond_t h hc45
        refine run_seq ?_
        refine run_region' ?_
        refine ops_y (wn rfl) rfl (y_assign rfl) ?_
        refine ops_nil ?_
        refine goes_code ?_
        refine run_ret ?_
        obtain rfl := some_eq h
        refine fin_slots [6] [.bool false] [] [] Try.results5 rfl (by decide) rfl ?_
        exact ⟨rfl, rfl⟩
      · replace h := cond_f h hc45
        refine run_skip ?_
        refine goes_code ?_
        obtain ⟨o47, h, ho48⟩ := bindJ_some h
        refine run_cut ((Int) × (Unit)) (fun σ => [(1, .int .i64 n_1), (2, .int .i64 σ.1), (3, boxP b1 0)]) (fun σ => [box b1 [.int .i64 b_0.Cap, .int .i64 b_0.Num, .int .i64 b_0.Den, .int .i64 b_0.Level, .int .i64 b_0.At]]) (fun σ => o47 = .go σ.1) (fun L50 hL49 => ?_) ?_
        · -- the ways through
          refine run_seq ?_
          refine run_region' ?_
          refine ops_y (wn rfl) rfl (y_move rfl) ?_
          refine ops_y (wn rfl) rfl (y_move rfl) ?_
          refine ops_y (wn rfl) rfl (y_geq rfl rfl) ?_
          refine ops_y (wn rfl) rfl (y_move rfl) ?_
          refine ops_cut 5 Bool (fun σ => [(1, .int .i64 n_1), (2, .int .i64 at_2), (3, boxP b1 0), (7, .int .i64 r13.1), (86, .bool σ)]) (fun σ => [box b1 [.int .i64 b_0.Cap, .int .i64 b_0.Num, .int .i64 b_0.Den, .int .i64 b_0.Level, .int .i64 b_0.At]]) (fun σ => σ = (decide (r13.1 ≤ at_2) || decide (at_2 < b_0.At))) (fun L51 hL52 => ?_) ?_
          · refine ops_split 81 (decide (r13.1 ≤ at_2)) rfl (fun hg53 => ?_) (fun hg53 => ?_)
            · skip
              refine ops_no 3 false 81 rfl rfl rfl rfl rfl ?_
              refine ops_no 3 false 81 rfl rfl rfl rfl rfl ?_
              refine ops_no 3 false 81 rfl rfl rfl rfl rfl ?_
              refine ops_no 3 false 81 rfl rfl rfl rfl rfl ?_
              refine ops_y (wn rfl) rfl (y_pick (b := true) rfl rfl) ?_
              refine ops_nil ?_
              exact goes_cut hL52 true [0] (vcons rfl (vcons rfl (vcons rfl (vcons rfl (vcons rfl (vnil)))))) (by decide) rfl (by rw [hg53]; simp)
            · skip
              refine ops_y (wg 3 false 81 rfl rfl rfl rfl) rfl (y_move rfl) ?_
              refine ops_y (wg 3 false 81 rfl rfl rfl rfl) rfl (y_fieldAddr_box (sz := 0) Try.runUnderlying23 rfl Try.sizeOf3 rfl) ?_
              refine ops_y (wg 3 false 81 rfl rfl rfl rfl) rfl (y_load_box 0 Try.isAgg3 rfl rfl rfl) ?_
              refine ops_y (wg 3 false 81 rfl rfl rfl rfl) rfl (y_lss rfl rfl) ?_
              refine ops_y (wn rfl) rfl (y_pick (b := false) rfl rfl) ?_
              refine ops_nil ?_
              exact goes_cut hL52 (decide (at_2 < b_0.At)) [0] (vcons rfl (vcons rfl (vcons rfl (vcons rfl (vcons rfl (vnil)))))) (by decide) rfl (by rw [hg53]; simp)
          rintro _ rfl
          refine ops_nil ?_
          refine goes_code ?_
          refine run_cond (decide (r13.1 ≤ at_2) || decide (at_2 < b_0.At)) rfl (fun hc54 => ?_) (fun hc54 => ?_)
          · replace h := cond_t h hc54
            refine run_region' ?_
            refine ops_y (wn rfl) rfl (y_move rfl) ?_
            refine ops_y (wn rfl) rfl (y_sub rfl rfl) ?_
            refine ops_y (wn rfl) rfl (y_assign rfl) ?_
            refine ops_nil ?_
            obtain rfl := some_eq h
            exact goes_cut hL49 ((IntKind.i64.wrap (r13.1 - 1)), ()) [0] (vcons rfl (vcons rfl (vcons rfl (vnil)))) (by decide) rfl rfl
          · replace h := cond_f h hc54
            refine run_skip ?_
            obtain rfl := some_eq h
            exact goes_cut hL49 (at_2, ()) [0] (vcons rfl (vcons rfl (vcons rfl (vnil)))) (by decide) rfl rfl
        rintro ⟨at_46, _⟩ hj
        obtain rfl : o47 = _ := hj
        replace h := after_go ho48
        clear ho48
        change Run _ _ _ (VF.of [(1, .int .i64 n_1), (2, .int .i64 at_46), (3, boxP b1 0)]) [box b1 [.int .i64 b_0.Cap, .int .i64 b_0.Num, .int .i64 b_0.Den, .int .i64 b_0.Level, .int .i64 b_0.At]]
        refine run_seq ?_
        refine run_seq ?_
        refine run_region' ?_
        refine ops_y (wn rfl) rfl (y_move rfl) ?_
        refine ops_y (wn rfl) rfl (y_fieldAddr_box (sz := 0) Try.runUnderlying23 rfl Try.sizeOf3 rfl) ?_
        refine ops_y (wn rfl) rfl (y_load_box 0 Try.isAgg3 rfl rfl rfl) ?_
        refine ops_y (wn rfl) rfl (y_lss rfl rfl) ?_
        refine ops_nil ?_
        refine goes_code ?_
        refine run_cond (decide (at_46 < b_0.At)) rfl (fun hc55 => ?_) (fun hc55 => ?_)
        · replace h := cond_t h hc55
          refine run_seq ?_
          refine run_region' ?_
          obtain ⟨r56, hr57, h⟩ := bind_some h
          refine ops_t (wn rfl) rfl (t_call (vs := []) (cs := []) [] rfl Try.call19 rfl (law12_sanity_ok n   hr57) shows_nil (.inl rfl)) ?_
          rintro _ _ ⟨_, ⟨rfl, rfl⟩, rfl⟩
          refine ops_y (wn rfl) rfl (y_assign rfl) ?_
          refine ops_nil ?_
          refine goes_code ?_
          refine run_ret ?_
          obtain rfl := some_eq h
          refine fin_slots [6] [.bool r56] [] [] Try.results5 rfl (by decide) rfl ?_
          exact ⟨rfl, rfl⟩
        · replace h := cond_f h hc55
          refine run_skip ?_
          refine goes_code ?_
          refine run_seq ?_
          refine run_region' ?_
          refine ops_y (wn rfl) rfl (y_load_boxagg (c := [.int .i64 b_0.Cap, .int .i64 b_0.Num, .int .i64 b_0.Den, .int .i64 b_0.Level, .int .i64 b_0.At]) 0 Try.isAgg23 Try.sizeOf23 rfl rfl rfl) ?_
          refine ops_y (wn rfl) rfl (y_move rfl) ?_
          refine ops_y (wn rfl) rfl (y_move rfl) ?_
          obtain ⟨r58, hr59, h⟩ := bind_some h
          refine ops_t (wn rfl) rfl (t_call (vs := [.agg #[.int .i64 b_0.Cap, .int .i64 b_0.Num, .int .i64 b_0.Den, .int .i64 b_0.Level, .int .i64 b_0.At], .int .i64 at_46, .int .i64 n_1]) (cs := []) [] rfl Try.call11 rfl (bucket_Take_ok b_0 at_46 n_1  hr59) shows_nil (.inl rfl)) ?_
          rintro _ _ ⟨_, ⟨rfl, rfl⟩, rfl⟩
          refine ops_y (wn rfl) rfl (y_move rfl) ?_
          refine ops_y (wn rfl) rfl (y_extract rfl rfl) ?_
          refine ops_y (wn rfl) rfl (y_extract rfl rfl) ?_
          refine ops_t (wn rfl) rfl (t_alloc Try.zeroValue23) ?_
          rintro _ _ ⟨b60, rfl, rfl⟩
          refine ops_t (wn rfl) rfl (t_store 1 Try.sizeOf23 rfl rfl rfl rfl (by simp [Value.cells]) (by simp [Value.cells, Value.oneCell'])) ?_
          rintro _ _ ⟨rfl, rfl⟩
          refine ops_turn (retell 1 (g := box b60 [.int .i64 r58.1.Cap, .int .i64 r58.1.Num, .int .i64 r58.1.Den, .int .i64 r58.1.Level, .int .i64 r58.1.At]) rfl rfl) ?_
          refine ops_y (wn rfl) rfl (y_assign rfl) ?_
          refine ops_nil ?_
          refine goes_code ?_
          refine run_seq ?_
          refine run_weak [(14, .int .i64 r58.2)] [] [] (vcons rfl (vnil)) (by decide) rfl ?_
          refine run_region' ?_
          obtain ⟨r61, hr62, h⟩ := bind_some h
          refine ops_t (wn rfl) rfl (t_call (vs := []) (cs := []) [] rfl Try.call19 rfl (law12_sanity_ok n   hr62) shows_nil (.inl rfl)) ?_
          rintro _ _ ⟨_, ⟨rfl, rfl⟩, rfl⟩
          refine ops_y (wn rfl) rfl (y_move rfl) ?_
          refine ops_cut 3 Bool (fun σ => [(105, .bool σ)]) (fun σ => []) (fun σ => σ = (r61 && decide (r58.2 = 4))) (fun L63 hL64 => ?_) ?_
          · refine ops_split 102 r61 rfl (fun hg65 => ?_) (fun hg65 => ?_)
            · skip
              refine ops_y (wg 1 true 102 rfl rfl rfl rfl) rfl (y_move rfl) ?_
              refine ops_y (wg 1 true 102 rfl rfl rfl rfl) rfl (y_eql rfl rfl) ?_
              refine ops_y (wn rfl) rfl (y_pick (b := true) rfl rfl) ?_
              refine ops_nil ?_
              exact goes_cut hL64 (decide (r58.2 = 4)) [] (vcons rfl (vnil)) (by decide) rfl (by rw [hg65]; simp)
            · skip
              refine ops_no 1 true 102 rfl rfl rfl rfl rfl ?_
              refine ops_no 1 true 102 rfl rfl rfl rfl rfl ?_
              refine ops_y (wn rfl) rfl (y_pick (b := false) rfl rfl) ?_
              refine ops_nil ?_
              exact goes_cut hL64 false [] (vcons rfl (vnil)) (by decide) rfl (by rw [hg65]; simp)
          rintro _ rfl
          refine ops_y (wn rfl) rfl (y_assign rfl) ?_
          refine ops_nil ?_
          refine goes_code ?_
          refine run_ret ?_
          obtain rfl := some_eq h
          refine fin_slots [6] [.bool (r61 && decide (r58.2 = 4))] [] [] Try.results5 rfl (by decide) rfl ?_
          exact ⟨rfl, rfl⟩

end Go.Proofs.Ytpalglggjndmlaa
