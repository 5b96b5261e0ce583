/-
  The functions of the bucket laws, lifted: the division of a bucket, and the examples.
-/
import Derived.Test.YtpalglggjndmlaaFa
namespace Go.Proofs.Ytpalglggjndmlaa
open Go.Abs
set_option linter.unusedVariables false
set_option linter.unusedSimpArgs false
set_option maxRecDepth 20000


def bucket_sum_L1 (most_0 : Int) (l_1 : (List Int)) : (Int × Int) → Option (Lp (Int × Int) (Lp (Int) (Int × Bool))) :=
  fun (total_6, s_7) =>
    cond (decide (s_7 < (l_1.length : Int)))
      (idx l_1 s_7 fun x13 =>
      cond (decide (x13 < 0) || decide ((IntKind.i64.wrap (most_0 - total_6)) < x13))
        (some (.stop (.stop (0, false))))
        (some (.go ((IntKind.i64.wrap (total_6 + x13)), (IntKind.i64.wrap (s_7 + 1))))))
      (some (.stop (.go total_6)))
def bucket_sum (n : Nat) (most_0 : Int) (l_1 : (List Int)) : Option (Int × Bool) :=
  bindJ (S := Int)
    (iter (bucket_sum_L1 most_0 l_1) n (0, 0))
  (fun total_1 =>
    some (total_1, true))
theorem bucket_sum_ok (n : Nat) (most_0 : Int) (l_1 : (List Int)) (l_1v : Value) {r : Int × Bool} (h : bucket_sum n most_0 l_1 = some r) :
    Meets Try.prog 31 [.int .i64 most_0, l_1v] [ro l_1v 1 (l_1.map (eInt .i64))] (fun v G => v = .tuple #[.int .i64 r.1, .bool r.2] ∧ G = []) := by
  refine fn_of_run Try.func31 rfl Try.ntmps31 rfl (fun w0 o0 => ?_)
  refine run_seq ?_
  refine run_region' ?_
  refine ops_y (wn rfl) rfl (y_assign rfl) ?_
  refine ops_y (wn rfl) rfl (y_assign rfl) ?_
  refine ops_nil ?_
  refine goes_code ?_
  obtain ⟨o2, h, ho3⟩ := bindJ_some h
  refine run_cut ((Int) × (Unit)) (fun σ => [(4, .int .i64 σ.1)]) (fun σ => []) (fun σ => o2 = .go σ.1) (fun L5 hL4 => ?_) ?_
  · -- the ways through
    refine run_seq ?_
    refine run_region' ?_
    refine ops_y (wn rfl) rfl (y_move rfl) ?_
    refine ops_y (wn rfl) rfl ((y_len 0 rfl Try.runUnderlying46 rfl rfl reads_ro).to (v_len (eInt .i64) _)) ?_
    refine ops_y (wn rfl) rfl (y_move rfl) ?_
    refine ops_nil ?_
    refine goes_code ?_
    refine run_block ?_
    refine run_iter (step := bucket_sum_L1 most_0 l_1) (n := n) (s0 := (0, 0)) h (G := Unit) () (fun σ γ => [(0, .int .i64 most_0), (4, .int .i64 σ.1), (8, l_1v), (9, .int .i64 (l_1.length : Int)), (10, .int .i64 σ.2)]) (fun σ γ => [ro l_1v 1 (l_1.map (eInt .i64))]) [0] (vcons rfl (vcons rfl (vcons rfl (vcons rfl (vcons rfl (vnil)))))) (by decide) rfl ?_
    rintro ⟨total_6, s_7⟩ _ o8 h L11 hgo9 hstop10
    change Run _ _ _ (VF.of [(0, .int .i64 most_0), (4, .int .i64 total_6), (8, l_1v), (9, .int .i64 (l_1.length : Int)), (10, .int .i64 s_7)]) [ro l_1v 1 (l_1.map (eInt .i64))]
    refine run_seq ?_
    refine run_region' ?_
    refine ops_y (wn rfl) rfl (y_lss rfl rfl) ?_
    refine ops_nil ?_
    refine goes_code ?_
    refine run_seq ?_
    refine run_cond (decide (s_7 < (l_1.length : Int))) rfl (fun hc12 => ?_) (fun hc12 => ?_)
    · replace h := cond_t h hc12
      refine run_skip ?_
      refine goes_code ?_
      refine run_seq ?_
      refine run_block ?_
      refine run_seq ?_
      refine run_region' ?_
      obtain ⟨x13, hzx13, hlx13, hxx13, h⟩ := idx_some h
      refine ops_y (wn rfl) rfl (y_indexAddrI (kd := .i64) (i := s_7) 0 Try.runUnderlying46 Try.sizeOf3 rfl rfl rfl reads_ro hzx13 (map_lt hlx13)) ?_
      refine ops_y (wn rfl) rfl (y_load_elem (i := s_7.toNat) 0 Try.isAgg3 rfl rfl reads_ro (map_get hxx13)) ?_
      refine ops_y (wn rfl) rfl (y_assign rfl) ?_
      refine ops_nil ?_
      refine goes_code ?_
      refine run_seq ?_
      refine run_seq ?_
      refine run_region' ?_
      refine ops_y (wn rfl) rfl (y_move rfl) ?_
      refine ops_y (wn rfl) rfl (y_lss rfl rfl) ?_
      refine ops_y (wn rfl) rfl (y_move rfl) ?_
      refine ops_cut 6 Bool (fun σ => [(0, .int .i64 most_0), (4, .int .i64 total_6), (8, l_1v), (9, .int .i64 (l_1.length : Int)), (10, .int .i64 s_7), (7, .int .i64 x13), (22, .bool σ)]) (fun σ => [ro l_1v 1 (l_1.map (eInt .i64))]) (fun σ => σ = (decide (x13 < 0) || decide ((IntKind.i64.wrap (most_0 - total_6)) < x13))) (fun L14 hL15 => ?_) ?_
      · refine ops_split 16 (decide (x13 < 0)) rfl (fun hg16 => ?_) (fun hg16 => ?_)
        · skip
          refine ops_no 2 false 16 rfl rfl rfl rfl rfl ?_
          refine ops_no 2 false 16 rfl rfl rfl rfl rfl ?_
          refine ops_no 2 false 16 rfl rfl rfl rfl rfl ?_
          refine ops_no 2 false 16 rfl rfl rfl rfl rfl ?_
          refine ops_no 2 false 16 rfl rfl rfl rfl rfl ?_
          refine ops_y (wn rfl) rfl (y_pick (b := true) rfl rfl) ?_
          refine ops_nil ?_
          exact goes_cut hL15 true [0] (vcons rfl (vcons rfl (vcons rfl (vcons rfl (vcons rfl (vcons rfl (vcons rfl (vnil)))))))) (by decide) rfl (by rw [hg16]; simp)
        · skip
          refine ops_y (wg 2 false 16 rfl rfl rfl rfl) rfl (y_move rfl) ?_
          refine ops_y (wg 2 false 16 rfl rfl rfl rfl) rfl (y_move rfl) ?_
          refine ops_y (wg 2 false 16 rfl rfl rfl rfl) rfl (y_move rfl) ?_
          refine ops_y (wg 2 false 16 rfl rfl rfl rfl) rfl (y_sub rfl rfl) ?_
          refine ops_y (wg 2 false 16 rfl rfl rfl rfl) rfl (y_gtr rfl rfl) ?_
          refine ops_y (wn rfl) rfl (y_pick (b := false) rfl rfl) ?_
          refine ops_nil ?_
          exact goes_cut hL15 (decide ((IntKind.i64.wrap (most_0 - total_6)) < x13)) [0] (vcons rfl (vcons rfl (vcons rfl (vcons rfl (vcons rfl (vcons rfl (vcons rfl (vnil)))))))) (by decide) rfl (by rw [hg16]; simp)
      rintro _ rfl
      refine ops_nil ?_
      refine goes_code ?_
      refine run_cond (decide (x13 < 0) || decide ((IntKind.i64.wrap (most_0 - total_6)) < x13)) rfl (fun hc17 => ?_) (fun hc17 => ?_)
      · replace h := cond_t h hc17
        refine run_seq ?_
        refine run_region' ?_
        refine ops_y (wn rfl) rfl (y_assign rfl) ?_
        refine ops_y (wn rfl) rfl (y_assign rfl) ?_
        refine ops_nil ?_
        refine goes_code ?_
        refine run_ret ?_
        obtain rfl := some_eq h
        obtain rfl := hstop10 _ rfl
        skip
        obtain rfl := after_stop ho3
        refine fin_slots [4, 5] [.int .i64 0, .bool false] [] [] Try.results31 rfl (by decide) rfl ?_
        exact ⟨rfl, rfl⟩
      · replace h := cond_f h hc17
        refine run_skip ?_
        refine goes_code ?_
        refine run_region' ?_
        refine ops_y (wn rfl) rfl (y_move rfl) ?_
        refine ops_y (wn rfl) rfl (y_move rfl) ?_
        refine ops_y (wn rfl) rfl (y_add rfl rfl) ?_
        refine ops_y (wn rfl) rfl (y_assign rfl) ?_
        refine ops_nil ?_
        refine goes_blk ?_
        refine goes_code ?_
        refine run_region' ?_
        refine ops_y (wn rfl) rfl (y_add rfl rfl) ?_
        refine ops_y (wn rfl) rfl (y_move rfl) ?_
        refine ops_nil ?_
        obtain rfl := some_eq h
        exact goes_iter hgo9 ((IntKind.i64.wrap (total_6 + x13)), (IntKind.i64.wrap (s_7 + 1))) () [0] rfl (vcons rfl (vcons rfl (vcons rfl (vcons rfl (vcons rfl (vnil)))))) (by decide) rfl
    · replace h := cond_f h hc12
      refine run_exit _ rfl ?_
      obtain rfl := some_eq h
      obtain rfl := hstop10 _ rfl
      exact goes_cut hL4 (total_6, ()) [] (vcons rfl (vnil)) (by decide) rfl rfl
  rintro ⟨total_1, _⟩ hj
  obtain rfl : o2 = _ := hj
  replace h := after_go ho3
  clear ho3
  change Run _ _ _ (VF.of [(4, .int .i64 total_1)]) []
  refine run_seq ?_
  refine run_region' ?_
  refine ops_y (wn rfl) rfl (y_move rfl) ?_
  refine ops_y (wn rfl) rfl (y_assign rfl) ?_
  refine ops_y (wn rfl) rfl (y_assign rfl) ?_
  refine ops_nil ?_
  refine goes_code ?_
  refine run_ret ?_
  obtain rfl := some_eq h
  refine fin_slots [4, 5] [.int .i64 total_1, .bool true] [] [] Try.results31 rfl (by decide) rfl ?_
  exact ⟨rfl, rfl⟩

def bucket_Split_L1 (b_0 : S_api_Bucket) (caps_1 : (List Int)) (nums_2 : (List Int)) : ((List S_api_Bucket) × Int × Int) → Option (Lp ((List S_api_Bucket) × Int × Int) (Lp ((List S_api_Bucket)) ((List S_api_Bucket) × Int))) :=
  fun (out_36, s_37, x_38) =>
    cond (decide (s_37 < (caps_1.length : Int)))
      (idx caps_1 s_37 fun x45 =>
      idx nums_2 s_37 fun x46 =>
      need (out_36.length + [(S_api_Bucket.mk x45 x46 b_0.Den (min x_38 (IntKind.i64.wrap (x45 * b_0.Den))) b_0.At)].length ≤ 4294967296) (
      some (.go ((out_36 ++ [(S_api_Bucket.mk x45 x46 b_0.Den (min x_38 (IntKind.i64.wrap (x45 * b_0.Den))) b_0.At)]), (IntKind.i64.wrap (s_37 + 1)), (IntKind.i64.wrap (x_38 - (min x_38 (IntKind.i64.wrap (x45 * b_0.Den)))))))))
      (some (.stop (.go out_36)))
def bucket_Split (n : Nat) (b_0 : S_api_Bucket) (caps_1 : (List Int)) (nums_2 : (List Int)) : Option ((List S_api_Bucket) × Int) :=
  (bucket_Valid b_0).bind fun r2 =>
  bindJ (S := Bool)
    (cond (!r2)
      (some (.go true))
      ((bucket_within_int_29 (caps_1.length : Int) 1 64).bind fun r10 =>
      some (.go (!r10))))
  (fun b4 =>
    cond (b4 || decide ((nums_2.length : Int) ≠ (caps_1.length : Int)))
      (some (([] : List S_api_Bucket), 1))
      ((bucket_sum n b_0.Cap caps_1).bind fun r16 =>
      (bucket_sum n b_0.Num nums_2).bind fun r18 =>
      cond ((((!r16.2) || (!r18.2)) || decide (r16.1 ≠ b_0.Cap)) || decide (r18.1 ≠ b_0.Num))
        (some (([] : List S_api_Bucket), 1))
        (bindJ (S := (List S_api_Bucket))
          (iter (bucket_Split_L1 b_0 caps_1 nums_2) n (([] : List S_api_Bucket), 0, b_0.Level))
        (fun out_30 =>
          some (out_30, 0)))))
theorem bucket_Split_ok (n : Nat) (b_0 : S_api_Bucket) (caps_1 : (List Int)) (nums_2 : (List Int)) (caps_1v : Value) (nums_2v : Value) {r : (List S_api_Bucket) × Int} (h : bucket_Split n b_0 caps_1 nums_2 = some r) :
    Meets Try.prog 24 [.agg #[.int .i64 b_0.Cap, .int .i64 b_0.Num, .int .i64 b_0.Den, .int .i64 b_0.Level, .int .i64 b_0.At], caps_1v, nums_2v] [ro caps_1v 1 (caps_1.map (eInt .i64)), ro nums_2v 1 (nums_2.map (eInt .i64))] (fun v G => ∃ v0, v = .tuple #[v0, .int .i64 r.2] ∧ G = [row v0 5 (r.1.map S_api_Bucket.enc)]) := by
  refine fn_of_run Try.func24 rfl Try.ntmps24 rfl (fun w0 o0 => ?_)
  refine run_seq ?_
  refine run_region' ?_
  refine ops_t (wn rfl) rfl (t_box rfl) ?_
  rintro _ _ ⟨b1, rfl, rfl⟩
  refine ops_y (wn rfl) rfl (y_assign rfl) ?_
  refine ops_y (wn rfl) rfl (y_assign rfl) ?_
  refine ops_nil ?_
  refine goes_code ?_
  refine run_seq ?_
  refine run_seq ?_
  refine run_region' ?_
  refine ops_y (wn rfl) rfl (y_load_boxagg (c := [.int .i64 b_0.Cap, .int .i64 b_0.Num, .int .i64 b_0.Den, .int .i64 b_0.Level, .int .i64 b_0.At]) 2 Try.isAgg23 Try.sizeOf23 rfl rfl rfl) ?_
  obtain ⟨r2, hr3, h⟩ := bind_some h
  refine ops_t (wn rfl) rfl (t_call (vs := [.agg #[.int .i64 b_0.Cap, .int .i64 b_0.Num, .int .i64 b_0.Den, .int .i64 b_0.Level, .int .i64 b_0.At]]) (cs := []) [] rfl Try.call20 rfl (bucket_Valid_ok b_0  hr3) shows_nil (.inl rfl)) ?_
  rintro _ _ ⟨_, ⟨rfl, rfl⟩, rfl⟩
  refine ops_y (wn rfl) rfl (y_not rfl) ?_
  refine ops_y (wn rfl) rfl (y_move rfl) ?_
  obtain ⟨o5, h, ho6⟩ := bindJ_some h
  refine ops_cut 5 Bool (fun σ => [(1, caps_1v), (2, nums_2v), (3, boxP b1 0), (24, .bool σ)]) (fun σ => [ro caps_1v 1 (caps_1.map (eInt .i64)), ro nums_2v 1 (nums_2.map (eInt .i64)), box b1 [.int .i64 b_0.Cap, .int .i64 b_0.Num, .int .i64 b_0.Den, .int .i64 b_0.Level, .int .i64 b_0.At]]) (fun σ => o5 = .go σ) (fun L7 hL8 => ?_) ?_
  · refine ops_split 19 (!r2) rfl (fun hg9 => ?_) (fun hg9 => ?_)
    · replace h := cond_t h hg9
      refine ops_no 3 false 19 rfl rfl rfl rfl rfl ?_
      refine ops_no 3 false 19 rfl rfl rfl rfl rfl ?_
      refine ops_no 3 false 19 rfl rfl rfl rfl rfl ?_
      refine ops_no 3 false 19 rfl rfl rfl rfl rfl ?_
      refine ops_y (wn rfl) rfl (y_pick (b := true) rfl rfl) ?_
      refine ops_nil ?_
      obtain rfl := some_eq h
      exact goes_cut hL8 true [0, 1, 2] (vcons rfl (vcons rfl (vcons rfl (vcons rfl (vnil))))) (by decide) rfl rfl
    · replace h := cond_f h hg9
      refine ops_y (wg 3 false 19 rfl rfl rfl rfl) rfl (y_move rfl) ?_
      refine ops_y (wg 3 false 19 rfl rfl rfl rfl) rfl ((y_len 0 rfl Try.runUnderlying46 rfl rfl reads_ro).to (v_len (eInt .i64) _)) ?_
      obtain ⟨r10, hr11, h⟩ := bind_some h
      refine ops_t (wg 3 false 19 rfl rfl rfl rfl) rfl (t_call (vs := [.int .i64 (caps_1.length : Int), .int .i64 1, .int .i64 64]) (cs := []) [] rfl Try.call29 rfl (bucket_within_int_29_ok (caps_1.length : Int) 1 64  hr11) shows_nil (.inl rfl)) ?_
      rintro _ _ ⟨_, ⟨rfl, rfl⟩, rfl⟩
      refine ops_y (wg 3 false 19 rfl rfl rfl rfl) rfl (y_not rfl) ?_
      refine ops_y (wn rfl) rfl (y_pick (b := false) rfl rfl) ?_
      refine ops_nil ?_
      obtain rfl := some_eq h
      exact goes_cut hL8 (!r10) [0, 1, 2] (vcons rfl (vcons rfl (vcons rfl (vcons rfl (vnil))))) (by decide) rfl rfl
  rintro b4 hj
  obtain rfl : o5 = _ := hj
  replace h := after_go ho6
  clear ho6
  refine ops_y (wn rfl) rfl (y_move rfl) ?_
  refine ops_cut 6 Bool (fun σ => [(1, caps_1v), (2, nums_2v), (3, boxP b1 0), (31, .bool σ)]) (fun σ => [ro caps_1v 1 (caps_1.map (eInt .i64)), ro nums_2v 1 (nums_2.map (eInt .i64)), box b1 [.int .i64 b_0.Cap, .int .i64 b_0.Num, .int .i64 b_0.Den, .int .i64 b_0.Level, .int .i64 b_0.At]]) (fun σ => σ = (b4 || decide ((nums_2.length : Int) ≠ (caps_1.length : Int)))) (fun L12 hL13 => ?_) ?_
  · refine ops_split 25 b4 rfl (fun hg14 => ?_) (fun hg14 => ?_)
    · skip
      refine ops_no 9 false 25 rfl rfl rfl rfl rfl ?_
      refine ops_no 9 false 25 rfl rfl rfl rfl rfl ?_
      refine ops_no 9 false 25 rfl rfl rfl rfl rfl ?_
      refine ops_no 9 false 25 rfl rfl rfl rfl rfl ?_
      refine ops_no 9 false 25 rfl rfl rfl rfl rfl ?_
      refine ops_y (wn rfl) rfl (y_pick (b := true) rfl rfl) ?_
      refine ops_nil ?_
      exact goes_cut hL13 true [0, 1, 2] (vcons rfl (vcons rfl (vcons rfl (vcons rfl (vnil))))) (by decide) rfl (by rw [hg14]; simp)
    · skip
      refine ops_y (wg 9 false 25 rfl rfl rfl rfl) rfl (y_move rfl) ?_
      refine ops_y (wg 9 false 25 rfl rfl rfl rfl) rfl ((y_len 1 rfl Try.runUnderlying46 rfl rfl reads_ro).to (v_len (eInt .i64) _)) ?_
      refine ops_y (wg 9 false 25 rfl rfl rfl rfl) rfl (y_move rfl) ?_
      refine ops_y (wg 9 false 25 rfl rfl rfl rfl) rfl ((y_len 0 rfl Try.runUnderlying46 rfl rfl reads_ro).to (v_len (eInt .i64) _)) ?_
      refine ops_y (wg 9 false 25 rfl rfl rfl rfl) rfl (y_neq rfl rfl) ?_
      refine ops_y (wn rfl) rfl (y_pick (b := false) rfl rfl) ?_
      refine ops_nil ?_
      exact goes_cut hL13 (decide ((nums_2.length : Int) ≠ (caps_1.length : Int))) [0, 1, 2] (vcons rfl (vcons rfl (vcons rfl (vcons rfl (vnil))))) (by decide) rfl (by rw [hg14]; simp)
  rintro _ rfl
  refine ops_nil ?_
  refine goes_code ?_
  refine run_cond (b4 || decide ((nums_2.length : Int) ≠ (caps_1.length : Int))) rfl (fun hc15 => ?_) (fun hc15 => ?_)
  · replace h := cond_t h hc15
    refine run_seq ?_
    refine run_region' ?_
    refine ops_y (wn rfl) rfl (y_assign rfl) ?_
    refine ops_y (wn rfl) rfl (y_assign rfl) ?_
    refine ops_nil ?_
    refine goes_code ?_
    refine run_ret ?_
    refine fin_turn (nilrow 5) ?_
    refine fin_turn (retell 3 (g := row (.slice none 0 0) 5 (([] : List S_api_Bucket).map S_api_Bucket.enc)) rfl rfl) ?_
    obtain rfl := some_eq h
    refine fin_slots [6, 7] [(.slice none 0 0), .int .i64 1] [3] [row (.slice none 0 0) 5 (([] : List S_api_Bucket).map S_api_Bucket.enc)] Try.results24 rfl (by decide) rfl ?_
    exact ⟨_, rfl, rfl⟩
  · replace h := cond_f h hc15
    refine run_skip ?_
    refine goes_code ?_
    refine run_seq ?_
    refine run_region' ?_
    refine ops_y (wn rfl) rfl (y_fieldAddr_box (sz := 0) Try.runUnderlying23 rfl Try.sizeOf3 rfl) ?_
    refine ops_y (wn rfl) rfl (y_load_box 2 Try.isAgg3 rfl rfl rfl) ?_
    refine ops_y (wn rfl) rfl (y_move rfl) ?_
    obtain ⟨r16, hr17, h⟩ := bind_some h
    refine ops_t (wn rfl) rfl (t_call (vs := [.int .i64 b_0.Cap, caps_1v]) (cs := []) [⟨0, false⟩] rfl Try.call31 rfl (bucket_sum_ok n b_0.Cap caps_1 caps_1v hr17) (shows_cons 0 false rfl views_ro shows_nil) (.inl rfl)) ?_
    rintro _ _ ⟨_, ⟨rfl, rfl⟩, rfl⟩
    refine ops_y (wn rfl) rfl (y_move rfl) ?_
    refine ops_y (wn rfl) rfl (y_extract rfl rfl) ?_
    refine ops_y (wn rfl) rfl (y_extract rfl rfl) ?_
    refine ops_y (wn rfl) rfl (y_assign rfl) ?_
    refine ops_y (wn rfl) rfl (y_assign rfl) ?_
    refine ops_nil ?_
    refine goes_code ?_
    refine run_seq ?_
    refine run_weak [(1, caps_1v), (2, nums_2v), (3, boxP b1 0), (8, .int .i64 r16.1), (9, .bool r16.2)] [0, 1, 2] [ro caps_1v 1 (caps_1.map (eInt .i64)), ro nums_2v 1 (nums_2.map (eInt .i64)), box b1 [.int .i64 b_0.Cap, .int .i64 b_0.Num, .int .i64 b_0.Den, .int .i64 b_0.Level, .int .i64 b_0.At]] (vcons rfl (vcons rfl (vcons rfl (vcons rfl (vcons rfl (vnil)))))) (by decide) rfl ?_
    refine run_region' ?_
    refine ops_y (wn rfl) rfl (y_fieldAddr_box (sz := 0) Try.runUnderlying23 rfl Try.sizeOf3 rfl) ?_
    refine ops_y (wn rfl) rfl (y_load_box 2 Try.isAgg3 rfl rfl rfl) ?_
    refine ops_y (wn rfl) rfl (y_move rfl) ?_
    obtain ⟨r18, hr19, h⟩ := bind_some h
    refine ops_t (wn rfl) rfl (t_call (vs := [.int .i64 b_0.Num, nums_2v]) (cs := []) [⟨1, false⟩] rfl Try.call31 rfl (bucket_sum_ok n b_0.Num nums_2 nums_2v hr19) (shows_cons 1 false rfl views_ro shows_nil) (.inl rfl)) ?_
    rintro _ _ ⟨_, ⟨rfl, rfl⟩, rfl⟩
    refine ops_y (wn rfl) rfl (y_move rfl) ?_
    refine ops_y (wn rfl) rfl (y_extract rfl rfl) ?_
    refine ops_y (wn rfl) rfl (y_extract rfl rfl) ?_
    refine ops_y (wn rfl) rfl (y_assign rfl) ?_
    refine ops_y (wn rfl) rfl (y_assign rfl) ?_
    refine ops_nil ?_
    refine goes_code ?_
    refine run_seq ?_
    refine run_seq ?_
    refine run_weak [(1, caps_1v), (2, nums_2v), (3, boxP b1 0), (8, .int .i64 r16.1), (9, .bool r16.2), (10, .int .i64 r18.1), (11, .bool r18.2)] [0, 1, 2] [ro caps_1v 1 (caps_1.map (eInt .i64)), ro nums_2v 1 (nums_2.map (eInt .i64)), box b1 [.int .i64 b_0.Cap, .int .i64 b_0.Num, .int .i64 b_0.Den, .int .i64 b_0.Level, .int .i64 b_0.At]] (vcons rfl (vcons rfl (vcons rfl (vcons rfl (vcons rfl (vcons rfl (vcons rfl (vnil)))))))) (by decide) rfl ?_
    refine run_region' ?_
    refine ops_y (wn rfl) rfl (y_move rfl) ?_
    refine ops_y (wn rfl) rfl (y_not rfl) ?_
    refine ops_y (wn rfl) rfl (y_move rfl) ?_
    refine ops_cut 3 Bool (fun σ => [(1, caps_1v), (2, nums_2v), (3, boxP b1 0), (8, .int .i64 r16.1), (10, .int .i64 r18.1), (51, .bool σ)]) (fun σ => [ro caps_1v 1 (caps_1.map (eInt .i64)), ro nums_2v 1 (nums_2.map (eInt .i64)), box b1 [.int .i64 b_0.Cap, .int .i64 b_0.Num, .int .i64 b_0.Den, .int .i64 b_0.Level, .int .i64 b_0.At]]) (fun σ => σ = ((!r16.2) || (!r18.2))) (fun L20 hL21 => ?_) ?_
    · refine ops_split 48 (!r16.2) rfl (fun hg22 => ?_) (fun hg22 => ?_)
      · skip
        refine ops_no 2 false 48 rfl rfl rfl rfl rfl ?_
        refine ops_no 2 false 48 rfl rfl rfl rfl rfl ?_
        refine ops_y (wn rfl) rfl (y_pick (b := true) rfl rfl) ?_
        refine ops_nil ?_
        exact goes_cut hL21 true [0, 1, 2] (vcons rfl (vcons rfl (vcons rfl (vcons rfl (vcons rfl (vcons rfl (vnil))))))) (by decide) rfl (by rw [hg22]; simp)
      · skip
        refine ops_y (wg 2 false 48 rfl rfl rfl rfl) rfl (y_move rfl) ?_
        refine ops_y (wg 2 false 48 rfl rfl rfl rfl) rfl (y_not rfl) ?_
        refine ops_y (wn rfl) rfl (y_pick (b := false) rfl rfl) ?_
        refine ops_nil ?_
        exact goes_cut hL21 (!r18.2) [0, 1, 2] (vcons rfl (vcons rfl (vcons rfl (vcons rfl (vcons rfl (vcons rfl (vnil))))))) (by decide) rfl (by rw [hg22]; simp)
    rintro _ rfl
    refine ops_y (wn rfl) rfl (y_move rfl) ?_
    refine ops_cut 5 Bool (fun σ => [(1, caps_1v), (2, nums_2v), (3, boxP b1 0), (10, .int .i64 r18.1), (57, .bool σ)]) (fun σ => [ro caps_1v 1 (caps_1.map (eInt .i64)), ro nums_2v 1 (nums_2.map (eInt .i64)), box b1 [.int .i64 b_0.Cap, .int .i64 b_0.Num, .int .i64 b_0.Den, .int .i64 b_0.Level, .int .i64 b_0.At]]) (fun σ => σ = (((!r16.2) || (!r18.2)) || decide (r16.1 ≠ b_0.Cap))) (fun L23 hL24 => ?_) ?_
    · refine ops_split 52 ((!r16.2) || (!r18.2)) rfl (fun hg25 => ?_) (fun hg25 => ?_)
      · skip
        refine ops_no 6 false 52 rfl rfl rfl rfl rfl ?_
        refine ops_no 6 false 52 rfl rfl rfl rfl rfl ?_
        refine ops_no 6 false 52 rfl rfl rfl rfl rfl ?_
        refine ops_no 6 false 52 rfl rfl rfl rfl rfl ?_
        refine ops_y (wn rfl) rfl (y_pick (b := true) rfl rfl) ?_
        refine ops_nil ?_
        exact goes_cut hL24 true [0, 1, 2] (vcons rfl (vcons rfl (vcons rfl (vcons rfl (vcons rfl (vnil)))))) (by decide) rfl (by rw [hg25]; simp)
      · skip
        refine ops_y (wg 6 false 52 rfl rfl rfl rfl) rfl (y_move rfl) ?_
        refine ops_y (wg 6 false 52 rfl rfl rfl rfl) rfl (y_fieldAddr_box (sz := 0) Try.runUnderlying23 rfl Try.sizeOf3 rfl) ?_
        refine ops_y (wg 6 false 52 rfl rfl rfl rfl) rfl (y_load_box 2 Try.isAgg3 rfl rfl rfl) ?_
        refine ops_y (wg 6 false 52 rfl rfl rfl rfl) rfl (y_neq rfl rfl) ?_
        refine ops_y (wn rfl) rfl (y_pick (b := false) rfl rfl) ?_
        refine ops_nil ?_
        exact goes_cut hL24 (decide (r16.1 ≠ b_0.Cap)) [0, 1, 2] (vcons rfl (vcons rfl (vcons rfl (vcons rfl (vcons rfl (vnil)))))) (by decide) rfl (by rw [hg25]; simp)
    rintro _ rfl
    refine ops_y (wn rfl) rfl (y_move rfl) ?_
    refine ops_cut 5 Bool (fun σ => [(1, caps_1v), (2, nums_2v), (3, boxP b1 0), (63, .bool σ)]) (fun σ => [ro caps_1v 1 (caps_1.map (eInt .i64)), ro nums_2v 1 (nums_2.map (eInt .i64)), box b1 [.int .i64 b_0.Cap, .int .i64 b_0.Num, .int .i64 b_0.Den, .int .i64 b_0.Level, .int .i64 b_0.At]]) (fun σ => σ = ((((!r16.2) || (!r18.2)) || decide (r16.1 ≠ b_0.Cap)) || decide (r18.1 ≠ b_0.Num))) (fun L26 hL27 => ?_) ?_
    · refine ops_split 58 (((!r16.2) || (!r18.2)) || decide (r16.1 ≠ b_0.Cap)) rfl (fun hg28 => ?_) (fun hg28 => ?_)
      · skip
        refine ops_no 12 false 58 rfl rfl rfl rfl rfl ?_
        refine ops_no 12 false 58 rfl rfl rfl rfl rfl ?_
        refine ops_no 12 false 58 rfl rfl rfl rfl rfl ?_
        refine ops_no 12 false 58 rfl rfl rfl rfl rfl ?_
        refine ops_y (wn rfl) rfl (y_pick (b := true) rfl rfl) ?_
        refine ops_nil ?_
        exact goes_cut hL27 true [0, 1, 2] (vcons rfl (vcons rfl (vcons rfl (vcons rfl (vnil))))) (by decide) rfl (by rw [hg28]; simp)
      · skip
        refine ops_y (wg 12 false 58 rfl rfl rfl rfl) rfl (y_move rfl) ?_
        refine ops_y (wg 12 false 58 rfl rfl rfl rfl) rfl (y_fieldAddr_box (sz := 0) Try.runUnderlying23 rfl Try.sizeOf3 rfl) ?_
        refine ops_y (wg 12 false 58 rfl rfl rfl rfl) rfl (y_load_box 2 Try.isAgg3 rfl rfl rfl) ?_
        refine ops_y (wg 12 false 58 rfl rfl rfl rfl) rfl (y_neq rfl rfl) ?_
        refine ops_y (wn rfl) rfl (y_pick (b := false) rfl rfl) ?_
        refine ops_nil ?_
        exact goes_cut hL27 (decide (r18.1 ≠ b_0.Num)) [0, 1, 2] (vcons rfl (vcons rfl (vcons rfl (vcons rfl (vnil))))) (by decide) rfl (by rw [hg28]; simp)
    rintro _ rfl
    refine ops_nil ?_
    refine goes_code ?_
    refine run_cond ((((!r16.2) || (!r18.2)) || decide (r16.1 ≠ b_0.Cap)) || decide (r18.1 ≠ b_0.Num)) rfl (fun hc29 => ?_) (fun hc29 => ?_)
    · replace h := cond_t h hc29
      refine run_seq ?_
      refine run_region' ?_
      refine ops_y (wn rfl) rfl (y_assign rfl) ?_
      refine ops_y (wn rfl) rfl (y_assign rfl) ?_
      refine ops_nil ?_
      refine goes_code ?_
      refine run_ret ?_
      refine fin_turn (nilrow 5) ?_
      refine fin_turn (retell 3 (g := row (.slice none 0 0) 5 (([] : List S_api_Bucket).map S_api_Bucket.enc)) rfl rfl) ?_
      obtain rfl := some_eq h
      refine fin_slots [6, 7] [(.slice none 0 0), .int .i64 1] [3] [row (.slice none 0 0) 5 (([] : List S_api_Bucket).map S_api_Bucket.enc)] Try.results24 rfl (by decide) rfl ?_
      exact ⟨_, rfl, rfl⟩
    · replace h := cond_f h hc29
      refine run_skip ?_
      refine goes_code ?_
      refine run_seq ?_
      refine run_region' ?_
      refine ops_y (wn rfl) rfl (y_assign rfl) ?_
      refine ops_nil ?_
      refine goes_code ?_
      obtain ⟨o32, h, ho33⟩ := bindJ_some h
      refine run_cut (((List S_api_Bucket)) × (Value)) (fun σ => [(12, σ.2)]) (fun σ => [row σ.2 5 (σ.1.map S_api_Bucket.enc)]) (fun σ => o32 = .go σ.1) (fun L35 hL34 => ?_) ?_
      · -- the ways through
        refine run_seq ?_
        refine run_region' ?_
        refine ops_y (wn rfl) rfl (y_move rfl) ?_
        refine ops_y (wn rfl) rfl ((y_len 0 rfl Try.runUnderlying46 rfl rfl reads_ro).to (v_len (eInt .i64) _)) ?_
        refine ops_y (wn rfl) rfl (y_move rfl) ?_
        refine ops_nil ?_
        refine goes_code ?_
        refine run_block ?_
        refine run_turn (nilrow 5) ?_
        refine run_turn (retell 3 (g := row (.slice none 0 0) 5 (([] : List S_api_Bucket).map S_api_Bucket.enc)) rfl rfl) ?_
        refine run_iter (step := bucket_Split_L1 b_0 caps_1 nums_2) (n := n) (s0 := (([] : List S_api_Bucket), 0, b_0.Level)) h (G := Value) (.slice none 0 0) (fun σ γ => [(2, nums_2v), (3, boxP b1 0), (12, γ), (64, caps_1v), (65, .int .i64 (caps_1.length : Int)), (66, .int .i64 σ.2.1)]) (fun σ γ => [ro nums_2v 1 (nums_2.map (eInt .i64)), box b1 [.int .i64 b_0.Cap, .int .i64 b_0.Num, .int .i64 b_0.Den, .int .i64 σ.2.2, .int .i64 b_0.At], row γ 5 (σ.1.map S_api_Bucket.enc), ro caps_1v 1 (caps_1.map (eInt .i64))]) [1, 2, 3, 0] (vcons rfl (vcons rfl (vcons rfl (vcons rfl (vcons rfl (vcons rfl (vnil))))))) (by decide) rfl ?_
        rintro ⟨out_36, s_37, x_38⟩ v39 o40 h L43 hgo41 hstop42
        change Run _ _ _ (VF.of [(2, nums_2v), (3, boxP b1 0), (12, v39), (64, caps_1v), (65, .int .i64 (caps_1.length : Int)), (66, .int .i64 s_37)]) [ro nums_2v 1 (nums_2.map (eInt .i64)), box b1 [.int .i64 b_0.Cap, .int .i64 b_0.Num, .int .i64 b_0.Den, .int .i64 x_38, .int .i64 b_0.At], row v39 5 (out_36.map S_api_Bucket.enc), ro caps_1v 1 (caps_1.map (eInt .i64))]
        refine run_seq ?_
        refine run_region' ?_
        refine ops_y (wn rfl) rfl (y_lss rfl rfl) ?_
        refine ops_nil ?_
        refine goes_code ?_
        refine run_seq ?_
        refine run_cond (decide (s_37 < (caps_1.length : Int))) rfl (fun hc44 => ?_) (fun hc44 => ?_)
        · replace h := cond_t h hc44
          refine run_skip ?_
          refine goes_code ?_
          refine run_seq ?_
          refine run_block ?_
          refine run_seq ?_
          refine run_region' ?_
          refine ops_y (wn rfl) rfl (y_move rfl) ?_
          obtain ⟨x45, hzx45, hlx45, hxx45, h⟩ := idx_some h
          refine ops_y (wn rfl) rfl (y_indexAddrI (kd := .i64) (i := s_37) 3 Try.runUnderlying46 Try.sizeOf3 rfl rfl rfl reads_ro hzx45 (map_lt hlx45)) ?_
          refine ops_y (wn rfl) rfl (y_load_elem (i := s_37.toNat) 3 Try.isAgg3 rfl rfl reads_ro (map_get hxx45)) ?_
          refine ops_y (wn rfl) rfl (y_assign rfl) ?_
          refine ops_y (wn rfl) rfl (y_assign rfl) ?_
          refine ops_nil ?_
          refine goes_code ?_
          refine run_seq ?_
          refine run_region' ?_
          refine ops_y (wn rfl) rfl (y_fieldAddr_box (sz := 0) Try.runUnderlying23 rfl Try.sizeOf3 rfl) ?_
          refine ops_y (wn rfl) rfl (y_load_box 1 Try.isAgg3 rfl rfl rfl) ?_
          refine ops_y (wn rfl) rfl (y_move rfl) ?_
          refine ops_y (wn rfl) rfl (y_fieldAddr_box (sz := 0) Try.runUnderlying23 rfl Try.sizeOf3 rfl) ?_
          refine ops_y (wn rfl) rfl (y_load_box 1 Try.isAgg3 rfl rfl rfl) ?_
          refine ops_y (wn rfl) rfl (y_mul rfl rfl) ?_
          refine ops_y (wn rfl) rfl (y_min rfl rfl) ?_
          refine ops_y (wn rfl) rfl (y_assign rfl) ?_
          refine ops_nil ?_
          refine goes_code ?_
          refine run_seq ?_
          refine run_weak [(2, nums_2v), (3, boxP b1 0), (12, v39), (64, caps_1v), (65, .int .i64 (caps_1.length : Int)), (66, .int .i64 s_37), (13, .int .i64 s_37), (14, .int .i64 x45), (15, .int .i64 (min x_38 (IntKind.i64.wrap (x45 * b_0.Den))))] [0, 1, 2, 3] [ro nums_2v 1 (nums_2.map (eInt .i64)), box b1 [.int .i64 b_0.Cap, .int .i64 b_0.Num, .int .i64 b_0.Den, .int .i64 x_38, .int .i64 b_0.At], row v39 5 (out_36.map S_api_Bucket.enc), ro caps_1v 1 (caps_1.map (eInt .i64))] (vcons rfl (vcons rfl (vcons rfl (vcons rfl (vcons rfl (vcons rfl (vcons rfl (vcons rfl (vcons rfl (vnil)))))))))) (by decide) rfl ?_
          refine run_region' ?_
          refine ops_y (wn rfl) rfl (y_fieldAddr_box (sz := 0) Try.runUnderlying23 rfl Try.sizeOf3 rfl) ?_
          refine ops_y (wn rfl) rfl (y_load_box 1 Try.isAgg3 rfl rfl rfl) ?_
          refine ops_y (wn rfl) rfl (y_move rfl) ?_
          refine ops_y (wn rfl) rfl (y_sub rfl rfl) ?_
          refine ops_y (wn rfl) rfl (y_fieldAddr_box (sz := 0) Try.runUnderlying23 rfl Try.sizeOf3 rfl) ?_
          refine ops_t (wn rfl) rfl (t_store 1 Try.sizeOf3 rfl rfl rfl rfl (by simp [Value.cells]) (by simp [Value.cells, Value.oneCell'])) ?_
          rintro _ _ ⟨rfl, rfl⟩
          refine ops_turn (retell 1 (g := box b1 [.int .i64 b_0.Cap, .int .i64 b_0.Num, .int .i64 b_0.Den, .int .i64 (IntKind.i64.wrap (x_38 - (min x_38 (IntKind.i64.wrap (x45 * b_0.Den))))), .int .i64 b_0.At]) rfl rfl) ?_
          refine ops_nil ?_
          refine goes_code ?_
          refine run_drawany [ro nums_2v 1 (nums_2.map (eInt .i64)), box b1 [.int .i64 b_0.Cap, .int .i64 b_0.Num, .int .i64 b_0.Den, .int .i64 (IntKind.i64.wrap (x_38 - (min x_38 (IntKind.i64.wrap (x45 * b_0.Den))))), .int .i64 b_0.At], HA.emp, ro caps_1v 1 (caps_1.map (eInt .i64))] (by kernel_rfl) ?_
          refine any_y 0 rfl (by kernel_rfl) (by kernel_rfl) (by kernel_rfl) (sub_same (sub_same (sub_emp (sub_same (sub_nil))))) (wn rfl) rfl (y_move rfl) ?_
          refine any_y 1 rfl (by kernel_rfl) (by kernel_rfl) (by kernel_rfl) (sub_same (sub_same (sub_emp (sub_same (sub_nil))))) (wn rfl) rfl (y_move rfl) ?_
          refine any_y 2 rfl (by kernel_rfl) (by kernel_rfl) (by kernel_rfl) (sub_same (sub_same (sub_emp (sub_same (sub_nil))))) (wn rfl) rfl (y_move rfl) ?_
          refine any_y 3 rfl (by kernel_rfl) (by kernel_rfl) (by kernel_rfl) (sub_same (sub_same (sub_emp (sub_same (sub_nil))))) (wn rfl) rfl (y_move rfl) ?_
          obtain ⟨x46, hzx46, hlx46, hxx46, h⟩ := idx_some h
          refine any_y 4 rfl (by kernel_rfl) (by kernel_rfl) (by kernel_rfl) (sub_same (sub_same (sub_emp (sub_same (sub_nil))))) (wn rfl) rfl (y_indexAddrI (kd := .i64) (i := s_37) 0 Try.runUnderlying46 Try.sizeOf3 rfl rfl rfl reads_ro hzx46 (map_lt hlx46)) ?_
          refine any_y 5 rfl (by kernel_rfl) (by kernel_rfl) (by kernel_rfl) (sub_same (sub_same (sub_emp (sub_same (sub_nil))))) (wn rfl) rfl (y_load_elem (i := s_37.toNat) 0 Try.isAgg3 rfl rfl reads_ro (map_get hxx46)) ?_
          refine any_y 6 rfl (by kernel_rfl) (by kernel_rfl) (by kernel_rfl) (sub_same (sub_same (sub_emp (sub_same (sub_nil))))) (wn rfl) rfl (y_fieldAddr_box (sz := 0) Try.runUnderlying23 rfl Try.sizeOf3 rfl) ?_
          refine any_y 7 rfl (by kernel_rfl) (by kernel_rfl) (by kernel_rfl) (sub_same (sub_same (sub_emp (sub_same (sub_nil))))) (wn rfl) rfl (y_load_box 1 Try.isAgg3 rfl rfl rfl) ?_
          refine any_y 8 rfl (by kernel_rfl) (by kernel_rfl) (by kernel_rfl) (sub_same (sub_same (sub_emp (sub_same (sub_nil))))) (wn rfl) rfl (y_move rfl) ?_
          refine any_y 9 rfl (by kernel_rfl) (by kernel_rfl) (by kernel_rfl) (sub_same (sub_same (sub_emp (sub_same (sub_nil))))) (wn rfl) rfl (y_fieldAddr_box (sz := 0) Try.runUnderlying23 rfl Try.sizeOf3 rfl) ?_
          refine any_y 10 rfl (by kernel_rfl) (by kernel_rfl) (by kernel_rfl) (sub_same (sub_same (sub_emp (sub_same (sub_nil))))) (wn rfl) rfl (y_load_box 1 Try.isAgg3 rfl rfl rfl) ?_
          refine any_y 11 rfl (by kernel_rfl) (by kernel_rfl) (by kernel_rfl) (sub_same (sub_same (sub_emp (sub_same (sub_nil))))) (wn rfl) rfl (y_build_struct (cells := #[.int .i64 x45, .int .i64 x46, .int .i64 b_0.Den, .int .i64 (min x_38 (IntKind.i64.wrap (x45 * b_0.Den))), .int .i64 b_0.At]) [(0, .int .i64 x45), (1, .int .i64 x46), (2, .int .i64 b_0.Den), (3, .int .i64 (min x_38 (IntKind.i64.wrap (x45 * b_0.Den)))), (4, .int .i64 b_0.At)] [(0, [.int .i64 x45]), (1, [.int .i64 x46]), (2, [.int .i64 b_0.Den]), (3, [.int .i64 (min x_38 (IntKind.i64.wrap (x45 * b_0.Den)))]), (4, [.int .i64 b_0.At])] Try.zeroValue23 Try.runUnderlying23 (fs_cons Try.sizeOf3 (fs_cons Try.sizeOf3 (fs_cons Try.sizeOf3 (fs_cons Try.sizeOf3 (fs_cons Try.sizeOf3 fs_nil))))) rfl rfl rfl) ?_
          refine any_all [12] (by kernel_rfl) rfl (anyo_cons ?_ anyo_nil)
          refine any_t rfl (wn rfl) rfl (t_lit [.agg #[.int .i64 x45, .int .i64 x46, .int .i64 b_0.Den, .int .i64 (min x_38 (IntKind.i64.wrap (x45 * b_0.Den))), .int .i64 b_0.At]] Try.runUnderlying51 Try.sizeOf23 Try.zeroValue23 rfl (by decide) (by decide) rfl (by simp [Value.cells])) ?_
          rintro v47 _ ⟨rfl, _⟩
          refine ⟨(sub_same (sub_same (sub_emp (sub_same (sub_nil))))), ?_⟩
          refine any_turn (retell 4 (g := row v47 5 ([(S_api_Bucket.mk x45 x46 b_0.Den (min x_38 (IntKind.i64.wrap (x45 * b_0.Den))) b_0.At)].map S_api_Bucket.enc)) rfl rfl) ?_
          refine any_all [13] (by kernel_rfl) rfl (anyo_cons ?_ anyo_nil)
          obtain ⟨hr49, h⟩ := need_some h
          refine any_t rfl (wn rfl) rfl (t_append (es := 5) 2 rfl Try.runUnderlying51 rfl Try.runUnderlying51 (.inr ⟨_, rfl⟩) Try.typeInfo23 rfl (by decide) Try.zeroValue23 rfl rfl rfl rfl (src_reads 4 rfl reads_row (map_ok S_api_Bucket.enc_ok _)) (map_room hr49 (by decide)) (map_fit hr49)) ?_
          rintro v48 _ rfl
          refine ⟨(sub_same (sub_same (sub_emp (sub_same (sub_nil))))), ?_⟩
          refine any_turn (retell 2 (g := row v48 5 ((out_36 ++ [(S_api_Bucket.mk x45 x46 b_0.Den (min x_38 (IntKind.i64.wrap (x45 * b_0.Den))) b_0.At)]).map S_api_Bucket.enc)) rfl (congrArg (row _ _) List.map_append.symm)) ?_
          refine any_y 14 rfl (by kernel_rfl) (by kernel_rfl) (by kernel_rfl) (sub_same (sub_same (sub_emp (sub_same (sub_nil))))) (wn rfl) rfl (y_assign rfl) ?_
          refine any_nil (by kernel_rfl) ?_
          refine goes_blk ?_
          refine goes_code ?_
          refine run_weak [(2, nums_2v), (3, boxP b1 0), (12, v48), (64, caps_1v), (65, .int .i64 (caps_1.length : Int)), (66, .int .i64 s_37)] [0, 1, 2, 3] [ro nums_2v 1 (nums_2.map (eInt .i64)), box b1 [.int .i64 b_0.Cap, .int .i64 b_0.Num, .int .i64 b_0.Den, .int .i64 (IntKind.i64.wrap (x_38 - (min x_38 (IntKind.i64.wrap (x45 * b_0.Den))))), .int .i64 b_0.At], row v48 5 ((out_36 ++ [(S_api_Bucket.mk x45 x46 b_0.Den (min x_38 (IntKind.i64.wrap (x45 * b_0.Den))) b_0.At)]).map S_api_Bucket.enc), ro caps_1v 1 (caps_1.map (eInt .i64))] (vcons rfl (vcons rfl (vcons rfl (vcons rfl (vcons rfl (vcons rfl (vnil))))))) (by decide) rfl ?_
          refine run_region' ?_
          refine ops_y (wn rfl) rfl (y_add rfl rfl) ?_
          refine ops_y (wn rfl) rfl (y_move rfl) ?_
          refine ops_nil ?_
          obtain rfl := some_eq h
          exact goes_iter hgo41 ((out_36 ++ [(S_api_Bucket.mk x45 x46 b_0.Den (min x_38 (IntKind.i64.wrap (x45 * b_0.Den))) b_0.At)]), (IntKind.i64.wrap (s_37 + 1)), (IntKind.i64.wrap (x_38 - (min x_38 (IntKind.i64.wrap (x45 * b_0.Den)))))) v48 [0, 1, 2, 3] rfl (vcons rfl (vcons rfl (vcons rfl (vcons rfl (vcons rfl (vcons rfl (vnil))))))) (by decide) rfl
        · replace h := cond_f h hc44
          refine run_exit _ rfl ?_
          obtain rfl := some_eq h
          obtain rfl := hstop42 _ rfl
          exact goes_cut hL34 (out_36, v39) [2] (vcons rfl (vnil)) (by decide) rfl rfl
      rintro ⟨out_30, v31⟩ hj
      obtain rfl : o32 = _ := hj
      replace h := after_go ho33
      clear ho33
      change Run _ _ _ (VF.of [(12, v31)]) [row v31 5 (out_30.map S_api_Bucket.enc)]
      refine run_seq ?_
      refine run_region' ?_
      refine ops_y (wn rfl) rfl (y_move rfl) ?_
      refine ops_y (wn rfl) rfl (y_assign rfl) ?_
      refine ops_y (wn rfl) rfl (y_assign rfl) ?_
      refine ops_nil ?_
      refine goes_code ?_
      refine run_ret ?_
      obtain rfl := some_eq h
      refine fin_slots [6, 7] [v31, .int .i64 0] [0] [row v31 5 (out_30.map S_api_Bucket.enc)] Try.results24 rfl (by decide) rfl ?_
      exact ⟨_, rfl, rfl⟩

def law12_sanity (n : Nat) : Option (Bool) :=
  (bucket_New 10 3 2 100).bind fun r1 =>
  (bucket_Take r1.1 100 10).bind fun r4 =>
  (bucket_Refill r4.1 101).bind fun r7 =>
  (bucket_Refill r4.1 102).bind fun r10 =>
  (bucket_Take r7.1 101 2).bind fun r13 =>
  (bucket_Wait r4.1 2).bind fun r16 =>
  (bucket_Wait r4.1 11).bind fun r18 =>
  (bucket_Most r1.1 100 103).bind fun r20 =>
  (bucket_Most r1.1 100 100).bind fun r22 =>
  (bucket_Split n r1.1 [4, 6] [1, 2]).bind fun r26 =>
  cond ((!(((((((((decide (r1.2 = 0) && decide (r4.2 = 0)) && decide (r7.2 = 0)) && decide (r10.2 = 0)) && decide (r13.2 = 4)) && decide (r16.2 = 0)) && decide (r18.2 = 2)) && decide (r20.2 = 0)) && decide (r22.2 = 0)) && decide (r26.2 = 0))) || decide ((r26.1.length : Int) ≠ 2))
    (some false)
    (bindJ (S := Bool)
      (cond (decide (r4.1.Level = 0))
        ((bucket_Tokens r7.1).bind fun r66 =>
        some (.go (decide (r66 = 1))))
        (some (.go false)))
    (fun b60 =>
      bindJ (S := Bool)
        (cond b60
          ((bucket_Tokens r10.1).bind fun r74 =>
          some (.go (decide (r74 = 3))))
          (some (.go false)))
      (fun b68 =>
        bindJ (S := Bool)
          (cond (((b68 && decide (r16.1 = 102)) && decide (r20.1 = 13)) && decide (r22.1 = 0))
            (idx r26.1 0 fun x91 =>
            some (.go (decide (x91.Level = 8))))
            (some (.go false)))
        (fun b85 =>
          bindJ (S := Bool)
            (cond b85
              (idx r26.1 1 fun x98 =>
              some (.go (decide (x98.Level = 12))))
              (some (.go false)))
          (fun b92 =>
            some b92)))))
theorem law12_sanity_ok (n : Nat)  {r : Bool} (h : law12_sanity n = some r) :
    Meets Try.prog 19 [] [] (fun v G => v = .bool r ∧ G = []) := by
  refine fn_of_run Try.func19 rfl Try.ntmps19 rfl (fun w0 o0 => ?_)
  refine run_seq ?_
  refine run_region' ?_
  refine ops_y (wn rfl) rfl (y_assign rfl) ?_
  refine ops_nil ?_
  refine goes_code ?_
  refine run_seq ?_
  refine run_region' ?_
  obtain ⟨r1, hr2, h⟩ := bind_some h
  refine ops_t (wn rfl) rfl (t_call (vs := [.int .i64 10, .int .i64 3, .int .i64 2, .int .i64 100]) (cs := []) [] rfl Try.call9 rfl (bucket_New_ok 10 3 2 100  hr2) shows_nil (.inl rfl)) ?_
  rintro _ _ ⟨_, ⟨rfl, rfl⟩, rfl⟩
  refine ops_y (wn rfl) rfl (y_move rfl) ?_
  refine ops_y (wn rfl) rfl (y_extract rfl rfl) ?_
  refine ops_y (wn rfl) rfl (y_extract rfl rfl) ?_
  refine ops_t (wn rfl) rfl (t_alloc Try.zeroValue23) ?_
  rintro _ _ ⟨b3, rfl, rfl⟩
  refine ops_t (wn rfl) rfl (t_store 0 Try.sizeOf23 rfl rfl rfl rfl (by simp [Value.cells]) (by simp [Value.cells, Value.oneCell'])) ?_
  rintro _ _ ⟨rfl, rfl⟩
  refine ops_turn (retell 0 (g := box b3 [.int .i64 r1.1.Cap, .int .i64 r1.1.Num, .int .i64 r1.1.Den, .int .i64 r1.1.Level, .int .i64 r1.1.At]) rfl rfl) ?_
  refine ops_y (wn rfl) rfl (y_assign rfl) ?_
  refine ops_nil ?_
  refine goes_code ?_
  refine run_seq ?_
  refine run_weak [(1, boxP b3 0), (2, .int .i64 r1.2)] [0] [box b3 [.int .i64 r1.1.Cap, .int .i64 r1.1.Num, .int .i64 r1.1.Den, .int .i64 r1.1.Level, .int .i64 r1.1.At]] (vcons rfl (vcons rfl (vnil))) (by decide) rfl ?_
  refine run_region' ?_
  refine ops_y (wn rfl) rfl (y_load_boxagg (c := [.int .i64 r1.1.Cap, .int .i64 r1.1.Num, .int .i64 r1.1.Den, .int .i64 r1.1.Level, .int .i64 r1.1.At]) 0 Try.isAgg23 Try.sizeOf23 rfl rfl rfl) ?_
  obtain ⟨r4, hr5, h⟩ := bind_some h
  refine ops_t (wn rfl) rfl (t_call (vs := [.agg #[.int .i64 r1.1.Cap, .int .i64 r1.1.Num, .int .i64 r1.1.Den, .int .i64 r1.1.Level, .int .i64 r1.1.At], .int .i64 100, .int .i64 10]) (cs := []) [] rfl Try.call11 rfl (bucket_Take_ok r1.1 100 10  hr5) shows_nil (.inl rfl)) ?_
  rintro _ _ ⟨_, ⟨rfl, rfl⟩, rfl⟩
  refine ops_y (wn rfl) rfl (y_move rfl) ?_
  refine ops_y (wn rfl) rfl (y_extract rfl rfl) ?_
  refine ops_y (wn rfl) rfl (y_extract rfl rfl) ?_
  refine ops_t (wn rfl) rfl (t_alloc Try.zeroValue23) ?_
  rintro _ _ ⟨b6, rfl, rfl⟩
  refine ops_t (wn rfl) rfl (t_store 1 Try.sizeOf23 rfl rfl rfl rfl (by simp [Value.cells]) (by simp [Value.cells, Value.oneCell'])) ?_
  rintro _ _ ⟨rfl, rfl⟩
  refine ops_turn (retell 1 (g := box b6 [.int .i64 r4.1.Cap, .int .i64 r4.1.Num, .int .i64 r4.1.Den, .int .i64 r4.1.Level, .int .i64 r4.1.At]) rfl rfl) ?_
  refine ops_y (wn rfl) rfl (y_assign rfl) ?_
  refine ops_nil ?_
  refine goes_code ?_
  refine run_seq ?_
  refine run_weak [(1, boxP b3 0), (2, .int .i64 r1.2), (3, boxP b6 0), (4, .int .i64 r4.2)] [0, 1] [box b3 [.int .i64 r1.1.Cap, .int .i64 r1.1.Num, .int .i64 r1.1.Den, .int .i64 r1.1.Level, .int .i64 r1.1.At], box b6 [.int .i64 r4.1.Cap, .int .i64 r4.1.Num, .int .i64 r4.1.Den, .int .i64 r4.1.Level, .int .i64 r4.1.At]] (vcons rfl (vcons rfl (vcons rfl (vcons rfl (vnil))))) (by decide) rfl ?_
  refine run_region' ?_
  refine ops_y (wn rfl) rfl (y_load_boxagg (c := [.int .i64 r4.1.Cap, .int .i64 r4.1.Num, .int .i64 r4.1.Den, .int .i64 r4.1.Level, .int .i64 r4.1.At]) 1 Try.isAgg23 Try.sizeOf23 rfl rfl rfl) ?_
  obtain ⟨r7, hr8, h⟩ := bind_some h
  refine ops_t (wn rfl) rfl (t_call (vs := [.agg #[.int .i64 r4.1.Cap, .int .i64 r4.1.Num, .int .i64 r4.1.Den, .int .i64 r4.1.Level, .int .i64 r4.1.At], .int .i64 101]) (cs := []) [] rfl Try.call10 rfl (bucket_Refill_ok r4.1 101  hr8) shows_nil (.inl rfl)) ?_
  rintro _ _ ⟨_, ⟨rfl, rfl⟩, rfl⟩
  refine ops_y (wn rfl) rfl (y_move rfl) ?_
  refine ops_y (wn rfl) rfl (y_extract rfl rfl) ?_
  refine ops_y (wn rfl) rfl (y_extract rfl rfl) ?_
  refine ops_t (wn rfl) rfl (t_alloc Try.zeroValue23) ?_
  rintro _ _ ⟨b9, rfl, rfl⟩
  refine ops_t (wn rfl) rfl (t_store 2 Try.sizeOf23 rfl rfl rfl rfl (by simp [Value.cells]) (by simp [Value.cells, Value.oneCell'])) ?_
  rintro _ _ ⟨rfl, rfl⟩
  refine ops_turn (retell 2 (g := box b9 [.int .i64 r7.1.Cap, .int .i64 r7.1.Num, .int .i64 r7.1.Den, .int .i64 r7.1.Level, .int .i64 r7.1.At]) rfl rfl) ?_
  refine ops_y (wn rfl) rfl (y_assign rfl) ?_
  refine ops_nil ?_
  refine goes_code ?_
  refine run_seq ?_
  refine run_weak [(1, boxP b3 0), (2, .int .i64 r1.2), (3, boxP b6 0), (4, .int .i64 r4.2), (5, boxP b9 0), (6, .int .i64 r7.2)] [0, 1, 2] [box b3 [.int .i64 r1.1.Cap, .int .i64 r1.1.Num, .int .i64 r1.1.Den, .int .i64 r1.1.Level, .int .i64 r1.1.At], box b6 [.int .i64 r4.1.Cap, .int .i64 r4.1.Num, .int .i64 r4.1.Den, .int .i64 r4.1.Level, .int .i64 r4.1.At], box b9 [.int .i64 r7.1.Cap, .int .i64 r7.1.Num, .int .i64 r7.1.Den, .int .i64 r7.1.Level, .int .i64 r7.1.At]] (vcons rfl (vcons rfl (vcons rfl (vcons rfl (vcons rfl (vcons rfl (vnil))))))) (by decide) rfl ?_
  refine run_region' ?_
  refine ops_y (wn rfl) rfl (y_load_boxagg (c := [.int .i64 r4.1.Cap, .int .i64 r4.1.Num, .int .i64 r4.1.Den, .int .i64 r4.1.Level, .int .i64 r4.1.At]) 1 Try.isAgg23 Try.sizeOf23 rfl rfl rfl) ?_
  obtain ⟨r10, hr11, h⟩ := bind_some h
  refine ops_t (wn rfl) rfl (t_call (vs := [.agg #[.int .i64 r4.1.Cap, .int .i64 r4.1.Num, .int .i64 r4.1.Den, .int .i64 r4.1.Level, .int .i64 r4.1.At], .int .i64 102]) (cs := []) [] rfl Try.call10 rfl (bucket_Refill_ok r4.1 102  hr11) shows_nil (.inl rfl)) ?_
  rintro _ _ ⟨_, ⟨rfl, rfl⟩, rfl⟩
  refine ops_y (wn rfl) rfl (y_move rfl) ?_
  refine ops_y (wn rfl) rfl (y_extract rfl rfl) ?_
  refine ops_y (wn rfl) rfl (y_extract rfl rfl) ?_
  refine ops_t (wn rfl) rfl (t_alloc Try.zeroValue23) ?_
  rintro _ _ ⟨b12, rfl, rfl⟩
  refine ops_t (wn rfl) rfl (t_store 3 Try.sizeOf23 rfl rfl rfl rfl (by simp [Value.cells]) (by simp [Value.cells, Value.oneCell'])) ?_
  rintro _ _ ⟨rfl, rfl⟩
  refine ops_turn (retell 3 (g := box b12 [.int .i64 r10.1.Cap, .int .i64 r10.1.Num, .int .i64 r10.1.Den, .int .i64 r10.1.Level, .int .i64 r10.1.At]) rfl rfl) ?_
  refine ops_y (wn rfl) rfl (y_assign rfl) ?_
  refine ops_nil ?_
  refine goes_code ?_
  refine run_seq ?_
  refine run_weak [(1, boxP b3 0), (2, .int .i64 r1.2), (3, boxP b6 0), (4, .int .i64 r4.2), (5, boxP b9 0), (6, .int .i64 r7.2), (7, boxP b12 0), (8, .int .i64 r10.2)] [0, 1, 2, 3] [box b3 [.int .i64 r1.1.Cap, .int .i64 r1.1.Num, .int .i64 r1.1.Den, .int .i64 r1.1.Level, .int .i64 r1.1.At], box b6 [.int .i64 r4.1.Cap, .int .i64 r4.1.Num, .int .i64 r4.1.Den, .int .i64 r4.1.Level, .int .i64 r4.1.At], box b9 [.int .i64 r7.1.Cap, .int .i64 r7.1.Num, .int .i64 r7.1.Den, .int .i64 r7.1.Level, .int .i64 r7.1.At], box b12 [.int .i64 r10.1.Cap, .int .i64 r10.1.Num, .int .i64 r10.1.Den, .int .i64 r10.1.Level, .int .i64 r10.1.At]] (vcons rfl (vcons rfl (vcons rfl (vcons rfl (vcons rfl (vcons rfl (vcons rfl (vcons rfl (vnil))))))))) (by decide) rfl ?_
  refine run_region' ?_
  refine ops_y (wn rfl) rfl (y_load_boxagg (c := [.int .i64 r7.1.Cap, .int .i64 r7.1.Num, .int .i64 r7.1.Den, .int .i64 r7.1.Level, .int .i64 r7.1.At]) 2 Try.isAgg23 Try.sizeOf23 rfl rfl rfl) ?_
  obtain ⟨r13, hr14, h⟩ := bind_some h
  refine ops_t (wn rfl) rfl (t_call (vs := [.agg #[.int .i64 r7.1.Cap, .int .i64 r7.1.Num, .int .i64 r7.1.Den, .int .i64 r7.1.Level, .int .i64 r7.1.At], .int .i64 101, .int .i64 2]) (cs := []) [] rfl Try.call11 rfl (bucket_Take_ok r7.1 101 2  hr14) shows_nil (.inl rfl)) ?_
  rintro _ _ ⟨_, ⟨rfl, rfl⟩, rfl⟩
  refine ops_y (wn rfl) rfl (y_move rfl) ?_
  refine ops_y (wn rfl) rfl (y_extract rfl rfl) ?_
  refine ops_y (wn rfl) rfl (y_extract rfl rfl) ?_
  refine ops_t (wn rfl) rfl (t_alloc Try.zeroValue23) ?_
  rintro _ _ ⟨b15, rfl, rfl⟩
  refine ops_t (wn rfl) rfl (t_store 4 Try.sizeOf23 rfl rfl rfl rfl (by simp [Value.cells]) (by simp [Value.cells, Value.oneCell'])) ?_
  rintro _ _ ⟨rfl, rfl⟩
  refine ops_turn (retell 4 (g := box b15 [.int .i64 r13.1.Cap, .int .i64 r13.1.Num, .int .i64 r13.1.Den, .int .i64 r13.1.Level, .int .i64 r13.1.At]) rfl rfl) ?_
  refine ops_y (wn rfl) rfl (y_assign rfl) ?_
  refine ops_nil ?_
  refine goes_code ?_
  refine run_seq ?_
  refine run_weak [(1, boxP b3 0), (2, .int .i64 r1.2), (3, boxP b6 0), (4, .int .i64 r4.2), (5, boxP b9 0), (6, .int .i64 r7.2), (7, boxP b12 0), (8, .int .i64 r10.2), (10, .int .i64 r13.2)] [0, 1, 2, 3] [box b3 [.int .i64 r1.1.Cap, .int .i64 r1.1.Num, .int .i64 r1.1.Den, .int .i64 r1.1.Level, .int .i64 r1.1.At], box b6 [.int .i64 r4.1.Cap, .int .i64 r4.1.Num, .int .i64 r4.1.Den, .int .i64 r4.1.Level, .int .i64 r4.1.At], box b9 [.int .i64 r7.1.Cap, .int .i64 r7.1.Num, .int .i64 r7.1.Den, .int .i64 r7.1.Level, .int .i64 r7.1.At], box b12 [.int .i64 r10.1.Cap, .int .i64 r10.1.Num, .int .i64 r10.1.Den, .int .i64 r10.1.Level, .int .i64 r10.1.At]] (vcons rfl (vcons rfl (vcons rfl (vcons rfl (vcons rfl (vcons rfl (vcons rfl (vcons rfl (vcons rfl (vnil)))))))))) (by decide) rfl ?_
  refine run_region' ?_
  refine ops_y (wn rfl) rfl (y_load_boxagg (c := [.int .i64 r4.1.Cap, .int .i64 r4.1.Num, .int .i64 r4.1.Den, .int .i64 r4.1.Level, .int .i64 r4.1.At]) 1 Try.isAgg23 Try.sizeOf23 rfl rfl rfl) ?_
  obtain ⟨r16, hr17, h⟩ := bind_some h
  refine ops_t (wn rfl) rfl (t_call (vs := [.agg #[.int .i64 r4.1.Cap, .int .i64 r4.1.Num, .int .i64 r4.1.Den, .int .i64 r4.1.Level, .int .i64 r4.1.At], .int .i64 2]) (cs := []) [] rfl Try.call12 rfl (bucket_Wait_ok r4.1 2  hr17) shows_nil (.inl rfl)) ?_
  rintro _ _ ⟨_, ⟨rfl, rfl⟩, rfl⟩
  refine ops_y (wn rfl) rfl (y_move rfl) ?_
  refine ops_y (wn rfl) rfl (y_extract rfl rfl) ?_
  refine ops_y (wn rfl) rfl (y_extract rfl rfl) ?_
  refine ops_y (wn rfl) rfl (y_assign rfl) ?_
  refine ops_y (wn rfl) rfl (y_assign rfl) ?_
  refine ops_nil ?_
  refine goes_code ?_
  refine run_seq ?_
  refine run_region' ?_
  refine ops_y (wn rfl) rfl (y_load_boxagg (c := [.int .i64 r4.1.Cap, .int .i64 r4.1.Num, .int .i64 r4.1.Den, .int .i64 r4.1.Level, .int .i64 r4.1.At]) 1 Try.isAgg23 Try.sizeOf23 rfl rfl rfl) ?_
  obtain ⟨r18, hr19, h⟩ := bind_some h
  refine ops_t (wn rfl) rfl (t_call (vs := [.agg #[.int .i64 r4.1.Cap, .int .i64 r4.1.Num, .int .i64 r4.1.Den, .int .i64 r4.1.Level, .int .i64 r4.1.At], .int .i64 11]) (cs := []) [] rfl Try.call12 rfl (bucket_Wait_ok r4.1 11  hr19) shows_nil (.inl rfl)) ?_
  rintro _ _ ⟨_, ⟨rfl, rfl⟩, rfl⟩
  refine ops_y (wn rfl) rfl (y_move rfl) ?_
  refine ops_y (wn rfl) rfl (y_extract rfl rfl) ?_
  refine ops_y (wn rfl) rfl (y_extract rfl rfl) ?_
  refine ops_y (wn rfl) rfl (y_assign rfl) ?_
  refine ops_y (wn rfl) rfl (y_assign rfl) ?_
  refine ops_nil ?_
  refine goes_code ?_
  refine run_seq ?_
  refine run_weak [(1, boxP b3 0), (2, .int .i64 r1.2), (3, boxP b6 0), (4, .int .i64 r4.2), (5, boxP b9 0), (6, .int .i64 r7.2), (7, boxP b12 0), (8, .int .i64 r10.2), (10, .int .i64 r13.2), (11, .int .i64 r16.1), (12, .int .i64 r16.2), (14, .int .i64 r18.2)] [0, 1, 2, 3] [box b3 [.int .i64 r1.1.Cap, .int .i64 r1.1.Num, .int .i64 r1.1.Den, .int .i64 r1.1.Level, .int .i64 r1.1.At], box b6 [.int .i64 r4.1.Cap, .int .i64 r4.1.Num, .int .i64 r4.1.Den, .int .i64 r4.1.Level, .int .i64 r4.1.At], box b9 [.int .i64 r7.1.Cap, .int .i64 r7.1.Num, .int .i64 r7.1.Den, .int .i64 r7.1.Level, .int .i64 r7.1.At], box b12 [.int .i64 r10.1.Cap, .int .i64 r10.1.Num, .int .i64 r10.1.Den, .int .i64 r10.1.Level, .int .i64 r10.1.At]] (vcons rfl (vcons rfl (vcons rfl (vcons rfl (vcons rfl (vcons rfl (vcons rfl (vcons rfl (vcons rfl (vcons rfl (vcons rfl (vcons rfl (vnil))))))))))))) (by decide) rfl ?_
  refine run_region' ?_
  refine ops_y (wn rfl) rfl (y_load_boxagg (c := [.int .i64 r1.1.Cap, .int .i64 r1.1.Num, .int .i64 r1.1.Den, .int .i64 r1.1.Level, .int .i64 r1.1.At]) 0 Try.isAgg23 Try.sizeOf23 rfl rfl rfl) ?_
  obtain ⟨r20, hr21, h⟩ := bind_some h
  refine ops_t (wn rfl) rfl (t_call (vs := [.agg #[.int .i64 r1.1.Cap, .int .i64 r1.1.Num, .int .i64 r1.1.Den, .int .i64 r1.1.Level, .int .i64 r1.1.At], .int .i64 100, .int .i64 103]) (cs := []) [] rfl Try.call13 rfl (bucket_Most_ok r1.1 100 103  hr21) shows_nil (.inl rfl)) ?_
  rintro _ _ ⟨_, ⟨rfl, rfl⟩, rfl⟩
  refine ops_y (wn rfl) rfl (y_move rfl) ?_
  refine ops_y (wn rfl) rfl (y_extract rfl rfl) ?_
  refine ops_y (wn rfl) rfl (y_extract rfl rfl) ?_
  refine ops_y (wn rfl) rfl (y_assign rfl) ?_
  refine ops_y (wn rfl) rfl (y_assign rfl) ?_
  refine ops_nil ?_
  refine goes_code ?_
  refine run_seq ?_
  refine run_region' ?_
  refine ops_y (wn rfl) rfl (y_load_boxagg (c := [.int .i64 r1.1.Cap, .int .i64 r1.1.Num, .int .i64 r1.1.Den, .int .i64 r1.1.Level, .int .i64 r1.1.At]) 0 Try.isAgg23 Try.sizeOf23 rfl rfl rfl) ?_
  obtain ⟨r22, hr23, h⟩ := bind_some h
  refine ops_t (wn rfl) rfl (t_call (vs := [.agg #[.int .i64 r1.1.Cap, .int .i64 r1.1.Num, .int .i64 r1.1.Den, .int .i64 r1.1.Level, .int .i64 r1.1.At], .int .i64 100, .int .i64 100]) (cs := []) [] rfl Try.call13 rfl (bucket_Most_ok r1.1 100 100  hr23) shows_nil (.inl rfl)) ?_
  rintro _ _ ⟨_, ⟨rfl, rfl⟩, rfl⟩
  refine ops_y (wn rfl) rfl (y_move rfl) ?_
  refine ops_y (wn rfl) rfl (y_extract rfl rfl) ?_
  refine ops_y (wn rfl) rfl (y_extract rfl rfl) ?_
  refine ops_y (wn rfl) rfl (y_assign rfl) ?_
  refine ops_y (wn rfl) rfl (y_assign rfl) ?_
  refine ops_nil ?_
  refine goes_code ?_
  refine run_seq ?_
  refine run_weak [(1, boxP b3 0), (2, .int .i64 r1.2), (3, boxP b6 0), (4, .int .i64 r4.2), (5, boxP b9 0), (6, .int .i64 r7.2), (7, boxP b12 0), (8, .int .i64 r10.2), (10, .int .i64 r13.2), (11, .int .i64 r16.1), (12, .int .i64 r16.2), (14, .int .i64 r18.2), (15, .int .i64 r20.1), (16, .int .i64 r20.2), (17, .int .i64 r22.1), (18, .int .i64 r22.2)] [0, 1, 2, 3] [box b3 [.int .i64 r1.1.Cap, .int .i64 r1.1.Num, .int .i64 r1.1.Den, .int .i64 r1.1.Level, .int .i64 r1.1.At], box b6 [.int .i64 r4.1.Cap, .int .i64 r4.1.Num, .int .i64 r4.1.Den, .int .i64 r4.1.Level, .int .i64 r4.1.At], box b9 [.int .i64 r7.1.Cap, .int .i64 r7.1.Num, .int .i64 r7.1.Den, .int .i64 r7.1.Level, .int .i64 r7.1.At], box b12 [.int .i64 r10.1.Cap, .int .i64 r10.1.Num, .int .i64 r10.1.Den, .int .i64 r10.1.Level, .int .i64 r10.1.At]] (vcons rfl (vcons rfl (vcons rfl (vcons rfl (vcons rfl (vcons rfl (vcons rfl (vcons rfl (vcons rfl (vcons rfl (vcons rfl (vcons rfl (vcons rfl (vcons rfl (vcons rfl (vcons rfl (vnil))))))))))))))))) (by decide) rfl ?_
  refine run_region' ?_
  refine ops_y (wn rfl) rfl (y_load_boxagg (c := [.int .i64 r1.1.Cap, .int .i64 r1.1.Num, .int .i64 r1.1.Den, .int .i64 r1.1.Level, .int .i64 r1.1.At]) 0 Try.isAgg23 Try.sizeOf23 rfl rfl rfl) ?_
  refine ops_t (wn rfl) rfl (t_lit [.int .i64 4, .int .i64 6] Try.runUnderlying46 Try.sizeOf3 Try.zeroValue3 rfl (by decide) (by decide) rfl (by simp [Value.cells])) ?_
  rintro v24 _ ⟨rfl, _⟩
  refine ops_turn (retell 4 (g := row v24 1 ([4, 6].map (eInt .i64))) rfl rfl) ?_
  refine ops_t (wn rfl) rfl (t_lit [.int .i64 1, .int .i64 2] Try.runUnderlying46 Try.sizeOf3 Try.zeroValue3 rfl (by decide) (by decide) rfl (by simp [Value.cells])) ?_
  rintro v25 _ ⟨rfl, _⟩
  refine ops_turn (retell 5 (g := row v25 1 ([1, 2].map (eInt .i64))) rfl rfl) ?_
  obtain ⟨r26, hr27, h⟩ := bind_some h
  refine ops_t (wn rfl) rfl (t_call (vs := [.agg #[.int .i64 r1.1.Cap, .int .i64 r1.1.Num, .int .i64 r1.1.Den, .int .i64 r1.1.Level, .int .i64 r1.1.At], v24, v25]) (cs := []) [⟨4, true⟩, ⟨5, true⟩] rfl Try.call24 rfl (bucket_Split_ok n r1.1 [4, 6] [1, 2] v24 v25 hr27) (shows_cons 4 true rfl views_row (shows_cons 5 true rfl views_row shows_nil)) (.inr (by rintro _ _ ⟨_, rfl, rfl⟩ g hg; first | (cases hg; done) | (simp only [List.mem_cons, List.not_mem_nil, or_false] at hg; first | (subst hg; first | exact strict_row | exact strict_box) | (rcases hg with rfl | rfl <;> first | exact strict_row | exact strict_box) | (rcases hg with rfl | rfl | rfl <;> first | exact strict_row | exact strict_box))))) ?_
  rintro _ _ ⟨_, ⟨v28, rfl, rfl⟩, rfl⟩
  refine ops_y (wn rfl) rfl (y_move rfl) ?_
  refine ops_y (wn rfl) rfl (y_extract rfl rfl) ?_
  refine ops_y (wn rfl) rfl (y_extract rfl rfl) ?_
  refine ops_y (wn rfl) rfl (y_assign rfl) ?_
  refine ops_y (wn rfl) rfl (y_assign rfl) ?_
  refine ops_nil ?_
  refine goes_code ?_
  refine run_seq ?_
  refine run_weak [(2, .int .i64 r1.2), (3, boxP b6 0), (4, .int .i64 r4.2), (5, boxP b9 0), (6, .int .i64 r7.2), (7, boxP b12 0), (8, .int .i64 r10.2), (10, .int .i64 r13.2), (11, .int .i64 r16.1), (12, .int .i64 r16.2), (14, .int .i64 r18.2), (15, .int .i64 r20.1), (16, .int .i64 r20.2), (17, .int .i64 r22.1), (18, .int .i64 r22.2), (19, v28), (20, .int .i64 r26.2)] [1, 2, 3, 6] [box b6 [.int .i64 r4.1.Cap, .int .i64 r4.1.Num, .int .i64 r4.1.Den, .int .i64 r4.1.Level, .int .i64 r4.1.At], box b9 [.int .i64 r7.1.Cap, .int .i64 r7.1.Num, .int .i64 r7.1.Den, .int .i64 r7.1.Level, .int .i64 r7.1.At], box b12 [.int .i64 r10.1.Cap, .int .i64 r10.1.Num, .int .i64 r10.1.Den, .int .i64 r10.1.Level, .int .i64 r10.1.At], row v28 5 (r26.1.map S_api_Bucket.enc)] (vcons rfl (vcons rfl (vcons rfl (vcons rfl (vcons rfl (vcons rfl (vcons rfl (vcons rfl (vcons rfl (vcons rfl (vcons rfl (vcons rfl (vcons rfl (vcons rfl (vcons rfl (vcons rfl (vcons rfl (vnil)))))))))))))))))) (by decide) rfl ?_
  refine run_region' ?_
  refine ops_y (wn rfl) rfl (y_move rfl) ?_
  refine ops_y (wn rfl) rfl (y_eql rfl rfl) ?_
  refine ops_y (wn rfl) rfl (y_move rfl) ?_
  refine ops_cut 3 Bool (fun σ => [(3, boxP b6 0), (5, boxP b9 0), (6, .int .i64 r7.2), (7, boxP b12 0), (8, .int .i64 r10.2), (10, .int .i64 r13.2), (11, .int .i64 r16.1), (12, .int .i64 r16.2), (14, .int .i64 r18.2), (15, .int .i64 r20.1), (16, .int .i64 r20.2), (17, .int .i64 r22.1), (18, .int .i64 r22.2), (19, v28), (20, .int .i64 r26.2), (78, .bool σ)]) (fun σ => [box b6 [.int .i64 r4.1.Cap, .int .i64 r4.1.Num, .int .i64 r4.1.Den, .int .i64 r4.1.Level, .int .i64 r4.1.At], box b9 [.int .i64 r7.1.Cap, .int .i64 r7.1.Num, .int .i64 r7.1.Den, .int .i64 r7.1.Level, .int .i64 r7.1.At], box b12 [.int .i64 r10.1.Cap, .int .i64 r10.1.Num, .int .i64 r10.1.Den, .int .i64 r10.1.Level, .int .i64 r10.1.At], row v28 5 (r26.1.map S_api_Bucket.enc)]) (fun σ => σ = (decide (r1.2 = 0) && decide (r4.2 = 0))) (fun L29 hL30 => ?_) ?_
  · refine ops_split 75 (decide (r1.2 = 0)) rfl (fun hg31 => ?_) (fun hg31 => ?_)
    · skip
      refine ops_y (wg 2 true 75 rfl rfl rfl rfl) rfl (y_move rfl) ?_
      refine ops_y (wg 2 true 75 rfl rfl rfl rfl) rfl (y_eql rfl rfl) ?_
      refine ops_y (wn rfl) rfl (y_pick (b := true) rfl rfl) ?_
      refine ops_nil ?_
      exact goes_cut hL30 (decide (r4.2 = 0)) [0, 1, 2, 3] (vcons rfl (vcons rfl (vcons rfl (vcons rfl (vcons rfl (vcons rfl (vcons rfl (vcons rfl (vcons rfl (vcons rfl (vcons rfl (vcons rfl (vcons rfl (vcons rfl (vcons rfl (vcons rfl (vnil))))))))))))))))) (by decide) rfl (by rw [hg31]; simp)
    · skip
      refine ops_no 2 true 75 rfl rfl rfl rfl rfl ?_
      refine ops_no 2 true 75 rfl rfl rfl rfl rfl ?_
      refine ops_y (wn rfl) rfl (y_pick (b := false) rfl rfl) ?_
      refine ops_nil ?_
      exact goes_cut hL30 false [0, 1, 2, 3] (vcons rfl (vcons rfl (vcons rfl (vcons rfl (vcons rfl (vcons rfl (vcons rfl (vcons rfl (vcons rfl (vcons rfl (vcons rfl (vcons rfl (vcons rfl (vcons rfl (vcons rfl (vcons rfl (vnil))))))))))))))))) (by decide) rfl (by rw [hg31]; simp)
  rintro _ rfl
  refine ops_y (wn rfl) rfl (y_move rfl) ?_
  refine ops_cut 3 Bool (fun σ => [(3, boxP b6 0), (5, boxP b9 0), (7, boxP b12 0), (8, .int .i64 r10.2), (10, .int .i64 r13.2), (11, .int .i64 r16.1), (12, .int .i64 r16.2), (14, .int .i64 r18.2), (15, .int .i64 r20.1), (16, .int .i64 r20.2), (17, .int .i64 r22.1), (18, .int .i64 r22.2), (19, v28), (20, .int .i64 r26.2), (82, .bool σ)]) (fun σ => [box b6 [.int .i64 r4.1.Cap, .int .i64 r4.1.Num, .int .i64 r4.1.Den, .int .i64 r4.1.Level, .int .i64 r4.1.At], box b9 [.int .i64 r7.1.Cap, .int .i64 r7.1.Num, .int .i64 r7.1.Den, .int .i64 r7.1.Level, .int .i64 r7.1.At], box b12 [.int .i64 r10.1.Cap, .int .i64 r10.1.Num, .int .i64 r10.1.Den, .int .i64 r10.1.Level, .int .i64 r10.1.At], row v28 5 (r26.1.map S_api_Bucket.enc)]) (fun σ => σ = ((decide (r1.2 = 0) && decide (r4.2 = 0)) && decide (r7.2 = 0))) (fun L32 hL33 => ?_) ?_
  · refine ops_split 79 (decide (r1.2 = 0) && decide (r4.2 = 0)) rfl (fun hg34 => ?_) (fun hg34 => ?_)
    · skip
      refine ops_y (wg 6 true 79 rfl rfl rfl rfl) rfl (y_move rfl) ?_
      refine ops_y (wg 6 true 79 rfl rfl rfl rfl) rfl (y_eql rfl rfl) ?_
      refine ops_y (wn rfl) rfl (y_pick (b := true) rfl rfl) ?_
      refine ops_nil ?_
      exact goes_cut hL33 (decide (r7.2 = 0)) [0, 1, 2, 3] (vcons rfl (vcons rfl (vcons rfl (vcons rfl (vcons rfl (vcons rfl (vcons rfl (vcons rfl (vcons rfl (vcons rfl (vcons rfl (vcons rfl (vcons rfl (vcons rfl (vcons rfl (vnil)))))))))))))))) (by decide) rfl (by rw [hg34]; simp)
    · skip
      refine ops_no 6 true 79 rfl rfl rfl rfl rfl ?_
      refine ops_no 6 true 79 rfl rfl rfl rfl rfl ?_
      refine ops_y (wn rfl) rfl (y_pick (b := false) rfl rfl) ?_
      refine ops_nil ?_
      exact goes_cut hL33 false [0, 1, 2, 3] (vcons rfl (vcons rfl (vcons rfl (vcons rfl (vcons rfl (vcons rfl (vcons rfl (vcons rfl (vcons rfl (vcons rfl (vcons rfl (vcons rfl (vcons rfl (vcons rfl (vcons rfl (vnil)))))))))))))))) (by decide) rfl (by rw [hg34]; simp)
  rintro _ rfl
  refine ops_y (wn rfl) rfl (y_move rfl) ?_
  refine ops_cut 3 Bool (fun σ => [(3, boxP b6 0), (5, boxP b9 0), (7, boxP b12 0), (10, .int .i64 r13.2), (11, .int .i64 r16.1), (12, .int .i64 r16.2), (14, .int .i64 r18.2), (15, .int .i64 r20.1), (16, .int .i64 r20.2), (17, .int .i64 r22.1), (18, .int .i64 r22.2), (19, v28), (20, .int .i64 r26.2), (86, .bool σ)]) (fun σ => [box b6 [.int .i64 r4.1.Cap, .int .i64 r4.1.Num, .int .i64 r4.1.Den, .int .i64 r4.1.Level, .int .i64 r4.1.At], box b9 [.int .i64 r7.1.Cap, .int .i64 r7.1.Num, .int .i64 r7.1.Den, .int .i64 r7.1.Level, .int .i64 r7.1.At], box b12 [.int .i64 r10.1.Cap, .int .i64 r10.1.Num, .int .i64 r10.1.Den, .int .i64 r10.1.Level, .int .i64 r10.1.At], row v28 5 (r26.1.map S_api_Bucket.enc)]) (fun σ => σ = (((decide (r1.2 = 0) && decide (r4.2 = 0)) && decide (r7.2 = 0)) && decide (r10.2 = 0))) (fun L35 hL36 => ?_) ?_
  · refine ops_split 83 ((decide (r1.2 = 0) && decide (r4.2 = 0)) && decide (r7.2 = 0)) rfl (fun hg37 => ?_) (fun hg37 => ?_)
    · skip
      refine ops_y (wg 10 true 83 rfl rfl rfl rfl) rfl (y_move rfl) ?_
      refine ops_y (wg 10 true 83 rfl rfl rfl rfl) rfl (y_eql rfl rfl) ?_
      refine ops_y (wn rfl) rfl (y_pick (b := true) rfl rfl) ?_
      refine ops_nil ?_
      exact goes_cut hL36 (decide (r10.2 = 0)) [0, 1, 2, 3] (vcons rfl (vcons rfl (vcons rfl (vcons rfl (vcons rfl (vcons rfl (vcons rfl (vcons rfl (vcons rfl (vcons rfl (vcons rfl (vcons rfl (vcons rfl (vcons rfl (vnil))))))))))))))) (by decide) rfl (by rw [hg37]; simp)
    · skip
      refine ops_no 10 true 83 rfl rfl rfl rfl rfl ?_
      refine ops_no 10 true 83 rfl rfl rfl rfl rfl ?_
      refine ops_y (wn rfl) rfl (y_pick (b := false) rfl rfl) ?_
      refine ops_nil ?_
      exact goes_cut hL36 false [0, 1, 2, 3] (vcons rfl (vcons rfl (vcons rfl (vcons rfl (vcons rfl (vcons rfl (vcons rfl (vcons rfl (vcons rfl (vcons rfl (vcons rfl (vcons rfl (vcons rfl (vcons rfl (vnil))))))))))))))) (by decide) rfl (by rw [hg37]; simp)
  rintro _ rfl
  refine ops_y (wn rfl) rfl (y_move rfl) ?_
  refine ops_cut 3 Bool (fun σ => [(3, boxP b6 0), (5, boxP b9 0), (7, boxP b12 0), (11, .int .i64 r16.1), (12, .int .i64 r16.2), (14, .int .i64 r18.2), (15, .int .i64 r20.1), (16, .int .i64 r20.2), (17, .int .i64 r22.1), (18, .int .i64 r22.2), (19, v28), (20, .int .i64 r26.2), (90, .bool σ)]) (fun σ => [box b6 [.int .i64 r4.1.Cap, .int .i64 r4.1.Num, .int .i64 r4.1.Den, .int .i64 r4.1.Level, .int .i64 r4.1.At], box b9 [.int .i64 r7.1.Cap, .int .i64 r7.1.Num, .int .i64 r7.1.Den, .int .i64 r7.1.Level, .int .i64 r7.1.At], box b12 [.int .i64 r10.1.Cap, .int .i64 r10.1.Num, .int .i64 r10.1.Den, .int .i64 r10.1.Level, .int .i64 r10.1.At], row v28 5 (r26.1.map S_api_Bucket.enc)]) (fun σ => σ = ((((decide (r1.2 = 0) && decide (r4.2 = 0)) && decide (r7.2 = 0)) && decide (r10.2 = 0)) && decide (r13.2 = 4))) (fun L38 hL39 => ?_) ?_
  · refine ops_split 87 (((decide (r1.2 = 0) && decide (r4.2 = 0)) && decide (r7.2 = 0)) && decide (r10.2 = 0)) rfl (fun hg40 => ?_) (fun hg40 => ?_)
    · skip
      refine ops_y (wg 14 true 87 rfl rfl rfl rfl) rfl (y_move rfl) ?_
      refine ops_y (wg 14 true 87 rfl rfl rfl rfl) rfl (y_eql rfl rfl) ?_
      refine ops_y (wn rfl) rfl (y_pick (b := true) rfl rfl) ?_
      refine ops_nil ?_
      exact goes_cut hL39 (decide (r13.2 = 4)) [0, 1, 2, 3] (vcons rfl (vcons rfl (vcons rfl (vcons rfl (vcons rfl (vcons rfl (vcons rfl (vcons rfl (vcons rfl (vcons rfl (vcons rfl (vcons rfl (vcons rfl (vnil)))))))))))))) (by decide) rfl (by rw [hg40]; simp)
    · skip
      refine ops_no 14 true 87 rfl rfl rfl rfl rfl ?_
      refine ops_no 14 true 87 rfl rfl rfl rfl rfl ?_
      refine ops_y (wn rfl) rfl (y_pick (b := false) rfl rfl) ?_
      refine ops_nil ?_
      exact goes_cut hL39 false [0, 1, 2, 3] (vcons rfl (vcons rfl (vcons rfl (vcons rfl (vcons rfl (vcons rfl (vcons rfl (vcons rfl (vcons rfl (vcons rfl (vcons rfl (vcons rfl (vcons rfl (vnil)))))))))))))) (by decide) rfl (by rw [hg40]; simp)
  rintro _ rfl
  refine ops_y (wn rfl) rfl (y_move rfl) ?_
  refine ops_cut 3 Bool (fun σ => [(3, boxP b6 0), (5, boxP b9 0), (7, boxP b12 0), (11, .int .i64 r16.1), (14, .int .i64 r18.2), (15, .int .i64 r20.1), (16, .int .i64 r20.2), (17, .int .i64 r22.1), (18, .int .i64 r22.2), (19, v28), (20, .int .i64 r26.2), (94, .bool σ)]) (fun σ => [box b6 [.int .i64 r4.1.Cap, .int .i64 r4.1.Num, .int .i64 r4.1.Den, .int .i64 r4.1.Level, .int .i64 r4.1.At], box b9 [.int .i64 r7.1.Cap, .int .i64 r7.1.Num, .int .i64 r7.1.Den, .int .i64 r7.1.Level, .int .i64 r7.1.At], box b12 [.int .i64 r10.1.Cap, .int .i64 r10.1.Num, .int .i64 r10.1.Den, .int .i64 r10.1.Level, .int .i64 r10.1.At], row v28 5 (r26.1.map S_api_Bucket.enc)]) (fun σ => σ = (((((decide (r1.2 = 0) && decide (r4.2 = 0)) && decide (r7.2 = 0)) && decide (r10.2 = 0)) && decide (r13.2 = 4)) && decide (r16.2 = 0))) (fun L41 hL42 => ?_) ?_
  · refine ops_split 91 ((((decide (r1.2 = 0) && decide (r4.2 = 0)) && decide (r7.2 = 0)) && decide (r10.2 = 0)) && decide (r13.2 = 4)) rfl (fun hg43 => ?_) (fun hg43 => ?_)
    · skip
      refine ops_y (wg 18 true 91 rfl rfl rfl rfl) rfl (y_move rfl) ?_
      refine ops_y (wg 18 true 91 rfl rfl rfl rfl) rfl (y_eql rfl rfl) ?_
      refine ops_y (wn rfl) rfl (y_pick (b := true) rfl rfl) ?_
      refine ops_nil ?_
      exact goes_cut hL42 (decide (r16.2 = 0)) [0, 1, 2, 3] (vcons rfl (vcons rfl (vcons rfl (vcons rfl (vcons rfl (vcons rfl (vcons rfl (vcons rfl (vcons rfl (vcons rfl (vcons rfl (vcons rfl (vnil))))))))))))) (by decide) rfl (by rw [hg43]; simp)
    · skip
      refine ops_no 18 true 91 rfl rfl rfl rfl rfl ?_
      refine ops_no 18 true 91 rfl rfl rfl rfl rfl ?_
      refine ops_y (wn rfl) rfl (y_pick (b := false) rfl rfl) ?_
      refine ops_nil ?_
      exact goes_cut hL42 false [0, 1, 2, 3] (vcons rfl (vcons rfl (vcons rfl (vcons rfl (vcons rfl (vcons rfl (vcons rfl (vcons rfl (vcons rfl (vcons rfl (vcons rfl (vcons rfl (vnil))))))))))))) (by decide) rfl (by rw [hg43]; simp)
  rintro _ rfl
  refine ops_y (wn rfl) rfl (y_move rfl) ?_
  refine ops_cut 3 Bool (fun σ => [(3, boxP b6 0), (5, boxP b9 0), (7, boxP b12 0), (11, .int .i64 r16.1), (15, .int .i64 r20.1), (16, .int .i64 r20.2), (17, .int .i64 r22.1), (18, .int .i64 r22.2), (19, v28), (20, .int .i64 r26.2), (98, .bool σ)]) (fun σ => [box b6 [.int .i64 r4.1.Cap, .int .i64 r4.1.Num, .int .i64 r4.1.Den, .int .i64 r4.1.Level, .int .i64 r4.1.At], box b9 [.int .i64 r7.1.Cap, .int .i64 r7.1.Num, .int .i64 r7.1.Den, .int .i64 r7.1.Level, .int .i64 r7.1.At], box b12 [.int .i64 r10.1.Cap, .int .i64 r10.1.Num, .int .i64 r10.1.Den, .int .i64 r10.1.Level, .int .i64 r10.1.At], row v28 5 (r26.1.map S_api_Bucket.enc)]) (fun σ => σ = ((((((decide (r1.2 = 0) && decide (r4.2 = 0)) && decide (r7.2 = 0)) && decide (r10.2 = 0)) && decide (r13.2 = 4)) && decide (r16.2 = 0)) && decide (r18.2 = 2))) (fun L44 hL45 => ?_) ?_
  · refine ops_split 95 (((((decide (r1.2 = 0) && decide (r4.2 = 0)) && decide (r7.2 = 0)) && decide (r10.2 = 0)) && decide (r13.2 = 4)) && decide (r16.2 = 0)) rfl (fun hg46 => ?_) (fun hg46 => ?_)
    · skip
      refine ops_y (wg 22 true 95 rfl rfl rfl rfl) rfl (y_move rfl) ?_
      refine ops_y (wg 22 true 95 rfl rfl rfl rfl) rfl (y_eql rfl rfl) ?_
      refine ops_y (wn rfl) rfl (y_pick (b := true) rfl rfl) ?_
      refine ops_nil ?_
      exact goes_cut hL45 (decide (r18.2 = 2)) [0, 1, 2, 3] (vcons rfl (vcons rfl (vcons rfl (vcons rfl (vcons rfl (vcons rfl (vcons rfl (vcons rfl (vcons rfl (vcons rfl (vcons rfl (vnil)))))))))))) (by decide) rfl (by rw [hg46]; simp)
    · skip
      refine ops_no 22 true 95 rfl rfl rfl rfl rfl ?_
      refine ops_no 22 true 95 rfl rfl rfl rfl rfl ?_
      refine ops_y (wn rfl) rfl (y_pick (b := false) rfl rfl) ?_
      refine ops_nil ?_
      exact goes_cut hL45 false [0, 1, 2, 3] (vcons rfl (vcons rfl (vcons rfl (vcons rfl (vcons rfl (vcons rfl (vcons rfl (vcons rfl (vcons rfl (vcons rfl (vcons rfl (vnil)))))))))))) (by decide) rfl (by rw [hg46]; simp)
  rintro _ rfl
  refine ops_y (wn rfl) rfl (y_move rfl) ?_
  refine ops_cut 3 Bool (fun σ => [(3, boxP b6 0), (5, boxP b9 0), (7, boxP b12 0), (11, .int .i64 r16.1), (15, .int .i64 r20.1), (17, .int .i64 r22.1), (18, .int .i64 r22.2), (19, v28), (20, .int .i64 r26.2), (102, .bool σ)]) (fun σ => [box b6 [.int .i64 r4.1.Cap, .int .i64 r4.1.Num, .int .i64 r4.1.Den, .int .i64 r4.1.Level, .int .i64 r4.1.At], box b9 [.int .i64 r7.1.Cap, .int .i64 r7.1.Num, .int .i64 r7.1.Den, .int .i64 r7.1.Level, .int .i64 r7.1.At], box b12 [.int .i64 r10.1.Cap, .int .i64 r10.1.Num, .int .i64 r10.1.Den, .int .i64 r10.1.Level, .int .i64 r10.1.At], row v28 5 (r26.1.map S_api_Bucket.enc)]) (fun σ => σ = (((((((decide (r1.2 = 0) && decide (r4.2 = 0)) && decide (r7.2 = 0)) && decide (r10.2 = 0)) && decide (r13.2 = 4)) && decide (r16.2 = 0)) && decide (r18.2 = 2)) && decide (r20.2 = 0))) (fun L47 hL48 => ?_) ?_
  · refine ops_split 99 ((((((decide (r1.2 = 0) && decide (r4.2 = 0)) && decide (r7.2 = 0)) && decide (r10.2 = 0)) && decide (r13.2 = 4)) && decide (r16.2 = 0)) && decide (r18.2 = 2)) rfl (fun hg49 => ?_) (fun hg49 => ?_)
    · skip
      refine ops_y (wg 26 true 99 rfl rfl rfl rfl) rfl (y_move rfl) ?_
      refine ops_y (wg 26 true 99 rfl rfl rfl rfl) rfl (y_eql rfl rfl) ?_
      refine ops_y (wn rfl) rfl (y_pick (b := true) rfl rfl) ?_
      refine ops_nil ?_
      exact goes_cut hL48 (decide (r20.2 = 0)) [0, 1, 2, 3] (vcons rfl (vcons rfl (vcons rfl (vcons rfl (vcons rfl (vcons rfl (vcons rfl (vcons rfl (vcons rfl (vcons rfl (vnil))))))))))) (by decide) rfl (by rw [hg49]; simp)
    · skip
      refine ops_no 26 true 99 rfl rfl rfl rfl rfl ?_
      refine ops_no 26 true 99 rfl rfl rfl rfl rfl ?_
      refine ops_y (wn rfl) rfl (y_pick (b := false) rfl rfl) ?_
      refine ops_nil ?_
      exact goes_cut hL48 false [0, 1, 2, 3] (vcons rfl (vcons rfl (vcons rfl (vcons rfl (vcons rfl (vcons rfl (vcons rfl (vcons rfl (vcons rfl (vcons rfl (vnil))))))))))) (by decide) rfl (by rw [hg49]; simp)
  rintro _ rfl
  refine ops_y (wn rfl) rfl (y_move rfl) ?_
  refine ops_cut 3 Bool (fun σ => [(3, boxP b6 0), (5, boxP b9 0), (7, boxP b12 0), (11, .int .i64 r16.1), (15, .int .i64 r20.1), (17, .int .i64 r22.1), (19, v28), (20, .int .i64 r26.2), (106, .bool σ)]) (fun σ => [box b6 [.int .i64 r4.1.Cap, .int .i64 r4.1.Num, .int .i64 r4.1.Den, .int .i64 r4.1.Level, .int .i64 r4.1.At], box b9 [.int .i64 r7.1.Cap, .int .i64 r7.1.Num, .int .i64 r7.1.Den, .int .i64 r7.1.Level, .int .i64 r7.1.At], box b12 [.int .i64 r10.1.Cap, .int .i64 r10.1.Num, .int .i64 r10.1.Den, .int .i64 r10.1.Level, .int .i64 r10.1.At], row v28 5 (r26.1.map S_api_Bucket.enc)]) (fun σ => σ = ((((((((decide (r1.2 = 0) && decide (r4.2 = 0)) && decide (r7.2 = 0)) && decide (r10.2 = 0)) && decide (r13.2 = 4)) && decide (r16.2 = 0)) && decide (r18.2 = 2)) && decide (r20.2 = 0)) && decide (r22.2 = 0))) (fun L50 hL51 => ?_) ?_
  · refine ops_split 103 (((((((decide (r1.2 = 0) && decide (r4.2 = 0)) && decide (r7.2 = 0)) && decide (r10.2 = 0)) && decide (r13.2 = 4)) && decide (r16.2 = 0)) && decide (r18.2 = 2)) && decide (r20.2 = 0)) rfl (fun hg52 => ?_) (fun hg52 => ?_)
    · skip
      refine ops_y (wg 30 true 103 rfl rfl rfl rfl) rfl (y_move rfl) ?_
      refine ops_y (wg 30 true 103 rfl rfl rfl rfl) rfl (y_eql rfl rfl) ?_
      refine ops_y (wn rfl) rfl (y_pick (b := true) rfl rfl) ?_
      refine ops_nil ?_
      exact goes_cut hL51 (decide (r22.2 = 0)) [0, 1, 2, 3] (vcons rfl (vcons rfl (vcons rfl (vcons rfl (vcons rfl (vcons rfl (vcons rfl (vcons rfl (vcons rfl (vnil)))))))))) (by decide) rfl (by rw [hg52]; simp)
    · skip
      refine ops_no 30 true 103 rfl rfl rfl rfl rfl ?_
      refine ops_no 30 true 103 rfl rfl rfl rfl rfl ?_
      refine ops_y (wn rfl) rfl (y_pick (b := false) rfl rfl) ?_
      refine ops_nil ?_
      exact goes_cut hL51 false [0, 1, 2, 3] (vcons rfl (vcons rfl (vcons rfl (vcons rfl (vcons rfl (vcons rfl (vcons rfl (vcons rfl (vcons rfl (vnil)))))))))) (by decide) rfl (by rw [hg52]; simp)
  rintro _ rfl
  refine ops_y (wn rfl) rfl (y_move rfl) ?_
  refine ops_cut 3 Bool (fun σ => [(3, boxP b6 0), (5, boxP b9 0), (7, boxP b12 0), (11, .int .i64 r16.1), (15, .int .i64 r20.1), (17, .int .i64 r22.1), (19, v28), (110, .bool σ)]) (fun σ => [box b6 [.int .i64 r4.1.Cap, .int .i64 r4.1.Num, .int .i64 r4.1.Den, .int .i64 r4.1.Level, .int .i64 r4.1.At], box b9 [.int .i64 r7.1.Cap, .int .i64 r7.1.Num, .int .i64 r7.1.Den, .int .i64 r7.1.Level, .int .i64 r7.1.At], box b12 [.int .i64 r10.1.Cap, .int .i64 r10.1.Num, .int .i64 r10.1.Den, .int .i64 r10.1.Level, .int .i64 r10.1.At], row v28 5 (r26.1.map S_api_Bucket.enc)]) (fun σ => σ = (((((((((decide (r1.2 = 0) && decide (r4.2 = 0)) && decide (r7.2 = 0)) && decide (r10.2 = 0)) && decide (r13.2 = 4)) && decide (r16.2 = 0)) && decide (r18.2 = 2)) && decide (r20.2 = 0)) && decide (r22.2 = 0)) && decide (r26.2 = 0))) (fun L53 hL54 => ?_) ?_
  · refine ops_split 107 ((((((((decide (r1.2 = 0) && decide (r4.2 = 0)) && decide (r7.2 = 0)) && decide (r10.2 = 0)) && decide (r13.2 = 4)) && decide (r16.2 = 0)) && decide (r18.2 = 2)) && decide (r20.2 = 0)) && decide (r22.2 = 0)) rfl (fun hg55 => ?_) (fun hg55 => ?_)
    · skip
      refine ops_y (wg 34 true 107 rfl rfl rfl rfl) rfl (y_move rfl) ?_
      refine ops_y (wg 34 true 107 rfl rfl rfl rfl) rfl (y_eql rfl rfl) ?_
      refine ops_y (wn rfl) rfl (y_pick (b := true) rfl rfl) ?_
      refine ops_nil ?_
      exact goes_cut hL54 (decide (r26.2 = 0)) [0, 1, 2, 3] (vcons rfl (vcons rfl (vcons rfl (vcons rfl (vcons rfl (vcons rfl (vcons rfl (vcons rfl (vnil))))))))) (by decide) rfl (by rw [hg55]; simp)
    · skip
      refine ops_no 34 true 107 rfl rfl rfl rfl rfl ?_
      refine ops_no 34 true 107 rfl rfl rfl rfl rfl ?_
      refine ops_y (wn rfl) rfl (y_pick (b := false) rfl rfl) ?_
      refine ops_nil ?_
      exact goes_cut hL54 false [0, 1, 2, 3] (vcons rfl (vcons rfl (vcons rfl (vcons rfl (vcons rfl (vcons rfl (vcons rfl (vcons rfl (vnil))))))))) (by decide) rfl (by rw [hg55]; simp)
  rintro _ rfl
  refine ops_y (wn rfl) rfl (y_assign rfl) ?_
  refine ops_nil ?_
  refine goes_code ?_
  refine run_seq ?_
  refine run_seq ?_
  refine run_region' ?_
  refine ops_y (wn rfl) rfl (y_move rfl) ?_
  refine ops_y (wn rfl) rfl (y_not rfl) ?_
  refine ops_y (wn rfl) rfl (y_move rfl) ?_
  refine ops_cut 4 Bool (fun σ => [(3, boxP b6 0), (5, boxP b9 0), (7, boxP b12 0), (11, .int .i64 r16.1), (15, .int .i64 r20.1), (17, .int .i64 r22.1), (19, v28), (117, .bool σ)]) (fun σ => [box b6 [.int .i64 r4.1.Cap, .int .i64 r4.1.Num, .int .i64 r4.1.Den, .int .i64 r4.1.Level, .int .i64 r4.1.At], box b9 [.int .i64 r7.1.Cap, .int .i64 r7.1.Num, .int .i64 r7.1.Den, .int .i64 r7.1.Level, .int .i64 r7.1.At], box b12 [.int .i64 r10.1.Cap, .int .i64 r10.1.Num, .int .i64 r10.1.Den, .int .i64 r10.1.Level, .int .i64 r10.1.At], row v28 5 (r26.1.map S_api_Bucket.enc)]) (fun σ => σ = ((!(((((((((decide (r1.2 = 0) && decide (r4.2 = 0)) && decide (r7.2 = 0)) && decide (r10.2 = 0)) && decide (r13.2 = 4)) && decide (r16.2 = 0)) && decide (r18.2 = 2)) && decide (r20.2 = 0)) && decide (r22.2 = 0)) && decide (r26.2 = 0))) || decide ((r26.1.length : Int) ≠ 2))) (fun L56 hL57 => ?_) ?_
  · refine ops_split 113 (!(((((((((decide (r1.2 = 0) && decide (r4.2 = 0)) && decide (r7.2 = 0)) && decide (r10.2 = 0)) && decide (r13.2 = 4)) && decide (r16.2 = 0)) && decide (r18.2 = 2)) && decide (r20.2 = 0)) && decide (r22.2 = 0)) && decide (r26.2 = 0))) rfl (fun hg58 => ?_) (fun hg58 => ?_)
    · skip
      refine ops_no 2 false 113 rfl rfl rfl rfl rfl ?_
      refine ops_no 2 false 113 rfl rfl rfl rfl rfl ?_
      refine ops_no 2 false 113 rfl rfl rfl rfl rfl ?_
      refine ops_y (wn rfl) rfl (y_pick (b := true) rfl rfl) ?_
      refine ops_nil ?_
      exact goes_cut hL57 true [0, 1, 2, 3] (vcons rfl (vcons rfl (vcons rfl (vcons rfl (vcons rfl (vcons rfl (vcons rfl (vcons rfl (vnil))))))))) (by decide) rfl (by rw [hg58]; simp)
    · skip
      refine ops_y (wg 2 false 113 rfl rfl rfl rfl) rfl (y_move rfl) ?_
      refine ops_y (wg 2 false 113 rfl rfl rfl rfl) rfl ((y_len 3 rfl Try.runUnderlying51 rfl rfl reads_row).to (v_len S_api_Bucket.enc _)) ?_
      refine ops_y (wg 2 false 113 rfl rfl rfl rfl) rfl (y_neq rfl rfl) ?_
      refine ops_y (wn rfl) rfl (y_pick (b := false) rfl rfl) ?_
      refine ops_nil ?_
      exact goes_cut hL57 (decide ((r26.1.length : Int) ≠ 2)) [0, 1, 2, 3] (vcons rfl (vcons rfl (vcons rfl (vcons rfl (vcons rfl (vcons rfl (vcons rfl (vcons rfl (vnil))))))))) (by decide) rfl (by rw [hg58]; simp)
  rintro _ rfl
  refine ops_nil ?_
  refine goes_code ?_
  refine run_cond ((!(((((((((decide (r1.2 = 0) && decide (r4.2 = 0)) && decide (r7.2 = 0)) && decide (r10.2 = 0)) && decide (r13.2 = 4)) && decide (r16.2 = 0)) && decide (r18.2 = 2)) && decide (r20.2 = 0)) && decide (r22.2 = 0)) && decide (r26.2 = 0))) || decide ((r26.1.length : Int) ≠ 2)) rfl (fun hc59 => ?_) (fun hc59 => ?_)
  · replace h := cond_t h hc59
    refine run_seq ?_
    refine run_region' ?_
    refine ops_y (wn rfl) rfl (y_assign rfl) ?_
    refine ops_nil ?_
    refine goes_code ?_
    refine run_ret ?_
    obtain rfl := some_eq h
    refine fin_slots [0] [.bool false] [] [] Try.results19 rfl (by decide) rfl ?_
    exact ⟨rfl, rfl⟩
  · replace h := cond_f h hc59
    refine run_skip ?_
    refine goes_code ?_
    refine run_seq ?_
    refine run_region' ?_
    refine ops_y (wn rfl) rfl (y_fieldAddr_box (sz := 0) Try.runUnderlying23 rfl Try.sizeOf3 rfl) ?_
    refine ops_y (wn rfl) rfl (y_load_box 0 Try.isAgg3 rfl rfl rfl) ?_
    refine ops_y (wn rfl) rfl (y_eql rfl rfl) ?_
    refine ops_y (wn rfl) rfl (y_move rfl) ?_
    obtain ⟨o61, h, ho62⟩ := bindJ_some h
    refine ops_cut 4 Bool (fun σ => [(7, boxP b12 0), (11, .int .i64 r16.1), (15, .int .i64 r20.1), (17, .int .i64 r22.1), (19, v28), (125, .bool σ)]) (fun σ => [box b6 [.int .i64 r4.1.Cap, .int .i64 r4.1.Num, .int .i64 r4.1.Den, .int .i64 r4.1.Level, .int .i64 r4.1.At], box b9 [.int .i64 r7.1.Cap, .int .i64 r7.1.Num, .int .i64 r7.1.Den, .int .i64 r7.1.Level, .int .i64 r7.1.At], box b12 [.int .i64 r10.1.Cap, .int .i64 r10.1.Num, .int .i64 r10.1.Den, .int .i64 r10.1.Level, .int .i64 r10.1.At], row v28 5 (r26.1.map S_api_Bucket.enc)]) (fun σ => o61 = .go σ) (fun L63 hL64 => ?_) ?_
    · refine ops_split 121 (decide (r4.1.Level = 0)) rfl (fun hg65 => ?_) (fun hg65 => ?_)
      · replace h := cond_t h hg65
        refine ops_y (wg 3 true 121 rfl rfl rfl rfl) rfl (y_load_boxagg (c := [.int .i64 r7.1.Cap, .int .i64 r7.1.Num, .int .i64 r7.1.Den, .int .i64 r7.1.Level, .int .i64 r7.1.At]) 1 Try.isAgg23 Try.sizeOf23 rfl rfl rfl) ?_
        obtain ⟨r66, hr67, h⟩ := bind_some h
        refine ops_t (wg 3 true 121 rfl rfl rfl rfl) rfl (t_call (vs := [.agg #[.int .i64 r7.1.Cap, .int .i64 r7.1.Num, .int .i64 r7.1.Den, .int .i64 r7.1.Level, .int .i64 r7.1.At]]) (cs := []) [] rfl Try.call22 rfl (bucket_Tokens_ok r7.1  hr67) shows_nil (.inl rfl)) ?_
        rintro _ _ ⟨_, ⟨rfl, rfl⟩, rfl⟩
        refine ops_y (wg 3 true 121 rfl rfl rfl rfl) rfl (y_eql rfl rfl) ?_
        refine ops_y (wn rfl) rfl (y_pick (b := true) rfl rfl) ?_
        refine ops_nil ?_
        obtain rfl := some_eq h
        exact goes_cut hL64 (decide (r66 = 1)) [0, 1, 2, 3] (vcons rfl (vcons rfl (vcons rfl (vcons rfl (vcons rfl (vcons rfl (vnil))))))) (by decide) rfl rfl
      · replace h := cond_f h hg65
        refine ops_no 3 true 121 rfl rfl rfl rfl rfl ?_
        refine ops_no 3 true 121 rfl rfl rfl rfl rfl ?_
        refine ops_no 3 true 121 rfl rfl rfl rfl rfl ?_
        refine ops_y (wn rfl) rfl (y_pick (b := false) rfl rfl) ?_
        refine ops_nil ?_
        obtain rfl := some_eq h
        exact goes_cut hL64 false [0, 1, 2, 3] (vcons rfl (vcons rfl (vcons rfl (vcons rfl (vcons rfl (vcons rfl (vnil))))))) (by decide) rfl rfl
    rintro b60 hj
    obtain rfl : o61 = _ := hj
    replace h := after_go ho62
    clear ho62
    refine ops_y (wn rfl) rfl (y_move rfl) ?_
    obtain ⟨o69, h, ho70⟩ := bindJ_some h
    refine ops_cut 4 Bool (fun σ => [(11, .int .i64 r16.1), (15, .int .i64 r20.1), (17, .int .i64 r22.1), (19, v28), (130, .bool σ)]) (fun σ => [box b6 [.int .i64 r4.1.Cap, .int .i64 r4.1.Num, .int .i64 r4.1.Den, .int .i64 r4.1.Level, .int .i64 r4.1.At], box b9 [.int .i64 r7.1.Cap, .int .i64 r7.1.Num, .int .i64 r7.1.Den, .int .i64 r7.1.Level, .int .i64 r7.1.At], box b12 [.int .i64 r10.1.Cap, .int .i64 r10.1.Num, .int .i64 r10.1.Den, .int .i64 r10.1.Level, .int .i64 r10.1.At], row v28 5 (r26.1.map S_api_Bucket.enc)]) (fun σ => o69 = .go σ) (fun L71 hL72 => ?_) ?_
    · refine ops_split 126 b60 rfl (fun hg73 => ?_) (fun hg73 => ?_)
      · replace h := cond_t h hg73
        refine ops_y (wg 8 true 126 rfl rfl rfl rfl) rfl (y_load_boxagg (c := [.int .i64 r10.1.Cap, .int .i64 r10.1.Num, .int .i64 r10.1.Den, .int .i64 r10.1.Level, .int .i64 r10.1.At]) 2 Try.isAgg23 Try.sizeOf23 rfl rfl rfl) ?_
        obtain ⟨r74, hr75, h⟩ := bind_some h
        refine ops_t (wg 8 true 126 rfl rfl rfl rfl) rfl (t_call (vs := [.agg #[.int .i64 r10.1.Cap, .int .i64 r10.1.Num, .int .i64 r10.1.Den, .int .i64 r10.1.Level, .int .i64 r10.1.At]]) (cs := []) [] rfl Try.call22 rfl (bucket_Tokens_ok r10.1  hr75) shows_nil (.inl rfl)) ?_
        rintro _ _ ⟨_, ⟨rfl, rfl⟩, rfl⟩
        refine ops_y (wg 8 true 126 rfl rfl rfl rfl) rfl (y_eql rfl rfl) ?_
        refine ops_y (wn rfl) rfl (y_pick (b := true) rfl rfl) ?_
        refine ops_nil ?_
        obtain rfl := some_eq h
        exact goes_cut hL72 (decide (r74 = 3)) [0, 1, 2, 3] (vcons rfl (vcons rfl (vcons rfl (vcons rfl (vcons rfl (vnil)))))) (by decide) rfl rfl
      · replace h := cond_f h hg73
        refine ops_no 8 true 126 rfl rfl rfl rfl rfl ?_
        refine ops_no 8 true 126 rfl rfl rfl rfl rfl ?_
        refine ops_no 8 true 126 rfl rfl rfl rfl rfl ?_
        refine ops_y (wn rfl) rfl (y_pick (b := false) rfl rfl) ?_
        refine ops_nil ?_
        obtain rfl := some_eq h
        exact goes_cut hL72 false [0, 1, 2, 3] (vcons rfl (vcons rfl (vcons rfl (vcons rfl (vcons rfl (vnil)))))) (by decide) rfl rfl
    rintro b68 hj
    obtain rfl : o69 = _ := hj
    replace h := after_go ho70
    clear ho70
    refine ops_y (wn rfl) rfl (y_move rfl) ?_
    refine ops_cut 3 Bool (fun σ => [(15, .int .i64 r20.1), (17, .int .i64 r22.1), (19, v28), (134, .bool σ)]) (fun σ => [box b6 [.int .i64 r4.1.Cap, .int .i64 r4.1.Num, .int .i64 r4.1.Den, .int .i64 r4.1.Level, .int .i64 r4.1.At], box b9 [.int .i64 r7.1.Cap, .int .i64 r7.1.Num, .int .i64 r7.1.Den, .int .i64 r7.1.Level, .int .i64 r7.1.At], box b12 [.int .i64 r10.1.Cap, .int .i64 r10.1.Num, .int .i64 r10.1.Den, .int .i64 r10.1.Level, .int .i64 r10.1.At], row v28 5 (r26.1.map S_api_Bucket.enc)]) (fun σ => σ = (b68 && decide (r16.1 = 102))) (fun L76 hL77 => ?_) ?_
    · refine ops_split 131 b68 rfl (fun hg78 => ?_) (fun hg78 => ?_)
      · skip
        refine ops_y (wg 13 true 131 rfl rfl rfl rfl) rfl (y_move rfl) ?_
        refine ops_y (wg 13 true 131 rfl rfl rfl rfl) rfl (y_eql rfl rfl) ?_
        refine ops_y (wn rfl) rfl (y_pick (b := true) rfl rfl) ?_
        refine ops_nil ?_
        exact goes_cut hL77 (decide (r16.1 = 102)) [0, 1, 2, 3] (vcons rfl (vcons rfl (vcons rfl (vcons rfl (vnil))))) (by decide) rfl (by rw [hg78]; simp)
      · skip
        refine ops_no 13 true 131 rfl rfl rfl rfl rfl ?_
        refine ops_no 13 true 131 rfl rfl rfl rfl rfl ?_
        refine ops_y (wn rfl) rfl (y_pick (b := false) rfl rfl) ?_
        refine ops_nil ?_
        exact goes_cut hL77 false [0, 1, 2, 3] (vcons rfl (vcons rfl (vcons rfl (vcons rfl (vnil))))) (by decide) rfl (by rw [hg78]; simp)
    rintro _ rfl
    refine ops_y (wn rfl) rfl (y_move rfl) ?_
    refine ops_cut 3 Bool (fun σ => [(17, .int .i64 r22.1), (19, v28), (138, .bool σ)]) (fun σ => [box b6 [.int .i64 r4.1.Cap, .int .i64 r4.1.Num, .int .i64 r4.1.Den, .int .i64 r4.1.Level, .int .i64 r4.1.At], box b9 [.int .i64 r7.1.Cap, .int .i64 r7.1.Num, .int .i64 r7.1.Den, .int .i64 r7.1.Level, .int .i64 r7.1.At], box b12 [.int .i64 r10.1.Cap, .int .i64 r10.1.Num, .int .i64 r10.1.Den, .int .i64 r10.1.Level, .int .i64 r10.1.At], row v28 5 (r26.1.map S_api_Bucket.enc)]) (fun σ => σ = ((b68 && decide (r16.1 = 102)) && decide (r20.1 = 13))) (fun L79 hL80 => ?_) ?_
    · refine ops_split 135 (b68 && decide (r16.1 = 102)) rfl (fun hg81 => ?_) (fun hg81 => ?_)
      · skip
        refine ops_y (wg 17 true 135 rfl rfl rfl rfl) rfl (y_move rfl) ?_
        refine ops_y (wg 17 true 135 rfl rfl rfl rfl) rfl (y_eql rfl rfl) ?_
        refine ops_y (wn rfl) rfl (y_pick (b := true) rfl rfl) ?_
        refine ops_nil ?_
        exact goes_cut hL80 (decide (r20.1 = 13)) [0, 1, 2, 3] (vcons rfl (vcons rfl (vcons rfl (vnil)))) (by decide) rfl (by rw [hg81]; simp)
      · skip
        refine ops_no 17 true 135 rfl rfl rfl rfl rfl ?_
        refine ops_no 17 true 135 rfl rfl rfl rfl rfl ?_
        refine ops_y (wn rfl) rfl (y_pick (b := false) rfl rfl) ?_
        refine ops_nil ?_
        exact goes_cut hL80 false [0, 1, 2, 3] (vcons rfl (vcons rfl (vcons rfl (vnil)))) (by decide) rfl (by rw [hg81]; simp)
    rintro _ rfl
    refine ops_y (wn rfl) rfl (y_move rfl) ?_
    refine ops_cut 3 Bool (fun σ => [(19, v28), (142, .bool σ)]) (fun σ => [box b6 [.int .i64 r4.1.Cap, .int .i64 r4.1.Num, .int .i64 r4.1.Den, .int .i64 r4.1.Level, .int .i64 r4.1.At], box b9 [.int .i64 r7.1.Cap, .int .i64 r7.1.Num, .int .i64 r7.1.Den, .int .i64 r7.1.Level, .int .i64 r7.1.At], box b12 [.int .i64 r10.1.Cap, .int .i64 r10.1.Num, .int .i64 r10.1.Den, .int .i64 r10.1.Level, .int .i64 r10.1.At], row v28 5 (r26.1.map S_api_Bucket.enc)]) (fun σ => σ = (((b68 && decide (r16.1 = 102)) && decide (r20.1 = 13)) && decide (r22.1 = 0))) (fun L82 hL83 => ?_) ?_
    · refine ops_split 139 ((b68 && decide (r16.1 = 102)) && decide (r20.1 = 13)) rfl (fun hg84 => ?_) (fun hg84 => ?_)
      · skip
        refine ops_y (wg 21 true 139 rfl rfl rfl rfl) rfl (y_move rfl) ?_
        refine ops_y (wg 21 true 139 rfl rfl rfl rfl) rfl (y_eql rfl rfl) ?_
        refine ops_y (wn rfl) rfl (y_pick (b := true) rfl rfl) ?_
        refine ops_nil ?_
        exact goes_cut hL83 (decide (r22.1 = 0)) [0, 1, 2, 3] (vcons rfl (vcons rfl (vnil))) (by decide) rfl (by rw [hg84]; simp)
      · skip
        refine ops_no 21 true 139 rfl rfl rfl rfl rfl ?_
        refine ops_no 21 true 139 rfl rfl rfl rfl rfl ?_
        refine ops_y (wn rfl) rfl (y_pick (b := false) rfl rfl) ?_
        refine ops_nil ?_
        exact goes_cut hL83 false [0, 1, 2, 3] (vcons rfl (vcons rfl (vnil))) (by decide) rfl (by rw [hg84]; simp)
    rintro _ rfl
    refine ops_y (wn rfl) rfl (y_move rfl) ?_
    obtain ⟨o86, h, ho87⟩ := bindJ_some h
    refine ops_cut 6 Bool (fun σ => [(19, v28), (149, .bool σ)]) (fun σ => [box b6 [.int .i64 r4.1.Cap, .int .i64 r4.1.Num, .int .i64 r4.1.Den, .int .i64 r4.1.Level, .int .i64 r4.1.At], box b9 [.int .i64 r7.1.Cap, .int .i64 r7.1.Num, .int .i64 r7.1.Den, .int .i64 r7.1.Level, .int .i64 r7.1.At], box b12 [.int .i64 r10.1.Cap, .int .i64 r10.1.Num, .int .i64 r10.1.Den, .int .i64 r10.1.Level, .int .i64 r10.1.At], row v28 5 (r26.1.map S_api_Bucket.enc)]) (fun σ => o86 = .go σ) (fun L88 hL89 => ?_) ?_
    · refine ops_split 143 (((b68 && decide (r16.1 = 102)) && decide (r20.1 = 13)) && decide (r22.1 = 0)) rfl (fun hg90 => ?_) (fun hg90 => ?_)
      · replace h := cond_t h hg90
        refine ops_y (wg 25 true 143 rfl rfl rfl rfl) rfl (y_move rfl) ?_
        obtain ⟨x91, hzx91, hlx91, hxx91, h⟩ := idx_some h
        refine ops_y (wg 25 true 143 rfl rfl rfl rfl) rfl (y_indexAddrI (kd := .i64) (i := 0) 3 Try.runUnderlying51 Try.sizeOf23 rfl rfl rfl reads_row hzx91 (map_lt hlx91)) ?_
        refine ops_y (wg 25 true 143 rfl rfl rfl rfl) rfl (y_fieldAddr_elem (sz := 0) Try.runUnderlying23 rfl Try.sizeOf3 rfl) ?_
        refine ops_y (wg 25 true 143 rfl rfl rfl rfl) rfl (y_load_field (i := (0 : Int).toNat) (j := 3) 3 Try.isAgg3 rfl rfl reads_row (map_get hxx91) rfl) ?_
        refine ops_y (wg 25 true 143 rfl rfl rfl rfl) rfl (y_eql rfl rfl) ?_
        refine ops_y (wn rfl) rfl (y_pick (b := true) rfl rfl) ?_
        refine ops_nil ?_
        obtain rfl := some_eq h
        exact goes_cut hL89 (decide (x91.Level = 8)) [0, 1, 2, 3] (vcons rfl (vcons rfl (vnil))) (by decide) rfl rfl
      · replace h := cond_f h hg90
        refine ops_no 25 true 143 rfl rfl rfl rfl rfl ?_
        refine ops_no 25 true 143 rfl rfl rfl rfl rfl ?_
        refine ops_no 25 true 143 rfl rfl rfl rfl rfl ?_
        refine ops_no 25 true 143 rfl rfl rfl rfl rfl ?_
        refine ops_no 25 true 143 rfl rfl rfl rfl rfl ?_
        refine ops_y (wn rfl) rfl (y_pick (b := false) rfl rfl) ?_
        refine ops_nil ?_
        obtain rfl := some_eq h
        exact goes_cut hL89 false [0, 1, 2, 3] (vcons rfl (vcons rfl (vnil))) (by decide) rfl rfl
    rintro b85 hj
    obtain rfl : o86 = _ := hj
    replace h := after_go ho87
    clear ho87
    refine ops_y (wn rfl) rfl (y_move rfl) ?_
    obtain ⟨o93, h, ho94⟩ := bindJ_some h
    refine ops_cut 6 Bool (fun σ => [(156, .bool σ)]) (fun σ => [box b6 [.int .i64 r4.1.Cap, .int .i64 r4.1.Num, .int .i64 r4.1.Den, .int .i64 r4.1.Level, .int .i64 r4.1.At], box b9 [.int .i64 r7.1.Cap, .int .i64 r7.1.Num, .int .i64 r7.1.Den, .int .i64 r7.1.Level, .int .i64 r7.1.At], box b12 [.int .i64 r10.1.Cap, .int .i64 r10.1.Num, .int .i64 r10.1.Den, .int .i64 r10.1.Level, .int .i64 r10.1.At], row v28 5 (r26.1.map S_api_Bucket.enc)]) (fun σ => o93 = .go σ) (fun L95 hL96 => ?_) ?_
    · refine ops_split 150 b85 rfl (fun hg97 => ?_) (fun hg97 => ?_)
      · replace h := cond_t h hg97
        refine ops_y (wg 32 true 150 rfl rfl rfl rfl) rfl (y_move rfl) ?_
        obtain ⟨x98, hzx98, hlx98, hxx98, h⟩ := idx_some h
        refine ops_y (wg 32 true 150 rfl rfl rfl rfl) rfl (y_indexAddrI (kd := .i64) (i := 1) 3 Try.runUnderlying51 Try.sizeOf23 rfl rfl rfl reads_row hzx98 (map_lt hlx98)) ?_
        refine ops_y (wg 32 true 150 rfl rfl rfl rfl) rfl (y_fieldAddr_elem (sz := 0) Try.runUnderlying23 rfl Try.sizeOf3 rfl) ?_
        refine ops_y (wg 32 true 150 rfl rfl rfl rfl) rfl (y_load_field (i := (1 : Int).toNat) (j := 3) 3 Try.isAgg3 rfl rfl reads_row (map_get hxx98) rfl) ?_
        refine ops_y (wg 32 true 150 rfl rfl rfl rfl) rfl (y_eql rfl rfl) ?_
        refine ops_y (wn rfl) rfl (y_pick (b := true) rfl rfl) ?_
        refine ops_nil ?_
        obtain rfl := some_eq h
        exact goes_cut hL96 (decide (x98.Level = 12)) [0, 1, 2, 3] (vcons rfl (vnil)) (by decide) rfl rfl
      · replace h := cond_f h hg97
        refine ops_no 32 true 150 rfl rfl rfl rfl rfl ?_
        refine ops_no 32 true 150 rfl rfl rfl rfl rfl ?_
        refine ops_no 32 true 150 rfl rfl rfl rfl rfl ?_
        refine ops_no 32 true 150 rfl rfl rfl rfl rfl ?_
        refine ops_no 32 true 150 rfl rfl rfl rfl rfl ?_
        refine ops_y (wn rfl) rfl (y_pick (b := false) rfl rfl) ?_
        refine ops_nil ?_
        obtain rfl := some_eq h
        exact goes_cut hL96 false [0, 1, 2, 3] (vcons rfl (vnil)) (by decide) rfl rfl
    rintro b92 hj
    obtain rfl : o93 = _ := hj
    replace h := after_go ho94
    clear ho94
    refine ops_y (wn rfl) rfl (y_assign rfl) ?_
    refine ops_nil ?_
    refine goes_code ?_
    refine run_ret ?_
    obtain rfl := some_eq h
    refine fin_slots [0] [.bool b92] [] [] Try.results19 rfl (by decide) rfl ?_
    exact ⟨rfl, rfl⟩

end Go.Proofs.Ytpalglggjndmlaa
