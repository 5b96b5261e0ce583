/-
  The law BucketPartsMatchSpec, lifted.
-/
import Derived.Test.YtpalglggjndmlaaFc
namespace Go.Proofs.Ytpalglggjndmlaa
open Go.Abs
set_option linter.unusedVariables false
set_option linter.unusedSimpArgs false
set_option maxRecDepth 20000


def law12_BucketPartsMatchSpec (n : Nat) (b_0 : S_api_Bucket) (caps_1 : (List Int)) (nums_2 : (List Int)) (l_3 : (List S_api_Bucket)) : Option (Bool) :=
  cond ((decide (70 < (caps_1.length : Int)) || decide (70 < (nums_2.length : Int))) || decide (70 < (l_3.length : Int)))
    ((law12_sanity n).bind fun r9 =>
    some r9)
    ((bucket_Split n b_0 caps_1 nums_2).bind fun r11 =>
    (bucket_Merge n l_3).bind fun r14 =>
    (ref12_Split n b_0 caps_1 nums_2).bind fun r17 =>
    (ref12_Merge n l_3).bind fun r22 =>
    (law12_sanity n).bind fun r25 =>
    bindJ (S := Bool)
      (cond r25
        ((ref12_Same n r11.1 r17.L).bind fun r33 =>
        some (.go r33))
        (some (.go false)))
    (fun b27 =>
      some (((b27 && decide (r11.2 = r17.E)) && (decide (r14.1.Cap = r22.B.Cap) && (decide (r14.1.Num = r22.B.Num) && (decide (r14.1.Den = r22.B.Den) && (decide (r14.1.Level = r22.B.Level) && (decide (r14.1.At = r22.B.At))))))) && decide (r14.2 = r22.E))))
theorem law12_BucketPartsMatchSpec_ok (n : Nat) (b_0 : S_api_Bucket) (caps_1 : (List Int)) (nums_2 : (List Int)) (l_3 : (List S_api_Bucket)) (caps_1v : Value) (nums_2v : Value) (l_3v : Value) {r : Bool} (h : law12_BucketPartsMatchSpec n b_0 caps_1 nums_2 l_3 = some r) :
    Meets Try.prog 7 [.agg #[.int .i64 b_0.Cap, .int .i64 b_0.Num, .int .i64 b_0.Den, .int .i64 b_0.Level, .int .i64 b_0.At], caps_1v, nums_2v, l_3v] [ro caps_1v 1 (caps_1.map (eInt .i64)), ro nums_2v 1 (nums_2.map (eInt .i64)), ro l_3v 5 (l_3.map S_api_Bucket.enc)] (fun v G => v = .bool r ∧ G = []) := by
  refine fn_of_run Try.func7 rfl Try.ntmps7 rfl (fun w0 o0 => ?_)
  refine run_seq ?_
  refine run_region' ?_
  refine ops_t (wn rfl) rfl (t_box rfl) ?_
  rintro _ _ ⟨b1, rfl, rfl⟩
  refine ops_y (wn rfl) rfl (y_assign rfl) ?_
  refine ops_nil ?_
  refine goes_code ?_
  refine run_seq ?_
  refine run_seq ?_
  refine run_region' ?_
  refine ops_y (wn rfl) rfl (y_move rfl) ?_
  refine ops_y (wn rfl) rfl ((y_len 0 rfl Try.runUnderlying46 rfl rfl reads_ro).to (v_len (eInt .i64) _)) ?_
  refine ops_y (wn rfl) rfl (y_gtr rfl rfl) ?_
  refine ops_y (wn rfl) rfl (y_move rfl) ?_
  refine ops_cut 4 Bool (fun σ => [(1, caps_1v), (2, nums_2v), (3, l_3v), (4, boxP b1 0), (22, .bool σ)]) (fun σ => [ro caps_1v 1 (caps_1.map (eInt .i64)), ro nums_2v 1 (nums_2.map (eInt .i64)), ro l_3v 5 (l_3.map S_api_Bucket.enc), box b1 [.int .i64 b_0.Cap, .int .i64 b_0.Num, .int .i64 b_0.Den, .int .i64 b_0.Level, .int .i64 b_0.At]]) (fun σ => σ = (decide (70 < (caps_1.length : Int)) || decide (70 < (nums_2.length : Int)))) (fun L2 hL3 => ?_) ?_
  · refine ops_split 18 (decide (70 < (caps_1.length : Int))) rfl (fun hg4 => ?_) (fun hg4 => ?_)
    · skip
      refine ops_no 3 false 18 rfl rfl rfl rfl rfl ?_
      refine ops_no 3 false 18 rfl rfl rfl rfl rfl ?_
      refine ops_no 3 false 18 rfl rfl rfl rfl rfl ?_
      refine ops_y (wn rfl) rfl (y_pick (b := true) rfl rfl) ?_
      refine ops_nil ?_
      exact goes_cut hL3 true [0, 1, 2, 3] (vcons rfl (vcons rfl (vcons rfl (vcons rfl (vcons rfl (vnil)))))) (by decide) rfl (by rw [hg4]; simp)
    · skip
      refine ops_y (wg 3 false 18 rfl rfl rfl rfl) rfl (y_move rfl) ?_
      refine ops_y (wg 3 false 18 rfl rfl rfl rfl) rfl ((y_len 1 rfl Try.runUnderlying46 rfl rfl reads_ro).to (v_len (eInt .i64) _)) ?_
      refine ops_y (wg 3 false 18 rfl rfl rfl rfl) rfl (y_gtr rfl rfl) ?_
      refine ops_y (wn rfl) rfl (y_pick (b := false) rfl rfl) ?_
      refine ops_nil ?_
      exact goes_cut hL3 (decide (70 < (nums_2.length : Int))) [0, 1, 2, 3] (vcons rfl (vcons rfl (vcons rfl (vcons rfl (vcons rfl (vnil)))))) (by decide) rfl (by rw [hg4]; simp)
  rintro _ rfl
  refine ops_y (wn rfl) rfl (y_move rfl) ?_
  refine ops_cut 4 Bool (fun σ => [(1, caps_1v), (2, nums_2v), (3, l_3v), (4, boxP b1 0), (27, .bool σ)]) (fun σ => [ro caps_1v 1 (caps_1.map (eInt .i64)), ro nums_2v 1 (nums_2.map (eInt .i64)), ro l_3v 5 (l_3.map S_api_Bucket.enc), box b1 [.int .i64 b_0.Cap, .int .i64 b_0.Num, .int .i64 b_0.Den, .int .i64 b_0.Level, .int .i64 b_0.At]]) (fun σ => σ = ((decide (70 < (caps_1.length : Int)) || decide (70 < (nums_2.length : Int))) || decide (70 < (l_3.length : Int)))) (fun L5 hL6 => ?_) ?_
  · refine ops_split 23 (decide (70 < (caps_1.length : Int)) || decide (70 < (nums_2.length : Int))) rfl (fun hg7 => ?_) (fun hg7 => ?_)
    · skip
      refine ops_no 8 false 23 rfl rfl rfl rfl rfl ?_
      refine ops_no 8 false 23 rfl rfl rfl rfl rfl ?_
      refine ops_no 8 false 23 rfl rfl rfl rfl rfl ?_
      refine ops_y (wn rfl) rfl (y_pick (b := true) rfl rfl) ?_
      refine ops_nil ?_
      exact goes_cut hL6 true [0, 1, 2, 3] (vcons rfl (vcons rfl (vcons rfl (vcons rfl (vcons rfl (vnil)))))) (by decide) rfl (by rw [hg7]; simp)
    · skip
      refine ops_y (wg 8 false 23 rfl rfl rfl rfl) rfl (y_move rfl) ?_
      refine ops_y (wg 8 false 23 rfl rfl rfl rfl) rfl ((y_len 2 rfl Try.runUnderlying51 rfl rfl reads_ro).to (v_len S_api_Bucket.enc _)) ?_
      refine ops_y (wg 8 false 23 rfl rfl rfl rfl) rfl (y_gtr rfl rfl) ?_
      refine ops_y (wn rfl) rfl (y_pick (b := false) rfl rfl) ?_
      refine ops_nil ?_
      exact goes_cut hL6 (decide (70 < (l_3.length : Int))) [0, 1, 2, 3] (vcons rfl (vcons rfl (vcons rfl (vcons rfl (vcons rfl (vnil)))))) (by decide) rfl (by rw [hg7]; simp)
  rintro _ rfl
  refine ops_nil ?_
  refine goes_code ?_
  refine run_cond ((decide (70 < (caps_1.length : Int)) || decide (70 < (nums_2.length : Int))) || decide (70 < (l_3.length : Int))) rfl (fun hc8 => ?_) (fun hc8 => ?_)
  · replace h := cond_t h hc8
    refine run_seq ?_
    refine run_region' ?_
    obtain ⟨r9, hr10, h⟩ := bind_some h
    refine ops_t (wn rfl) rfl (t_call (vs := []) (cs := []) [] rfl Try.call19 rfl (law12_sanity_ok n   hr10) shows_nil (.inl rfl)) ?_
    rintro _ _ ⟨_, ⟨rfl, rfl⟩, rfl⟩
    refine ops_y (wn rfl) rfl (y_assign rfl) ?_
    refine ops_nil ?_
    refine goes_code ?_
    refine run_ret ?_
    obtain rfl := some_eq h
    refine fin_slots [8] [.bool r9] [] [] Try.results7 rfl (by decide) rfl ?_
    exact ⟨rfl, rfl⟩
  · replace h := cond_f h hc8
    refine run_skip ?_
    refine goes_code ?_
    refine run_seq ?_
    refine run_region' ?_
    refine ops_y (wn rfl) rfl (y_load_boxagg (c := [.int .i64 b_0.Cap, .int .i64 b_0.Num, .int .i64 b_0.Den, .int .i64 b_0.Level, .int .i64 b_0.At]) 3 Try.isAgg23 Try.sizeOf23 rfl rfl rfl) ?_
    refine ops_y (wn rfl) rfl (y_move rfl) ?_
    refine ops_y (wn rfl) rfl (y_move rfl) ?_
    obtain ⟨r11, hr12, h⟩ := bind_some h
    refine ops_t (wn rfl) rfl (t_call (vs := [.agg #[.int .i64 b_0.Cap, .int .i64 b_0.Num, .int .i64 b_0.Den, .int .i64 b_0.Level, .int .i64 b_0.At], caps_1v, nums_2v]) (cs := []) [⟨0, false⟩, ⟨1, false⟩] rfl Try.call24 rfl (bucket_Split_ok n b_0 caps_1 nums_2 caps_1v nums_2v hr12) (shows_cons 0 false rfl views_ro (shows_cons 1 false rfl views_ro shows_nil)) (.inl rfl)) ?_
    rintro _ _ ⟨_, ⟨v13, rfl, rfl⟩, rfl⟩
    refine ops_y (wn rfl) rfl (y_move rfl) ?_
    refine ops_y (wn rfl) rfl (y_extract rfl rfl) ?_
    refine ops_y (wn rfl) rfl (y_extract rfl rfl) ?_
    refine ops_y (wn rfl) rfl (y_assign rfl) ?_
    refine ops_y (wn rfl) rfl (y_assign rfl) ?_
    refine ops_nil ?_
    refine goes_code ?_
    refine run_seq ?_
    refine run_weak [(1, caps_1v), (2, nums_2v), (3, l_3v), (4, boxP b1 0), (9, v13), (10, .int .i64 r11.2)] [0, 1, 2, 3, 4] [ro caps_1v 1 (caps_1.map (eInt .i64)), ro nums_2v 1 (nums_2.map (eInt .i64)), ro l_3v 5 (l_3.map S_api_Bucket.enc), box b1 [.int .i64 b_0.Cap, .int .i64 b_0.Num, .int .i64 b_0.Den, .int .i64 b_0.Level, .int .i64 b_0.At], row v13 5 (r11.1.map S_api_Bucket.enc)] (vcons rfl (vcons rfl (vcons rfl (vcons rfl (vcons rfl (vcons rfl (vnil))))))) (by decide) rfl ?_
    refine run_region' ?_
    refine ops_y (wn rfl) rfl (y_move rfl) ?_
    obtain ⟨r14, hr15, h⟩ := bind_some h
    refine ops_t (wn rfl) rfl (t_call (vs := [l_3v]) (cs := []) [⟨2, false⟩] rfl Try.call25 rfl (bucket_Merge_ok n l_3 l_3v hr15) (shows_cons 2 false rfl views_ro shows_nil) (.inl rfl)) ?_
    rintro _ _ ⟨_, ⟨rfl, rfl⟩, rfl⟩
    refine ops_y (wn rfl) rfl (y_move rfl) ?_
    refine ops_y (wn rfl) rfl (y_extract rfl rfl) ?_
    refine ops_y (wn rfl) rfl (y_extract rfl rfl) ?_
    refine ops_t (wn rfl) rfl (t_alloc Try.zeroValue23) ?_
    rintro _ _ ⟨b16, rfl, rfl⟩
    refine ops_t (wn rfl) rfl (t_store 5 Try.sizeOf23 rfl rfl rfl rfl (by simp [Value.cells]) (by simp [Value.cells, Value.oneCell'])) ?_
    rintro _ _ ⟨rfl, rfl⟩
    refine ops_turn (retell 5 (g := box b16 [.int .i64 r14.1.Cap, .int .i64 r14.1.Num, .int .i64 r14.1.Den, .int .i64 r14.1.Level, .int .i64 r14.1.At]) rfl rfl) ?_
    refine ops_y (wn rfl) rfl (y_assign rfl) ?_
    refine ops_nil ?_
    refine goes_code ?_
    refine run_seq ?_
    refine run_weak [(1, caps_1v), (2, nums_2v), (3, l_3v), (4, boxP b1 0), (9, v13), (10, .int .i64 r11.2), (11, boxP b16 0), (12, .int .i64 r14.2)] [0, 1, 2, 3, 4, 5] [ro caps_1v 1 (caps_1.map (eInt .i64)), ro nums_2v 1 (nums_2.map (eInt .i64)), ro l_3v 5 (l_3.map S_api_Bucket.enc), box b1 [.int .i64 b_0.Cap, .int .i64 b_0.Num, .int .i64 b_0.Den, .int .i64 b_0.Level, .int .i64 b_0.At], row v13 5 (r11.1.map S_api_Bucket.enc), box b16 [.int .i64 r14.1.Cap, .int .i64 r14.1.Num, .int .i64 r14.1.Den, .int .i64 r14.1.Level, .int .i64 r14.1.At]] (vcons rfl (vcons rfl (vcons rfl (vcons rfl (vcons rfl (vcons rfl (vcons rfl (vcons rfl (vnil))))))))) (by decide) rfl ?_
    refine run_region' ?_
    refine ops_y (wn rfl) rfl (y_load_boxagg (c := [.int .i64 b_0.Cap, .int .i64 b_0.Num, .int .i64 b_0.Den, .int .i64 b_0.Level, .int .i64 b_0.At]) 3 Try.isAgg23 Try.sizeOf23 rfl rfl rfl) ?_
    refine ops_y (wn rfl) rfl (y_move rfl) ?_
    refine ops_y (wn rfl) rfl (y_move rfl) ?_
    obtain ⟨r17, hr18, h⟩ := bind_some h
    refine ops_t (wn rfl) rfl (t_call (vs := [.agg #[.int .i64 b_0.Cap, .int .i64 b_0.Num, .int .i64 b_0.Den, .int .i64 b_0.Level, .int .i64 b_0.At], caps_1v, nums_2v]) (cs := []) [⟨0, false⟩, ⟨1, false⟩] rfl Try.call26 rfl (ref12_Split_ok n b_0 caps_1 nums_2 caps_1v nums_2v hr18) (shows_cons 0 false rfl views_ro (shows_cons 1 false rfl views_ro shows_nil)) (.inl rfl)) ?_
    rintro _ _ ⟨_, ⟨v19, rfl, rfl⟩, rfl⟩
    refine ops_t (wn rfl) rfl (t_alloc Try.zeroValue56) ?_
    rintro _ _ ⟨b20, rfl, rfl⟩
    refine ops_slc 6 rfl reads_row (fun hs21 hs21o => ?_)
    refine ops_t (wn rfl) rfl (t_store 7 Try.sizeOf56 rfl rfl rfl rfl (by simp [Value.cells]) (by intro u hu; simp only [Value.cells, List.mem_cons, List.not_mem_nil, or_false] at hu; rcases hu with rfl | rfl <;> first | rfl | assumption)) ?_
    rintro _ _ ⟨rfl, rfl⟩
    refine ops_turn (retell 7 (g := box b20 [v19, .int .i64 r17.E]) rfl rfl) ?_
    refine ops_nil ?_
    refine goes_code ?_
    refine run_seq ?_
    refine run_region' ?_
    refine ops_y (wn rfl) rfl (y_move rfl) ?_
    obtain ⟨r22, hr23, h⟩ := bind_some h
    refine ops_t (wn rfl) rfl (t_call (vs := [l_3v]) (cs := []) [⟨2, false⟩] rfl Try.call27 rfl (ref12_Merge_ok n l_3 l_3v hr23) (shows_cons 2 false rfl views_ro shows_nil) (.inl rfl)) ?_
    rintro _ _ ⟨_, ⟨rfl, rfl⟩, rfl⟩
    refine ops_t (wn rfl) rfl (t_alloc Try.zeroValue33) ?_
    rintro _ _ ⟨b24, rfl, rfl⟩
    refine ops_t (wn rfl) rfl (t_store 8 Try.sizeOf33 rfl rfl rfl rfl (by simp [Value.cells]) (by simp [Value.cells, Value.oneCell'])) ?_
    rintro _ _ ⟨rfl, rfl⟩
    refine ops_turn (retell 8 (g := box b24 [.int .i64 r22.B.Cap, .int .i64 r22.B.Num, .int .i64 r22.B.Den, .int .i64 r22.B.Level, .int .i64 r22.B.At, .int .i64 r22.E]) rfl rfl) ?_
    refine ops_nil ?_
    refine goes_code ?_
    refine run_seq ?_
    refine run_weak [(9, v13), (10, .int .i64 r11.2), (11, boxP b16 0), (12, .int .i64 r14.2), (13, boxP b20 0), (14, boxP b24 0)] [4, 5, 6, 7, 8] [row v13 5 (r11.1.map S_api_Bucket.enc), box b16 [.int .i64 r14.1.Cap, .int .i64 r14.1.Num, .int .i64 r14.1.Den, .int .i64 r14.1.Level, .int .i64 r14.1.At], row v19 5 (r17.L.map S_api_Bucket.enc), box b20 [v19, .int .i64 r17.E], box b24 [.int .i64 r22.B.Cap, .int .i64 r22.B.Num, .int .i64 r22.B.Den, .int .i64 r22.B.Level, .int .i64 r22.B.At, .int .i64 r22.E]] (vcons rfl (vcons rfl (vcons rfl (vcons rfl (vcons rfl (vcons rfl (vnil))))))) (by decide) rfl ?_
    refine run_region' ?_
    obtain ⟨r25, hr26, h⟩ := bind_some h
    refine ops_t (wn rfl) rfl (t_call (vs := []) (cs := []) [] rfl Try.call19 rfl (law12_sanity_ok n   hr26) shows_nil (.inl rfl)) ?_
    rintro _ _ ⟨_, ⟨rfl, rfl⟩, rfl⟩
    refine ops_y (wn rfl) rfl (y_move rfl) ?_
    obtain ⟨o28, h, ho29⟩ := bindJ_some h
    refine ops_cut 5 Bool (fun σ => [(10, .int .i64 r11.2), (11, boxP b16 0), (12, .int .i64 r14.2), (13, boxP b20 0), (14, boxP b24 0), (53, .bool σ)]) (fun σ => [row v13 5 (r11.1.map S_api_Bucket.enc), box b16 [.int .i64 r14.1.Cap, .int .i64 r14.1.Num, .int .i64 r14.1.Den, .int .i64 r14.1.Level, .int .i64 r14.1.At], row v19 5 (r17.L.map S_api_Bucket.enc), box b20 [v19, .int .i64 r17.E], box b24 [.int .i64 r22.B.Cap, .int .i64 r22.B.Num, .int .i64 r22.B.Den, .int .i64 r22.B.Level, .int .i64 r22.B.At, .int .i64 r22.E]]) (fun σ => o28 = .go σ) (fun L30 hL31 => ?_) ?_
    · refine ops_split 48 r25 rfl (fun hg32 => ?_) (fun hg32 => ?_)
      · replace h := cond_t h hg32
        refine ops_y (wg 1 true 48 rfl rfl rfl rfl) rfl (y_move rfl) ?_
        refine ops_y (wg 1 true 48 rfl rfl rfl rfl) rfl (y_fieldAddr_box (sz := 0) Try.runUnderlying56 rfl Try.sizeOf51 rfl) ?_
        refine ops_y (wg 1 true 48 rfl rfl rfl rfl) rfl (y_load_box 3 Try.isAgg51 rfl rfl rfl) ?_
        obtain ⟨r33, hr34, h⟩ := bind_some h
        refine ops_t (wg 1 true 48 rfl rfl rfl rfl) rfl (t_call (vs := [v13, v19]) (cs := []) [⟨0, true⟩, ⟨2, true⟩] rfl Try.call28 rfl (ref12_Same_ok n r11.1 r17.L v13 v19 hr34) (shows_cons 0 true rfl views_row (shows_cons 2 true rfl views_row shows_nil)) (.inr (by rintro _ _ ⟨rfl, rfl⟩ g hg; first | (cases hg; done) | (simp only [List.mem_cons, List.not_mem_nil, or_false] at hg; first | (subst hg; first | exact strict_row | exact strict_box) | (rcases hg with rfl | rfl <;> first | exact strict_row | exact strict_box) | (rcases hg with rfl | rfl | rfl <;> first | exact strict_row | exact strict_box))))) ?_
        rintro _ _ ⟨_, ⟨rfl, rfl⟩, rfl⟩
        refine ops_y (wn rfl) rfl (y_pick (b := true) rfl rfl) ?_
        refine ops_nil ?_
        obtain rfl := some_eq h
        exact goes_cut hL31 r33 [0, 1, 2, 3, 4] (vcons rfl (vcons rfl (vcons rfl (vcons rfl (vcons rfl (vcons rfl (vnil))))))) (by decide) rfl rfl
      · replace h := cond_f h hg32
        refine ops_no 1 true 48 rfl rfl rfl rfl rfl ?_
        refine ops_no 1 true 48 rfl rfl rfl rfl rfl ?_
        refine ops_no 1 true 48 rfl rfl rfl rfl rfl ?_
        refine ops_no 1 true 48 rfl rfl rfl rfl rfl ?_
        refine ops_y (wn rfl) rfl (y_pick (b := false) rfl rfl) ?_
        refine ops_nil ?_
        obtain rfl := some_eq h
        exact goes_cut hL31 false [0, 1, 2, 3, 4] (vcons rfl (vcons rfl (vcons rfl (vcons rfl (vcons rfl (vcons rfl (vnil))))))) (by decide) rfl rfl
    rintro b27 hj
    obtain rfl : o28 = _ := hj
    replace h := after_go ho29
    clear ho29
    refine ops_y (wn rfl) rfl (y_move rfl) ?_
    refine ops_cut 5 Bool (fun σ => [(11, boxP b16 0), (12, .int .i64 r14.2), (14, boxP b24 0), (59, .bool σ)]) (fun σ => [row v13 5 (r11.1.map S_api_Bucket.enc), box b16 [.int .i64 r14.1.Cap, .int .i64 r14.1.Num, .int .i64 r14.1.Den, .int .i64 r14.1.Level, .int .i64 r14.1.At], row v19 5 (r17.L.map S_api_Bucket.enc), box b20 [v19, .int .i64 r17.E], box b24 [.int .i64 r22.B.Cap, .int .i64 r22.B.Num, .int .i64 r22.B.Den, .int .i64 r22.B.Level, .int .i64 r22.B.At, .int .i64 r22.E]]) (fun σ => σ = (b27 && decide (r11.2 = r17.E))) (fun L35 hL36 => ?_) ?_
    · refine ops_split 54 b27 rfl (fun hg37 => ?_) (fun hg37 => ?_)
      · skip
        refine ops_y (wg 7 true 54 rfl rfl rfl rfl) rfl (y_move rfl) ?_
        refine ops_y (wg 7 true 54 rfl rfl rfl rfl) rfl (y_fieldAddr_box (sz := 0) Try.runUnderlying56 rfl Try.sizeOf24 rfl) ?_
        refine ops_y (wg 7 true 54 rfl rfl rfl rfl) rfl (y_load_box 3 Try.isAgg24 rfl rfl rfl) ?_
        refine ops_y (wg 7 true 54 rfl rfl rfl rfl) rfl (y_eql rfl rfl) ?_
        refine ops_y (wn rfl) rfl (y_pick (b := true) rfl rfl) ?_
        refine ops_nil ?_
        exact goes_cut hL36 (decide (r11.2 = r17.E)) [0, 1, 2, 3, 4] (vcons rfl (vcons rfl (vcons rfl (vcons rfl (vnil))))) (by decide) rfl (by rw [hg37]; simp)
      · skip
        refine ops_no 7 true 54 rfl rfl rfl rfl rfl ?_
        refine ops_no 7 true 54 rfl rfl rfl rfl rfl ?_
        refine ops_no 7 true 54 rfl rfl rfl rfl rfl ?_
        refine ops_no 7 true 54 rfl rfl rfl rfl rfl ?_
        refine ops_y (wn rfl) rfl (y_pick (b := false) rfl rfl) ?_
        refine ops_nil ?_
        exact goes_cut hL36 false [0, 1, 2, 3, 4] (vcons rfl (vcons rfl (vcons rfl (vcons rfl (vnil))))) (by decide) rfl (by rw [hg37]; simp)
    rintro _ rfl
    refine ops_y (wn rfl) rfl (y_move rfl) ?_
    refine ops_cut 5 Bool (fun σ => [(12, .int .i64 r14.2), (14, boxP b24 0), (65, .bool σ)]) (fun σ => [row v13 5 (r11.1.map S_api_Bucket.enc), box b16 [.int .i64 r14.1.Cap, .int .i64 r14.1.Num, .int .i64 r14.1.Den, .int .i64 r14.1.Level, .int .i64 r14.1.At], row v19 5 (r17.L.map S_api_Bucket.enc), box b20 [v19, .int .i64 r17.E], box b24 [.int .i64 r22.B.Cap, .int .i64 r22.B.Num, .int .i64 r22.B.Den, .int .i64 r22.B.Level, .int .i64 r22.B.At, .int .i64 r22.E]]) (fun σ => σ = ((b27 && decide (r11.2 = r17.E)) && (decide (r14.1.Cap = r22.B.Cap) && (decide (r14.1.Num = r22.B.Num) && (decide (r14.1.Den = r22.B.Den) && (decide (r14.1.Level = r22.B.Level) && (decide (r14.1.At = r22.B.At)))))))) (fun L38 hL39 => ?_) ?_
    · refine ops_split 60 (b27 && decide (r11.2 = r17.E)) rfl (fun hg40 => ?_) (fun hg40 => ?_)
      · skip
        refine ops_y (wg 13 true 60 rfl rfl rfl rfl) rfl (y_load_boxagg (c := [.int .i64 r14.1.Cap, .int .i64 r14.1.Num, .int .i64 r14.1.Den, .int .i64 r14.1.Level, .int .i64 r14.1.At]) 1 Try.isAgg23 Try.sizeOf23 rfl rfl rfl) ?_
        refine ops_y (wg 13 true 60 rfl rfl rfl rfl) rfl (y_fieldAddr_box (sz := 4) Try.runUnderlying33 rfl Try.sizeOf23 rfl) ?_
        refine ops_y (wg 13 true 60 rfl rfl rfl rfl) rfl (y_load_boxagg (c := [.int .i64 r22.B.Cap, .int .i64 r22.B.Num, .int .i64 r22.B.Den, .int .i64 r22.B.Level, .int .i64 r22.B.At]) 4 Try.isAgg23 Try.sizeOf23 rfl rfl rfl) ?_
        refine ops_y (wg 13 true 60 rfl rfl rfl rfl) rfl (y_eqS (by kernel_rfl) (by kernel_rfl) Try.runUnderlying23 rfl rfl (.cons (eqf_int (by decide) Try.runUnderlying3 Try.isAgg3 rfl rfl) (.cons (eqf_int (by decide) Try.runUnderlying3 Try.isAgg3 rfl rfl) (.cons (eqf_int (by decide) Try.runUnderlying3 Try.isAgg3 rfl rfl) (.cons (eqf_int (by decide) Try.runUnderlying3 Try.isAgg3 rfl rfl) (.cons (eqf_int (by decide) Try.runUnderlying3 Try.isAgg3 rfl rfl) EqFs.nil)))))) ?_
        refine ops_y (wn rfl) rfl (y_pick (b := true) rfl rfl) ?_
        refine ops_nil ?_
        exact goes_cut hL39 (decide (r14.1.Cap = r22.B.Cap) && (decide (r14.1.Num = r22.B.Num) && (decide (r14.1.Den = r22.B.Den) && (decide (r14.1.Level = r22.B.Level) && (decide (r14.1.At = r22.B.At)))))) [0, 1, 2, 3, 4] (vcons rfl (vcons rfl (vcons rfl (vnil)))) (by decide) rfl (by rw [hg40]; simp)
      · skip
        refine ops_no 13 true 60 rfl rfl rfl rfl rfl ?_
        refine ops_no 13 true 60 rfl rfl rfl rfl rfl ?_
        refine ops_no 13 true 60 rfl rfl rfl rfl rfl ?_
        refine ops_no 13 true 60 rfl rfl rfl rfl rfl ?_
        refine ops_y (wn rfl) rfl (y_pick (b := false) rfl rfl) ?_
        refine ops_nil ?_
        exact goes_cut hL39 false [0, 1, 2, 3, 4] (vcons rfl (vcons rfl (vcons rfl (vnil)))) (by decide) rfl (by rw [hg40]; simp)
    rintro _ rfl
    refine ops_y (wn rfl) rfl (y_move rfl) ?_
    refine ops_cut 5 Bool (fun σ => [(71, .bool σ)]) (fun σ => [row v13 5 (r11.1.map S_api_Bucket.enc), box b16 [.int .i64 r14.1.Cap, .int .i64 r14.1.Num, .int .i64 r14.1.Den, .int .i64 r14.1.Level, .int .i64 r14.1.At], row v19 5 (r17.L.map S_api_Bucket.enc), box b20 [v19, .int .i64 r17.E], box b24 [.int .i64 r22.B.Cap, .int .i64 r22.B.Num, .int .i64 r22.B.Den, .int .i64 r22.B.Level, .int .i64 r22.B.At, .int .i64 r22.E]]) (fun σ => σ = (((b27 && decide (r11.2 = r17.E)) && (decide (r14.1.Cap = r22.B.Cap) && (decide (r14.1.Num = r22.B.Num) && (decide (r14.1.Den = r22.B.Den) && (decide (r14.1.Level = r22.B.Level) && (decide (r14.1.At = r22.B.At))))))) && decide (r14.2 = r22.E))) (fun L41 hL42 => ?_) ?_
    · refine ops_split 66 ((b27 && decide (r11.2 = r17.E)) && (decide (r14.1.Cap = r22.B.Cap) && (decide (r14.1.Num = r22.B.Num) && (decide (r14.1.Den = r22.B.Den) && (decide (r14.1.Level = r22.B.Level) && (decide (r14.1.At = r22.B.At))))))) rfl (fun hg43 => ?_) (fun hg43 => ?_)
      · skip
        refine ops_y (wg 19 true 66 rfl rfl rfl rfl) rfl (y_move rfl) ?_
        refine ops_y (wg 19 true 66 rfl rfl rfl rfl) rfl (y_fieldAddr_box (sz := 0) Try.runUnderlying33 rfl Try.sizeOf24 rfl) ?_
        refine ops_y (wg 19 true 66 rfl rfl rfl rfl) rfl (y_load_box 4 Try.isAgg24 rfl rfl rfl) ?_
        refine ops_y (wg 19 true 66 rfl rfl rfl rfl) rfl (y_eql rfl rfl) ?_
        refine ops_y (wn rfl) rfl (y_pick (b := true) rfl rfl) ?_
        refine ops_nil ?_
        exact goes_cut hL42 (decide (r14.2 = r22.E)) [0, 1, 2, 3, 4] (vcons rfl (vnil)) (by decide) rfl (by rw [hg43]; simp)
      · skip
        refine ops_no 19 true 66 rfl rfl rfl rfl rfl ?_
        refine ops_no 19 true 66 rfl rfl rfl rfl rfl ?_
        refine ops_no 19 true 66 rfl rfl rfl rfl rfl ?_
        refine ops_no 19 true 66 rfl rfl rfl rfl rfl ?_
        refine ops_y (wn rfl) rfl (y_pick (b := false) rfl rfl) ?_
        refine ops_nil ?_
        exact goes_cut hL42 false [0, 1, 2, 3, 4] (vcons rfl (vnil)) (by decide) rfl (by rw [hg43]; simp)
    rintro _ rfl
    refine ops_y (wn rfl) rfl (y_assign rfl) ?_
    refine ops_nil ?_
    refine goes_code ?_
    refine run_ret ?_
    obtain rfl := some_eq h
    refine fin_slots [8] [.bool (((b27 && decide (r11.2 = r17.E)) && (decide (r14.1.Cap = r22.B.Cap) && (decide (r14.1.Num = r22.B.Num) && (decide (r14.1.Den = r22.B.Den) && (decide (r14.1.Level = r22.B.Level) && (decide (r14.1.At = r22.B.At))))))) && decide (r14.2 = r22.E))] [] [] Try.results7 rfl (by decide) rfl ?_
    exact ⟨rfl, rfl⟩

end Go.Proofs.Ytpalglggjndmlaa
