/-
  The law PlaylistsMergeInAnyOrder, lifted.
-/
import Derived.Test.YtbgpojdmdnkeaaaDoorM8
namespace Go.Proofs.YtbgpojdmdnkeaaaDoor
open Go.Abs
set_option linter.unusedVariables false
set_option linter.unusedSimpArgs false
set_option maxRecDepth 20000
set_option maxHeartbeats 4000000

def law43_PlaylistsMergeInAnyOrder (n : Nat) (l_0 : (List S_api_Segment)) (a_1 : S_2_uint8) (b_2 : S_2_uint8) (c_3 : S_2_uint8) (done_4 : Bool) : Option (Bool) :=
 bindJ (S := Bool)
  (cond (decide ((l_0.length : Int) < 1) || decide (60 < (l_0.length : Int)))
   (some (.go true))
   (obind (ref43_Stream n l_0) fun r13 =>
   some (.go (!r13))))
 (fun b7 =>
  cond b7
   (obind (law43_sanity n) fun r16 =>
   some r16)
   (idx ([a_1, b_2, c_3] : List S_2_uint8) 0 fun x20 =>
   need ((l_0.length : Int) ≠ 0) (
   need ((IntKind.i64.wrap ((l_0.length : Int) - ((IntKind.i64.wrap x20.a0_).tmod (l_0.length : Int)))) ≠ 0) (
   obind (ref43_Part l_0 ((IntKind.i64.wrap x20.a0_).tmod (l_0.length : Int)) (IntKind.i64.wrap ((IntKind.i64.wrap (((IntKind.i64.wrap x20.a0_).tmod (l_0.length : Int)) + 1)) + ((IntKind.i64.wrap x20.a1_).tmod (IntKind.i64.wrap ((l_0.length : Int) - ((IntKind.i64.wrap x20.a0_).tmod (l_0.length : Int))))))) done_4) fun r24 =>
   idx ([a_1, b_2, c_3] : List S_2_uint8) 1 fun x28 =>
   need ((l_0.length : Int) ≠ 0) (
   need ((IntKind.i64.wrap ((l_0.length : Int) - ((IntKind.i64.wrap x28.a0_).tmod (l_0.length : Int)))) ≠ 0) (
   obind (ref43_Part l_0 ((IntKind.i64.wrap x28.a0_).tmod (l_0.length : Int)) (IntKind.i64.wrap ((IntKind.i64.wrap (((IntKind.i64.wrap x28.a0_).tmod (l_0.length : Int)) + 1)) + ((IntKind.i64.wrap x28.a1_).tmod (IntKind.i64.wrap ((l_0.length : Int) - ((IntKind.i64.wrap x28.a0_).tmod (l_0.length : Int))))))) done_4) fun r32 =>
   idx ([a_1, b_2, c_3] : List S_2_uint8) 2 fun x36 =>
   need ((l_0.length : Int) ≠ 0) (
   need ((IntKind.i64.wrap ((l_0.length : Int) - ((IntKind.i64.wrap x36.a0_).tmod (l_0.length : Int)))) ≠ 0) (
   obind (ref43_Part l_0 ((IntKind.i64.wrap x36.a0_).tmod (l_0.length : Int)) (IntKind.i64.wrap ((IntKind.i64.wrap (((IntKind.i64.wrap x36.a0_).tmod (l_0.length : Int)) + 1)) + ((IntKind.i64.wrap x36.a1_).tmod (IntKind.i64.wrap ((l_0.length : Int) - ((IntKind.i64.wrap x36.a0_).tmod (l_0.length : Int))))))) done_4) fun r40 =>
   obind (playlist_Merge n r24 r32 100) fun r44 =>
   obind (playlist_Merge n r32 r24 100) fun r49 =>
   bindJ (S := Bool)
    (cond (decide (r44.2 ≠ 0) || decide (r49.2 ≠ 0))
     (some (.go true))
     (obind (ref43_Same n r44.1 r49.1) fun r63 =>
     some (.go (!r63))))
   (fun b57 =>
    bindJ (S := Bool)
     (cond b57
      (some (.go true))
      (obind (playlist_Valid n r44.1) fun r71 =>
      some (.go (!r71))))
    (fun b65 =>
     bindJ (S := Bool)
      (cond b65
       (some (.go true))
       (obind (playlist_Next r44.1) fun r79 =>
       obind (playlist_Next r24) fun r81 =>
       obind (playlist_Next r32) fun r83 =>
       some (.go (decide (r79 ≠ (max r81 r83))))))
     (fun b73 =>
      cond b73
       (some false)
       (idx l_0 0 fun x86 =>
       obind (ref43_Part l_0 (IntKind.i64.wrap (r44.1.First - x86.Num)) (IntKind.i64.wrap ((IntKind.i64.wrap (r44.1.First - x86.Num)) + (r44.1.L.length : Int))) done_4) fun r87 =>
       obind (ref43_Same n r44.1 r87) fun r90 =>
       bindJ (S := Bool)
        (cond (!r90)
         (some (.go true))
         (bindJ (S := Bool)
          (cond (decide ((min r24.First r32.First) < r44.1.First))
           (obind (playlist_Next r24) fun r104 =>
           obind (playlist_Next r32) fun r106 =>
           some (.go (decide ((max r24.First r32.First) ≤ (min r104 r106)))))
           (some (.go false)))
         (fun b98 =>
          some (.go b98))))
       (fun b92 =>
        cond b92
         (some false)
         (obind (playlist_Next r24) fun r109 =>
         cond (decide (r109 < r24.First))
          (obind (law43_sanity n) fun r112 =>
          some r112)
          (obind (playlist_Next r24) fun r114 =>
          cond (decide (r114 < r32.First))
           (obind (law43_sanity n) fun r117 =>
           some r117)
           (obind (playlist_Next r24) fun r119 =>
           cond (decide (r119 < r40.First))
            (obind (law43_sanity n) fun r122 =>
            some r122)
            (obind (playlist_Next r32) fun r124 =>
            cond (decide (r124 < r24.First))
             (obind (law43_sanity n) fun r127 =>
             some r127)
             (obind (playlist_Next r32) fun r129 =>
             cond (decide (r129 < r32.First))
              (obind (law43_sanity n) fun r132 =>
              some r132)
              (obind (playlist_Next r32) fun r134 =>
              cond (decide (r134 < r40.First))
               (obind (law43_sanity n) fun r137 =>
               some r137)
               (obind (playlist_Next r40) fun r139 =>
               cond (decide (r139 < r24.First))
                (obind (law43_sanity n) fun r142 =>
                some r142)
                (obind (playlist_Next r40) fun r144 =>
                cond (decide (r144 < r32.First))
                 (obind (law43_sanity n) fun r147 =>
                 some r147)
                 (obind (playlist_Next r40) fun r149 =>
                 cond (decide (r149 < r40.First))
                  (obind (law43_sanity n) fun r152 =>
                  some r152)
                  (obind (playlist_Merge n r44.1 r40 100) fun r154 =>
                  obind (playlist_Merge n r32 r40 100) fun r159 =>
                  obind (playlist_Merge n r159.1 r24 100) fun r164 =>
                  obind (law43_sanity n) fun r169 =>
                  bindJ (S := Bool)
                   (cond (((r169 && decide (r154.2 = 0)) && decide (r159.2 = 0)) && decide (r164.2 = 0))
                    (obind (ref43_Same n r154.1 r164.1) fun r186 =>
                    some (.go r186))
                    (some (.go false)))
                  (fun b180 =>
                   some b180))))))))))))))))))))))))
theorem law43_PlaylistsMergeInAnyOrder_ok (n : Nat) (l_0 : (List S_api_Segment)) (a_1 : S_2_uint8) (b_2 : S_2_uint8) (c_3 : S_2_uint8) (done_4 : Bool) (l_0v : Value) {r : Bool} (h : law43_PlaylistsMergeInAnyOrder n l_0 a_1 b_2 c_3 done_4 = some r) :
  Meets Tryd.prog 3 [l_0v, .agg #[.int .u8 a_1.a0_, .int .u8 a_1.a1_], .agg #[.int .u8 b_2.a0_, .int .u8 b_2.a1_], .agg #[.int .u8 c_3.a0_, .int .u8 c_3.a1_], .bool done_4] [ro l_0v 20 (l_0.map S_api_Segment.enc), globA] (fun v G => v = .bool r ∧ G = []) := by
 refine fn_of_run Tryd.func3 rfl Tryd.ntmps3 rfl (fun w0 o0 => ?_)
 refine run_seq ?_
 refine run_region' ?_
 refine ot rfl rfl (t_box rfl) ?_
 rintro _ _ ⟨b1, rfl, rfl⟩
 refine ot rfl rfl (t_box rfl) ?_
 rintro _ _ ⟨b2, rfl, rfl⟩
 refine ot rfl rfl (t_box rfl) ?_
 rintro _ _ ⟨b3, rfl, rfl⟩
 refine oy rfl rfl (y_assign rfl) ?_
 refine ops_nil ?_
 refine goes_code ?_
 refine run_seq ?_
 refine run_seq ?_
 refine run_region' ?_
 refine oy rfl rfl (y_move rfl) ?_
 refine oy rfl rfl ((y_len 0 rfl Tryd.runUnderlying22 rfl rfl reads_ro).to (v_len S_api_Segment.enc _)) ?_
 refine oy rfl rfl (y_lss rfl rfl) ?_
 refine oy rfl rfl (y_move rfl) ?_
 refine ops_cut 4 (Bool) (fun σ => [(0, l_0v), (4, .bool done_4), (6, boxP b1 0), (7, boxP b2 0), (8, boxP b3 0), (35, .bool σ)]) (fun σ => [ro l_0v 20 (l_0.map S_api_Segment.enc), globA, box b1 [.int .u8 a_1.a0_, .int .u8 a_1.a1_], box b2 [.int .u8 b_2.a0_, .int .u8 b_2.a1_], box b3 [.int .u8 c_3.a0_, .int .u8 c_3.a1_]]) (fun σ => σ = (decide ((l_0.length : Int) < 1) || decide (60 < (l_0.length : Int)))) (fun L4 hL5 => ?_) ?_
 ·refine ops_split 31 (decide ((l_0.length : Int) < 1)) rfl (fun hg6 => ?_) (fun hg6 => ?_)
  ·skip
   refine ops_no 3 false 31 rfl rfl rfl rfl rfl ?_
   refine ops_no 3 false 31 rfl rfl rfl rfl rfl ?_
   refine ops_no 3 false 31 rfl rfl rfl rfl rfl ?_
   refine oy rfl rfl (y_pick (b := true) rfl rfl) ?_
   refine ops_nil ?_
   exact goes_cut hL5 true [0, 1, 2, 3, 4] (qv6 rfl rfl rfl rfl rfl rfl) (by decide) rfl (by rw [hg6]; simp)
  ·skip
   refine ops_y (wg 3 false 31 rfl rfl rfl rfl) rfl (y_move rfl) ?_
   refine ops_y (wg 3 false 31 rfl rfl rfl rfl) rfl ((y_len 0 rfl Tryd.runUnderlying22 rfl rfl reads_ro).to (v_len S_api_Segment.enc _)) ?_
   refine ops_y (wg 3 false 31 rfl rfl rfl rfl) rfl (y_gtr rfl rfl) ?_
   refine oy rfl rfl (y_pick (b := false) rfl rfl) ?_
   refine ops_nil ?_
   exact goes_cut hL5 (decide (60 < (l_0.length : Int))) [0, 1, 2, 3, 4] (qv6 rfl rfl rfl rfl rfl rfl) (by decide) rfl (by rw [hg6]; simp)
 rintro _ rfl
 refine oy rfl rfl (y_move rfl) ?_
 obtain ⟨o8, h, ho9⟩ := bindJ_some h
 refine ops_cut 4 (Bool) (fun σ => [(0, l_0v), (4, .bool done_4), (6, boxP b1 0), (7, boxP b2 0), (8, boxP b3 0), (40, .bool σ)]) (fun σ => [ro l_0v 20 (l_0.map S_api_Segment.enc), globA, box b1 [.int .u8 a_1.a0_, .int .u8 a_1.a1_], box b2 [.int .u8 b_2.a0_, .int .u8 b_2.a1_], box b3 [.int .u8 c_3.a0_, .int .u8 c_3.a1_]]) (fun σ => o8 = .go σ) (fun L10 hL11 => ?_) ?_
 ·refine ops_split 36 (decide ((l_0.length : Int) < 1) || decide (60 < (l_0.length : Int))) rfl (fun hg12 => ?_) (fun hg12 => ?_)
  ·replace h := cond_t h hg12
   refine ops_no 8 false 36 rfl rfl rfl rfl rfl ?_
   refine ops_no 8 false 36 rfl rfl rfl rfl rfl ?_
   refine ops_no 8 false 36 rfl rfl rfl rfl rfl ?_
   refine oy rfl rfl (y_pick (b := true) rfl rfl) ?_
   refine ops_nil ?_
   obtain rfl := some_eq h
   exact goes_cut hL11 true [0, 1, 2, 3, 4] (qv6 rfl rfl rfl rfl rfl rfl) (by decide) rfl rfl
  ·replace h := cond_f h hg12
   refine ops_y (wg 8 false 36 rfl rfl rfl rfl) rfl (y_move rfl) ?_
   obtain ⟨r13, hr14, h⟩ := obind_some h
   refine ops_t (wg 8 false 36 rfl rfl rfl rfl) rfl (t_callx (vs := [l_0v]) (cs := []) [(0, 0)] rfl Tryd.call7 rfl (ref43_Stream_ok n l_0 l_0v hr14) (showsX_view 0 rfl views_ro showsX_nil) rfl (.inl rfl)) ?_
   rintro _ _ ⟨_, ⟨rfl, rfl⟩, rfl⟩
   refine ops_y (wg 8 false 36 rfl rfl rfl rfl) rfl (y_not rfl) ?_
   refine oy rfl rfl (y_pick (b := false) rfl rfl) ?_
   refine ops_nil ?_
   obtain rfl := some_eq h
   exact goes_cut hL11 (!r13) [0, 1, 2, 3, 4] (qv6 rfl rfl rfl rfl rfl rfl) (by decide) rfl rfl
 rintro b7 hj
 obtain rfl : o8 = _ := hj
 replace h := after_go ho9
 clear ho9
 refine ops_nil ?_
 refine goes_code ?_
 refine run_cond b7 rfl (fun hc15 => ?_) (fun hc15 => ?_)
 ·replace h := cond_t h hc15
  refine run_seq ?_
  refine run_region' ?_
  obtain ⟨r16, hr17, h⟩ := obind_some h
  refine ot rfl rfl (t_callx (vs := []) (cs := []) [(1, 0)] rfl Tryd.call8 rfl (law43_sanity_ok n   hr17) (showsX_view 1 rfl views_glob showsX_nil) rfl (.inl rfl)) ?_
  rintro _ _ ⟨_, ⟨rfl, rfl⟩, rfl⟩
  refine oy rfl rfl (y_assign rfl) ?_
  refine ops_nil ?_
  refine goes_code ?_
  refine run_ret ?_
  obtain rfl := some_eq h
  refine fin_slots [10] [.bool r16] [] [] Tryd.results3 rfl (by decide) rfl ?_
  exact ⟨rfl, rfl⟩
 ·replace h := cond_f h hc15
  refine run_skip ?_
  refine goes_code ?_
  refine run_seq ?_
  refine run_region' ?_
  refine ot rfl rfl (t_alloc Tryd.zeroValue28) ?_
  rintro _ _ ⟨b18, rfl, rfl⟩
  refine ops_nil ?_
  refine goes_code ?_
  refine run_seq ?_
  refine run_seq ?_
  refine run_region' ?_
  refine oy rfl rfl (y_load_boxagg (c := [.int .u8 a_1.a0_, .int .u8 a_1.a1_]) 2 Tryd.isAgg23 Tryd.sizeOf23 rfl rfl rfl) ?_
  refine oy rfl rfl (y_load_boxagg (c := [.int .u8 b_2.a0_, .int .u8 b_2.a1_]) 3 Tryd.isAgg23 Tryd.sizeOf23 rfl rfl rfl) ?_
  refine oy rfl rfl (y_load_boxagg (c := [.int .u8 c_3.a0_, .int .u8 c_3.a1_]) 4 Tryd.isAgg23 Tryd.sizeOf23 rfl rfl rfl) ?_
  refine ot rfl rfl (t_lit [.agg #[.int .u8 a_1.a0_, .int .u8 a_1.a1_], .agg #[.int .u8 b_2.a0_, .int .u8 b_2.a1_], .agg #[.int .u8 c_3.a0_, .int .u8 c_3.a1_]] Tryd.runUnderlying29 Tryd.sizeOf23 Tryd.zeroValue23 rfl (by decide) (by decide) rfl (by simp [Value.cells, boxP])) ?_
  rintro v19 _ ⟨rfl, _⟩
  refine ops_turn (retell 6 (g := row v19 2 (([a_1, b_2, c_3] : List S_2_uint8).map S_2_uint8.enc)) rfl rfl) ?_
  refine oy rfl rfl ((y_len 6 rfl Tryd.runUnderlying29 rfl rfl reads_row).to (v_len S_2_uint8.enc _)) ?_
  refine oy rfl rfl (y_move rfl) ?_
  refine ops_nil ?_
  refine goes_code ?_
  refine run_block ?_
  refine run_times 60 ?_
  refine run_seq ?_
  refine run_region' ?_
  refine oy rfl rfl (y_lss rfl rfl) ?_
  refine ops_nil ?_
  refine goes_code ?_
  refine run_seq ?_
  refine run_cond_t rfl ?_
  refine run_skip ?_
  refine goes_code ?_
  refine run_seq ?_
  refine run_block ?_
  refine run_seq ?_
  refine run_weak [(0, l_0v), (4, .bool done_4), (11, boxP b18 0), (45, v19), (46, .int .i64 3), (47, .int .i64 0)] [0, 1, 5, 6] [ro l_0v 20 (l_0.map S_api_Segment.enc), globA, box b18 [.int .i64 0, .slice none 0 0, .bool false, .int .i64 0, .slice none 0 0, .bool false, .int .i64 0, .slice none 0 0, .bool false], row v19 2 (([a_1, b_2, c_3] : List S_2_uint8).map S_2_uint8.enc)] (qv6 rfl rfl rfl rfl rfl rfl) (by decide) rfl ?_
  refine run_region' ?_
  refine oy rfl rfl (y_move rfl) ?_
  obtain ⟨x20, hzx20, hlx20, hxx20, h⟩ := idx_some h
  refine oy rfl rfl (y_indexAddrI (kd := .i64) (i := 0) 3 Tryd.runUnderlying29 Tryd.sizeOf23 rfl rfl rfl reads_row hzx20 (map_lt hlx20)) ?_
  refine oy rfl rfl (y_load_agg (i := (0 : Int).toNat) (c := [.int .u8 x20.a0_, .int .u8 x20.a1_]) 3 Tryd.isAgg23 Tryd.sizeOf23 rfl rfl reads_row (map_get hxx20)) ?_
  refine ot rfl rfl (t_alloc Tryd.zeroValue23) ?_
  rintro _ _ ⟨b21, rfl, rfl⟩
  refine oy rfl rfl (y_assign rfl) ?_
  refine ot rfl rfl (t_store 4 Tryd.sizeOf23 rfl rfl rfl rfl (by simp [Value.cells, boxP]) (by simp [Value.cells, Value.oneCell', boxP])) ?_
  rintro _ _ ⟨rfl, rfl⟩
  refine ops_turn (retell 4 (g := box b21 [.int .u8 x20.a0_, .int .u8 x20.a1_]) rfl rfl) ?_
  refine ops_nil ?_
  refine goes_code ?_
  refine run_seq ?_
  refine run_region' ?_
  refine oy rfl rfl (y_indexAddr_box (n := 0) Tryd.runUnderlying23 Tryd.sizeOf5 rfl rfl (by decide)) ?_
  refine oy rfl rfl (y_load_box 4 Tryd.isAgg5 rfl rfl rfl) ?_
  refine oy rfl rfl (y_conv Tryd.runUnderlying5 Tryd.runUnderlying3 rfl) ?_
  refine oy rfl rfl (y_move rfl) ?_
  refine oy rfl rfl ((y_len 0 rfl Tryd.runUnderlying22 rfl rfl reads_ro).to (v_len S_api_Segment.enc _)) ?_
  obtain ⟨hd22, h⟩ := need_some h
  refine oy rfl rfl (y_rem rfl rfl hd22) ?_
  refine oy rfl rfl (y_assign rfl) ?_
  refine ops_nil ?_
  refine goes_code ?_
  refine run_weak [(0, l_0v), (4, .bool done_4), (11, boxP b18 0), (45, v19), (46, .int .i64 3), (47, .int .i64 0), (13, boxP b21 0), (12, .int .i64 0), (14, .int .i64 ((IntKind.i64.wrap x20.a0_).tmod (l_0.length : Int)))] [0, 1, 2, 3, 4] [ro l_0v 20 (l_0.map S_api_Segment.enc), globA, box b18 [.int .i64 0, .slice none 0 0, .bool false, .int .i64 0, .slice none 0 0, .bool false, .int .i64 0, .slice none 0 0, .bool false], row v19 2 (([a_1, b_2, c_3] : List S_2_uint8).map S_2_uint8.enc), box b21 [.int .u8 x20.a0_, .int .u8 x20.a1_]] (qv9 rfl rfl rfl rfl rfl rfl rfl rfl rfl) (by decide) rfl ?_
  refine run_region' ?_
  refine oy rfl rfl (y_move rfl) ?_
  refine oy rfl rfl (y_move rfl) ?_
  refine oy rfl rfl (y_move rfl) ?_
  refine oy rfl rfl (y_move rfl) ?_
  refine oy rfl rfl (y_add rfl rfl) ?_
  refine oy rfl rfl (y_indexAddr_box (n := 1) Tryd.runUnderlying23 Tryd.sizeOf5 rfl rfl (by decide)) ?_
  refine oy rfl rfl (y_load_box 4 Tryd.isAgg5 rfl rfl rfl) ?_
  refine oy rfl rfl (y_conv Tryd.runUnderlying5 Tryd.runUnderlying3 rfl) ?_
  refine oy rfl rfl (y_move rfl) ?_
  refine oy rfl rfl ((y_len 0 rfl Tryd.runUnderlying22 rfl rfl reads_ro).to (v_len S_api_Segment.enc _)) ?_
  refine oy rfl rfl (y_move rfl) ?_
  refine oy rfl rfl (y_sub rfl rfl) ?_
  obtain ⟨hd23, h⟩ := need_some h
  refine oy rfl rfl (y_rem rfl rfl hd23) ?_
  refine oy rfl rfl (y_add rfl rfl) ?_
  refine oy rfl rfl (y_move rfl) ?_
  obtain ⟨r24, hr25, h⟩ := obind_some h
  refine ot rfl rfl (t_callx (vs := [l_0v, .int .i64 ((IntKind.i64.wrap x20.a0_).tmod (l_0.length : Int)), .int .i64 (IntKind.i64.wrap ((IntKind.i64.wrap (((IntKind.i64.wrap x20.a0_).tmod (l_0.length : Int)) + 1)) + ((IntKind.i64.wrap x20.a1_).tmod (IntKind.i64.wrap ((l_0.length : Int) - ((IntKind.i64.wrap x20.a0_).tmod (l_0.length : Int))))))), .bool done_4]) (cs := []) [(0, 0)] rfl Tryd.call9 rfl (ref43_Part_ok l_0 ((IntKind.i64.wrap x20.a0_).tmod (l_0.length : Int)) (IntKind.i64.wrap ((IntKind.i64.wrap (((IntKind.i64.wrap x20.a0_).tmod (l_0.length : Int)) + 1)) + ((IntKind.i64.wrap x20.a1_).tmod (IntKind.i64.wrap ((l_0.length : Int) - ((IntKind.i64.wrap x20.a0_).tmod (l_0.length : Int))))))) done_4 l_0v hr25) (showsX_view 0 rfl views_ro showsX_nil) rfl (.inl rfl)) ?_
  rintro _ _ ⟨_, ⟨v26, rfl, rfl⟩, rfl⟩
  refine ops_weak [(0, l_0v), (4, .bool done_4), (11, boxP b18 0), (45, v19), (46, .int .i64 3), (47, .int .i64 0), (58, .int .i64 0), (73, .agg #[.int .i64 r24.First, v26, .bool r24.Done])] [0, 1, 2, 3, 5] [ro l_0v 20 (l_0.map S_api_Segment.enc), globA, box b18 [.int .i64 0, .slice none 0 0, .bool false, .int .i64 0, .slice none 0 0, .bool false, .int .i64 0, .slice none 0 0, .bool false], row v19 2 (([a_1, b_2, c_3] : List S_2_uint8).map S_2_uint8.enc), row v26 20 (r24.L.map S_api_Segment.enc)] (qv8 rfl rfl rfl rfl rfl rfl rfl rfl) (by decide) rfl ?_
  refine oy rfl rfl (y_indexAddr_box (n := 0) Tryd.runUnderlying28 Tryd.sizeOf27 rfl rfl (by decide)) ?_
  refine ops_slc 4 rfl reads_row (fun hs27 hs27o => ?_)
  refine ot rfl rfl (t_store 2 Tryd.sizeOf27 rfl rfl rfl rfl (by simp [Value.cells, boxP]) (allL_cons rfl (allL_cons hs27o (allL_cons rfl (allL_nil))))) ?_
  rintro _ _ ⟨rfl, rfl⟩
  refine ops_turn (retell 2 (g := box b18 [.int .i64 r24.First, v26, .bool r24.Done, .int .i64 0, .slice none 0 0, .bool false, .int .i64 0, .slice none 0 0, .bool false]) rfl rfl) ?_
  refine ops_nil ?_
  refine goes_blk ?_
  refine goes_code ?_
  refine run_region' ?_
  refine oy rfl rfl (y_add rfl rfl) ?_
  refine oy rfl rfl (y_move rfl) ?_
  refine ops_nil ?_
  refine goes_times ?_
  refine run_seq ?_
  refine run_region' ?_
  refine oy rfl rfl (y_lss rfl rfl) ?_
  refine ops_nil ?_
  refine goes_code ?_
  refine run_seq ?_
  refine run_cond_t rfl ?_
  refine run_skip ?_
  refine goes_code ?_
  refine run_seq ?_
  refine run_block ?_
  refine run_seq ?_
  refine run_region' ?_
  refine oy rfl rfl (y_move rfl) ?_
  obtain ⟨x28, hzx28, hlx28, hxx28, h⟩ := idx_some h
  refine oy rfl rfl (y_indexAddrI (kd := .i64) (i := 1) 3 Tryd.runUnderlying29 Tryd.sizeOf23 rfl rfl rfl reads_row hzx28 (map_lt hlx28)) ?_
  refine oy rfl rfl (y_load_agg (i := (1 : Int).toNat) (c := [.int .u8 x28.a0_, .int .u8 x28.a1_]) 3 Tryd.isAgg23 Tryd.sizeOf23 rfl rfl reads_row (map_get hxx28)) ?_
  refine ot rfl rfl (t_alloc Tryd.zeroValue23) ?_
  rintro _ _ ⟨b29, rfl, rfl⟩
  refine oy rfl rfl (y_assign rfl) ?_
  refine ot rfl rfl (t_store 5 Tryd.sizeOf23 rfl rfl rfl rfl (by simp [Value.cells, boxP]) (by simp [Value.cells, Value.oneCell', boxP])) ?_
  rintro _ _ ⟨rfl, rfl⟩
  refine ops_turn (retell 5 (g := box b29 [.int .u8 x28.a0_, .int .u8 x28.a1_]) rfl rfl) ?_
  refine ops_nil ?_
  refine goes_code ?_
  refine run_seq ?_
  refine run_weak [(0, l_0v), (4, .bool done_4), (11, boxP b18 0), (45, v19), (46, .int .i64 3), (47, .int .i64 1), (13, boxP b29 0), (12, .int .i64 1)] [0, 1, 2, 3, 4, 5] [ro l_0v 20 (l_0.map S_api_Segment.enc), globA, box b18 [.int .i64 r24.First, v26, .bool r24.Done, .int .i64 0, .slice none 0 0, .bool false, .int .i64 0, .slice none 0 0, .bool false], row v19 2 (([a_1, b_2, c_3] : List S_2_uint8).map S_2_uint8.enc), row v26 20 (r24.L.map S_api_Segment.enc), box b29 [.int .u8 x28.a0_, .int .u8 x28.a1_]] (qv8 rfl rfl rfl rfl rfl rfl rfl rfl) (by decide) rfl ?_
  refine run_region' ?_
  refine oy rfl rfl (y_indexAddr_box (n := 0) Tryd.runUnderlying23 Tryd.sizeOf5 rfl rfl (by decide)) ?_
  refine oy rfl rfl (y_load_box 5 Tryd.isAgg5 rfl rfl rfl) ?_
  refine oy rfl rfl (y_conv Tryd.runUnderlying5 Tryd.runUnderlying3 rfl) ?_
  refine oy rfl rfl (y_move rfl) ?_
  refine oy rfl rfl ((y_len 0 rfl Tryd.runUnderlying22 rfl rfl reads_ro).to (v_len S_api_Segment.enc _)) ?_
  obtain ⟨hd30, h⟩ := need_some h
  refine oy rfl rfl (y_rem rfl rfl hd30) ?_
  refine oy rfl rfl (y_assign rfl) ?_
  refine ops_nil ?_
  refine goes_code ?_
  refine run_region' ?_
  refine oy rfl rfl (y_move rfl) ?_
  refine oy rfl rfl (y_move rfl) ?_
  refine oy rfl rfl (y_move rfl) ?_
  refine oy rfl rfl (y_move rfl) ?_
  refine oy rfl rfl (y_add rfl rfl) ?_
  refine oy rfl rfl (y_indexAddr_box (n := 1) Tryd.runUnderlying23 Tryd.sizeOf5 rfl rfl (by decide)) ?_
  refine oy rfl rfl (y_load_box 5 Tryd.isAgg5 rfl rfl rfl) ?_
  refine oy rfl rfl (y_conv Tryd.runUnderlying5 Tryd.runUnderlying3 rfl) ?_
  refine oy rfl rfl (y_move rfl) ?_
  refine ops_weak [(0, l_0v), (4, .bool done_4), (11, boxP b18 0), (45, v19), (46, .int .i64 3), (47, .int .i64 1), (14, .int .i64 ((IntKind.i64.wrap x28.a0_).tmod (l_0.length : Int))), (58, .int .i64 1), (59, l_0v), (60, .int .i64 ((IntKind.i64.wrap x28.a0_).tmod (l_0.length : Int))), (62, .int .i64 (IntKind.i64.wrap (((IntKind.i64.wrap x28.a0_).tmod (l_0.length : Int)) + 1))), (65, .int .i64 (IntKind.i64.wrap x28.a1_)), (66, l_0v)] [0, 1, 2, 3, 4] [ro l_0v 20 (l_0.map S_api_Segment.enc), globA, box b18 [.int .i64 r24.First, v26, .bool r24.Done, .int .i64 0, .slice none 0 0, .bool false, .int .i64 0, .slice none 0 0, .bool false], row v19 2 (([a_1, b_2, c_3] : List S_2_uint8).map S_2_uint8.enc), row v26 20 (r24.L.map S_api_Segment.enc)] (qw6 rfl rfl rfl rfl rfl rfl (qv7 rfl rfl rfl rfl rfl rfl rfl)) (by decide) rfl ?_
  refine oy rfl rfl ((y_len 0 rfl Tryd.runUnderlying22 rfl rfl reads_ro).to (v_len S_api_Segment.enc _)) ?_
  refine oy rfl rfl (y_move rfl) ?_
  refine oy rfl rfl (y_sub rfl rfl) ?_
  obtain ⟨hd31, h⟩ := need_some h
  refine oy rfl rfl (y_rem rfl rfl hd31) ?_
  refine oy rfl rfl (y_add rfl rfl) ?_
  refine oy rfl rfl (y_move rfl) ?_
  obtain ⟨r32, hr33, h⟩ := obind_some h
  refine ot rfl rfl (t_callx (vs := [l_0v, .int .i64 ((IntKind.i64.wrap x28.a0_).tmod (l_0.length : Int)), .int .i64 (IntKind.i64.wrap ((IntKind.i64.wrap (((IntKind.i64.wrap x28.a0_).tmod (l_0.length : Int)) + 1)) + ((IntKind.i64.wrap x28.a1_).tmod (IntKind.i64.wrap ((l_0.length : Int) - ((IntKind.i64.wrap x28.a0_).tmod (l_0.length : Int))))))), .bool done_4]) (cs := []) [(0, 0)] rfl Tryd.call9 rfl (ref43_Part_ok l_0 ((IntKind.i64.wrap x28.a0_).tmod (l_0.length : Int)) (IntKind.i64.wrap ((IntKind.i64.wrap (((IntKind.i64.wrap x28.a0_).tmod (l_0.length : Int)) + 1)) + ((IntKind.i64.wrap x28.a1_).tmod (IntKind.i64.wrap ((l_0.length : Int) - ((IntKind.i64.wrap x28.a0_).tmod (l_0.length : Int))))))) done_4 l_0v hr33) (showsX_view 0 rfl views_ro showsX_nil) rfl (.inl rfl)) ?_
  rintro _ _ ⟨_, ⟨v34, rfl, rfl⟩, rfl⟩
  refine oy rfl rfl (y_indexAddr_box (n := 1) Tryd.runUnderlying28 Tryd.sizeOf27 rfl rfl (by decide)) ?_
  refine ops_slc 5 rfl reads_row (fun hs35 hs35o => ?_)
  refine ot rfl rfl (t_store 2 Tryd.sizeOf27 rfl rfl rfl rfl (by simp [Value.cells, boxP]) (allL_cons rfl (allL_cons hs35o (allL_cons rfl (allL_nil))))) ?_
  rintro _ _ ⟨rfl, rfl⟩
  refine ops_turn (retell 2 (g := box b18 [.int .i64 r24.First, v26, .bool r24.Done, .int .i64 r32.First, v34, .bool r32.Done, .int .i64 0, .slice none 0 0, .bool false]) rfl rfl) ?_
  refine ops_nil ?_
  refine goes_blk ?_
  refine goes_code ?_
  refine run_weak [(0, l_0v), (4, .bool done_4), (11, boxP b18 0), (45, v19), (46, .int .i64 3), (47, .int .i64 1)] [0, 1, 2, 3, 4, 5] [ro l_0v 20 (l_0.map S_api_Segment.enc), globA, box b18 [.int .i64 r24.First, v26, .bool r24.Done, .int .i64 r32.First, v34, .bool r32.Done, .int .i64 0, .slice none 0 0, .bool false], row v19 2 (([a_1, b_2, c_3] : List S_2_uint8).map S_2_uint8.enc), row v26 20 (r24.L.map S_api_Segment.enc), row v34 20 (r32.L.map S_api_Segment.enc)] (qv6 rfl rfl rfl rfl rfl rfl) (by decide) rfl ?_
  refine run_region' ?_
  refine oy rfl rfl (y_add rfl rfl) ?_
  refine oy rfl rfl (y_move rfl) ?_
  refine ops_nil ?_
  refine goes_times ?_
  refine run_seq ?_
  refine run_region' ?_
  refine oy rfl rfl (y_lss rfl rfl) ?_
  refine ops_nil ?_
  refine goes_code ?_
  refine run_seq ?_
  refine run_cond_t rfl ?_
  refine run_skip ?_
  refine goes_code ?_
  refine run_seq ?_
  refine run_block ?_
  refine run_seq ?_
  refine run_region' ?_
  refine oy rfl rfl (y_move rfl) ?_
  obtain ⟨x36, hzx36, hlx36, hxx36, h⟩ := idx_some h
  refine oy rfl rfl (y_indexAddrI (kd := .i64) (i := 2) 3 Tryd.runUnderlying29 Tryd.sizeOf23 rfl rfl rfl reads_row hzx36 (map_lt hlx36)) ?_
  refine oy rfl rfl (y_load_agg (i := (2 : Int).toNat) (c := [.int .u8 x36.a0_, .int .u8 x36.a1_]) 3 Tryd.isAgg23 Tryd.sizeOf23 rfl rfl reads_row (map_get hxx36)) ?_
  refine ot rfl rfl (t_alloc Tryd.zeroValue23) ?_
  rintro _ _ ⟨b37, rfl, rfl⟩
  refine oy rfl rfl (y_assign rfl) ?_
  refine ot rfl rfl (t_store 6 Tryd.sizeOf23 rfl rfl rfl rfl (by simp [Value.cells, boxP]) (by simp [Value.cells, Value.oneCell', boxP])) ?_
  rintro _ _ ⟨rfl, rfl⟩
  refine ops_turn (retell 6 (g := box b37 [.int .u8 x36.a0_, .int .u8 x36.a1_]) rfl rfl) ?_
  refine ops_nil ?_
  refine goes_code ?_
  refine run_seq ?_
  refine run_weak [(0, l_0v), (4, .bool done_4), (11, boxP b18 0), (45, v19), (46, .int .i64 3), (47, .int .i64 2), (13, boxP b37 0), (12, .int .i64 2)] [0, 1, 2, 3, 4, 5, 6] [ro l_0v 20 (l_0.map S_api_Segment.enc), globA, box b18 [.int .i64 r24.First, v26, .bool r24.Done, .int .i64 r32.First, v34, .bool r32.Done, .int .i64 0, .slice none 0 0, .bool false], row v19 2 (([a_1, b_2, c_3] : List S_2_uint8).map S_2_uint8.enc), row v26 20 (r24.L.map S_api_Segment.enc), row v34 20 (r32.L.map S_api_Segment.enc), box b37 [.int .u8 x36.a0_, .int .u8 x36.a1_]] (qv8 rfl rfl rfl rfl rfl rfl rfl rfl) (by decide) rfl ?_
  refine run_region' ?_
  refine oy rfl rfl (y_indexAddr_box (n := 0) Tryd.runUnderlying23 Tryd.sizeOf5 rfl rfl (by decide)) ?_
  refine oy rfl rfl (y_load_box 6 Tryd.isAgg5 rfl rfl rfl) ?_
  refine oy rfl rfl (y_conv Tryd.runUnderlying5 Tryd.runUnderlying3 rfl) ?_
  refine oy rfl rfl (y_move rfl) ?_
  refine oy rfl rfl ((y_len 0 rfl Tryd.runUnderlying22 rfl rfl reads_ro).to (v_len S_api_Segment.enc _)) ?_
  obtain ⟨hd38, h⟩ := need_some h
  refine oy rfl rfl (y_rem rfl rfl hd38) ?_
  refine oy rfl rfl (y_assign rfl) ?_
  refine ops_nil ?_
  refine goes_code ?_
  refine run_region' ?_
  refine oy rfl rfl (y_move rfl) ?_
  refine oy rfl rfl (y_move rfl) ?_
  refine oy rfl rfl (y_move rfl) ?_
  refine oy rfl rfl (y_move rfl) ?_
  refine oy rfl rfl (y_add rfl rfl) ?_
  refine oy rfl rfl (y_indexAddr_box (n := 1) Tryd.runUnderlying23 Tryd.sizeOf5 rfl rfl (by decide)) ?_
  refine oy rfl rfl (y_load_box 6 Tryd.isAgg5 rfl rfl rfl) ?_
  refine oy rfl rfl (y_conv Tryd.runUnderlying5 Tryd.runUnderlying3 rfl) ?_
  refine oy rfl rfl (y_move rfl) ?_
  refine ops_weak [(0, l_0v), (4, .bool done_4), (11, boxP b18 0), (45, v19), (46, .int .i64 3), (47, .int .i64 2), (14, .int .i64 ((IntKind.i64.wrap x36.a0_).tmod (l_0.length : Int))), (58, .int .i64 2), (59, l_0v), (60, .int .i64 ((IntKind.i64.wrap x36.a0_).tmod (l_0.length : Int))), (62, .int .i64 (IntKind.i64.wrap (((IntKind.i64.wrap x36.a0_).tmod (l_0.length : Int)) + 1))), (65, .int .i64 (IntKind.i64.wrap x36.a1_)), (66, l_0v)] [0, 1, 2, 3, 4, 5] [ro l_0v 20 (l_0.map S_api_Segment.enc), globA, box b18 [.int .i64 r24.First, v26, .bool r24.Done, .int .i64 r32.First, v34, .bool r32.Done, .int .i64 0, .slice none 0 0, .bool false], row v19 2 (([a_1, b_2, c_3] : List S_2_uint8).map S_2_uint8.enc), row v26 20 (r24.L.map S_api_Segment.enc), row v34 20 (r32.L.map S_api_Segment.enc)] (qw6 rfl rfl rfl rfl rfl rfl (qv7 rfl rfl rfl rfl rfl rfl rfl)) (by decide) rfl ?_
  refine oy rfl rfl ((y_len 0 rfl Tryd.runUnderlying22 rfl rfl reads_ro).to (v_len S_api_Segment.enc _)) ?_
  refine oy rfl rfl (y_move rfl) ?_
  refine oy rfl rfl (y_sub rfl rfl) ?_
  obtain ⟨hd39, h⟩ := need_some h
  refine oy rfl rfl (y_rem rfl rfl hd39) ?_
  refine oy rfl rfl (y_add rfl rfl) ?_
  refine oy rfl rfl (y_move rfl) ?_
  obtain ⟨r40, hr41, h⟩ := obind_some h
  refine ot rfl rfl (t_callx (vs := [l_0v, .int .i64 ((IntKind.i64.wrap x36.a0_).tmod (l_0.length : Int)), .int .i64 (IntKind.i64.wrap ((IntKind.i64.wrap (((IntKind.i64.wrap x36.a0_).tmod (l_0.length : Int)) + 1)) + ((IntKind.i64.wrap x36.a1_).tmod (IntKind.i64.wrap ((l_0.length : Int) - ((IntKind.i64.wrap x36.a0_).tmod (l_0.length : Int))))))), .bool done_4]) (cs := []) [(0, 0)] rfl Tryd.call9 rfl (ref43_Part_ok l_0 ((IntKind.i64.wrap x36.a0_).tmod (l_0.length : Int)) (IntKind.i64.wrap ((IntKind.i64.wrap (((IntKind.i64.wrap x36.a0_).tmod (l_0.length : Int)) + 1)) + ((IntKind.i64.wrap x36.a1_).tmod (IntKind.i64.wrap ((l_0.length : Int) - ((IntKind.i64.wrap x36.a0_).tmod (l_0.length : Int))))))) done_4 l_0v hr41) (showsX_view 0 rfl views_ro showsX_nil) rfl (.inl rfl)) ?_
  rintro _ _ ⟨_, ⟨v42, rfl, rfl⟩, rfl⟩
  refine oy rfl rfl (y_indexAddr_box (n := 2) Tryd.runUnderlying28 Tryd.sizeOf27 rfl rfl (by decide)) ?_
  refine ops_slc 6 rfl reads_row (fun hs43 hs43o => ?_)
  refine ot rfl rfl (t_store 2 Tryd.sizeOf27 rfl rfl rfl rfl (by simp [Value.cells, boxP]) (allL_cons rfl (allL_cons hs43o (allL_cons rfl (allL_nil))))) ?_
  rintro _ _ ⟨rfl, rfl⟩
  refine ops_turn (retell 2 (g := box b18 [.int .i64 r24.First, v26, .bool r24.Done, .int .i64 r32.First, v34, .bool r32.Done, .int .i64 r40.First, v42, .bool r40.Done]) rfl rfl) ?_
  refine ops_nil ?_
  refine goes_blk ?_
  refine goes_code ?_
  refine run_weak [(0, l_0v), (4, .bool done_4), (11, boxP b18 0), (45, v19), (46, .int .i64 3), (47, .int .i64 2)] [0, 1, 2, 3, 4, 5, 6] [ro l_0v 20 (l_0.map S_api_Segment.enc), globA, box b18 [.int .i64 r24.First, v26, .bool r24.Done, .int .i64 r32.First, v34, .bool r32.Done, .int .i64 r40.First, v42, .bool r40.Done], row v19 2 (([a_1, b_2, c_3] : List S_2_uint8).map S_2_uint8.enc), row v26 20 (r24.L.map S_api_Segment.enc), row v34 20 (r32.L.map S_api_Segment.enc), row v42 20 (r40.L.map S_api_Segment.enc)] (qv6 rfl rfl rfl rfl rfl rfl) (by decide) rfl ?_
  refine run_region' ?_
  refine oy rfl rfl (y_add rfl rfl) ?_
  refine oy rfl rfl (y_move rfl) ?_
  refine ops_nil ?_
  refine goes_times ?_
  refine run_seq ?_
  refine run_region' ?_
  refine oy rfl rfl (y_lss rfl rfl) ?_
  refine ops_nil ?_
  refine goes_code ?_
  refine run_seq ?_
  refine run_cond_f rfl ?_
  refine run_exit _ rfl ?_
  refine goes_code ?_
  refine run_seq ?_
  refine run_region' ?_
  refine oy rfl rfl (y_indexAddr_box (n := 0) Tryd.runUnderlying28 Tryd.sizeOf27 rfl rfl (by decide)) ?_
  refine oy rfl rfl (y_load_boxagg (c := [.int .i64 r24.First, v26, .bool r24.Done]) 2 Tryd.isAgg27 Tryd.sizeOf27 rfl rfl rfl) ?_
  refine oy rfl rfl (y_indexAddr_box (n := 1) Tryd.runUnderlying28 Tryd.sizeOf27 rfl rfl (by decide)) ?_
  refine oy rfl rfl (y_load_boxagg (c := [.int .i64 r32.First, v34, .bool r32.Done]) 2 Tryd.isAgg27 Tryd.sizeOf27 rfl rfl rfl) ?_
  refine ops_turn (Go.Abs.freeze 4 rfl) ?_
  refine ops_turn (Go.Abs.freeze 5 rfl) ?_
  obtain ⟨r44, hr45, h⟩ := obind_some h
  refine ot rfl rfl (t_callx (vs := [.agg #[.int .i64 r24.First, v26, .bool r24.Done], .agg #[.int .i64 r32.First, v34, .bool r32.Done], .int .i64 100]) (cs := []) [(4, 0), (5, 0)] rfl Tryd.call10 rfl (playlist_Merge_ok n r24 r32 100 v26 v34 hr45) (showsX_view 4 rfl views_ro (showsX_view 5 rfl views_ro showsX_nil)) rfl (.inl rfl)) ?_
  rintro _ _ ⟨_, ⟨v46, rfl, rfl⟩, rfl⟩
  refine oy rfl rfl (y_move rfl) ?_
  refine oy rfl rfl (y_extract rfl rfl) ?_
  refine oy rfl rfl (y_extract rfl rfl) ?_
  refine ot rfl rfl (t_alloc Tryd.zeroValue27) ?_
  rintro _ _ ⟨b47, rfl, rfl⟩
  refine ops_slc 7 rfl reads_ro (fun hs48 hs48o => ?_)
  refine ot rfl rfl (t_store 8 Tryd.sizeOf27 rfl rfl rfl rfl (by simp [Value.cells, boxP]) (allL_cons rfl (allL_cons hs48o (allL_cons rfl (allL_nil))))) ?_
  rintro _ _ ⟨rfl, rfl⟩
  refine ops_turn (retell 8 (g := box b47 [.int .i64 r44.1.First, v46, .bool r44.1.Done]) rfl rfl) ?_
  refine oy rfl rfl (y_assign rfl) ?_
  refine ops_nil ?_
  refine goes_code ?_
  refine run_seq ?_
  refine run_weak [(0, l_0v), (4, .bool done_4), (11, boxP b18 0), (15, boxP b47 0), (16, .int .i64 r44.2)] [0, 1, 2, 4, 5, 6, 7, 8] [ro l_0v 20 (l_0.map S_api_Segment.enc), globA, box b18 [.int .i64 r24.First, v26, .bool r24.Done, .int .i64 r32.First, v34, .bool r32.Done, .int .i64 r40.First, v42, .bool r40.Done], ro v26 20 (r24.L.map S_api_Segment.enc), ro v34 20 (r32.L.map S_api_Segment.enc), row v42 20 (r40.L.map S_api_Segment.enc), ro v46 20 (r44.1.L.map S_api_Segment.enc), box b47 [.int .i64 r44.1.First, v46, .bool r44.1.Done]] (qv5 rfl rfl rfl rfl rfl) (by decide) rfl ?_
  refine run_region' ?_
  refine oy rfl rfl (y_indexAddr_box (n := 1) Tryd.runUnderlying28 Tryd.sizeOf27 rfl rfl (by decide)) ?_
  refine oy rfl rfl (y_load_boxagg (c := [.int .i64 r32.First, v34, .bool r32.Done]) 2 Tryd.isAgg27 Tryd.sizeOf27 rfl rfl rfl) ?_
  refine oy rfl rfl (y_indexAddr_box (n := 0) Tryd.runUnderlying28 Tryd.sizeOf27 rfl rfl (by decide)) ?_
  refine oy rfl rfl (y_load_boxagg (c := [.int .i64 r24.First, v26, .bool r24.Done]) 2 Tryd.isAgg27 Tryd.sizeOf27 rfl rfl rfl) ?_
  obtain ⟨r49, hr50, h⟩ := obind_some h
  refine ot rfl rfl (t_callx (vs := [.agg #[.int .i64 r32.First, v34, .bool r32.Done], .agg #[.int .i64 r24.First, v26, .bool r24.Done], .int .i64 100]) (cs := []) [(4, 0), (3, 0)] rfl Tryd.call10 rfl (playlist_Merge_ok n r32 r24 100 v34 v26 hr50) (showsX_view 4 rfl views_ro (showsX_view 3 rfl views_ro showsX_nil)) rfl (.inl rfl)) ?_
  rintro _ _ ⟨_, ⟨v51, rfl, rfl⟩, rfl⟩
  refine oy rfl rfl (y_move rfl) ?_
  refine oy rfl rfl (y_extract rfl rfl) ?_
  refine oy rfl rfl (y_extract rfl rfl) ?_
  refine ot rfl rfl (t_alloc Tryd.zeroValue27) ?_
  rintro _ _ ⟨b52, rfl, rfl⟩
  refine ops_slc 8 rfl reads_ro (fun hs53 hs53o => ?_)
  refine ot rfl rfl (t_store 9 Tryd.sizeOf27 rfl rfl rfl rfl (by simp [Value.cells, boxP]) (allL_cons rfl (allL_cons hs53o (allL_cons rfl (allL_nil))))) ?_
  rintro _ _ ⟨rfl, rfl⟩
  refine ops_turn (retell 9 (g := box b52 [.int .i64 r49.1.First, v51, .bool r49.1.Done]) rfl rfl) ?_
  refine oy rfl rfl (y_assign rfl) ?_
  refine ops_nil ?_
  refine goes_code ?_
  refine run_seq ?_
  refine run_seq ?_
  refine run_weak [(0, l_0v), (4, .bool done_4), (11, boxP b18 0), (15, boxP b47 0), (16, .int .i64 r44.2), (17, boxP b52 0), (18, .int .i64 r49.2)] [0, 1, 2, 3, 4, 5, 6, 7, 8, 9] [ro l_0v 20 (l_0.map S_api_Segment.enc), globA, box b18 [.int .i64 r24.First, v26, .bool r24.Done, .int .i64 r32.First, v34, .bool r32.Done, .int .i64 r40.First, v42, .bool r40.Done], ro v26 20 (r24.L.map S_api_Segment.enc), ro v34 20 (r32.L.map S_api_Segment.enc), row v42 20 (r40.L.map S_api_Segment.enc), ro v46 20 (r44.1.L.map S_api_Segment.enc), box b47 [.int .i64 r44.1.First, v46, .bool r44.1.Done], ro v51 20 (r49.1.L.map S_api_Segment.enc), box b52 [.int .i64 r49.1.First, v51, .bool r49.1.Done]] (qv7 rfl rfl rfl rfl rfl rfl rfl) (by decide) rfl ?_
  refine run_drawany [ro l_0v 20 (l_0.map S_api_Segment.enc), globA, box b18 [.int .i64 r24.First, v26, .bool r24.Done, .int .i64 r32.First, v34, .bool r32.Done, .int .i64 r40.First, v42, .bool r40.Done], ro v26 20 (r24.L.map S_api_Segment.enc), ro v34 20 (r32.L.map S_api_Segment.enc), row v42 20 (r40.L.map S_api_Segment.enc), ro v46 20 (r44.1.L.map S_api_Segment.enc), box b47 [.int .i64 r44.1.First, v46, .bool r44.1.Done], ro v51 20 (r49.1.L.map S_api_Segment.enc), box b52 [.int .i64 r49.1.First, v51, .bool r49.1.Done]] (by kernel_rfl) ?_
  refine any_y 0 rfl (by kernel_rfl) (by kernel_rfl) (by kernel_rfl) (ss (ss (ss (ss (ss (ss (ss (ss (ss (ss (sn))))))))))) (wn rfl) rfl (y_move rfl) ?_
  refine any_y 1 rfl (by kernel_rfl) (by kernel_rfl) (by kernel_rfl) (ss (ss (ss (ss (ss (ss (ss (ss (ss (ss (sn))))))))))) (wn rfl) rfl (y_neq rfl rfl) ?_
  refine any_y 2 rfl (by kernel_rfl) (by kernel_rfl) (by kernel_rfl) (ss (ss (ss (ss (ss (ss (ss (ss (ss (ss (sn))))))))))) (wn rfl) rfl (y_move rfl) ?_
  refine any_cut #[true, true, true, true, true, true, false, false, false, false, false, false, false, false, false, false, false, false, false, false, false, false, false, false, false, false, false, false, false] 23 Bool (fun σ => [(0, l_0v), (4, .bool done_4), (11, boxP b18 0), (15, boxP b47 0), (17, boxP b52 0), (97, .bool σ)]) (fun σ => [ro l_0v 20 (l_0.map S_api_Segment.enc), globA, box b18 [.int .i64 r24.First, v26, .bool r24.Done, .int .i64 r32.First, v34, .bool r32.Done, .int .i64 r40.First, v42, .bool r40.Done], ro v26 20 (r24.L.map S_api_Segment.enc), ro v34 20 (r32.L.map S_api_Segment.enc), row v42 20 (r40.L.map S_api_Segment.enc), ro v46 20 (r44.1.L.map S_api_Segment.enc), box b47 [.int .i64 r44.1.First, v46, .bool r44.1.Done], ro v51 20 (r49.1.L.map S_api_Segment.enc), box b52 [.int .i64 r49.1.First, v51, .bool r49.1.Done]]) (fun σ => σ = (decide (r44.2 ≠ 0) || decide (r49.2 ≠ 0))) (fun hL55 => ?_) ?_
  ·refine any_split 94 (decide (r44.2 ≠ 0)) rfl (fun hg56 => ?_) (fun hg56 => ?_)
   ·skip
    refine any_no 3 rfl (by kernel_rfl) (by kernel_rfl) (by kernel_rfl) (ss (ss (ss (ss (ss (ss (ss (ss (ss (ss (sn))))))))))) 2 false 94 rfl rfl rfl rfl rfl ?_
    refine any_no 4 rfl (by kernel_rfl) (by kernel_rfl) (by kernel_rfl) (ss (ss (ss (ss (ss (ss (ss (ss (ss (ss (sn))))))))))) 2 false 94 rfl rfl rfl rfl rfl ?_
    refine any_y 5 rfl (by kernel_rfl) (by kernel_rfl) (by kernel_rfl) (ss (ss (ss (ss (ss (ss (ss (ss (ss (ss (sn))))))))))) (wn rfl) rfl (y_pick (b := true) rfl rfl) ?_
    exact any_weak [(0, l_0v), (4, .bool done_4), (11, boxP b18 0), (15, boxP b47 0), (17, boxP b52 0), (97, .bool true)] [0, 1, 2, 3, 4, 5, 6, 7, 8, 9] [ro l_0v 20 (l_0.map S_api_Segment.enc), globA, box b18 [.int .i64 r24.First, v26, .bool r24.Done, .int .i64 r32.First, v34, .bool r32.Done, .int .i64 r40.First, v42, .bool r40.Done], ro v26 20 (r24.L.map S_api_Segment.enc), ro v34 20 (r32.L.map S_api_Segment.enc), row v42 20 (r40.L.map S_api_Segment.enc), ro v46 20 (r44.1.L.map S_api_Segment.enc), box b47 [.int .i64 r44.1.First, v46, .bool r44.1.Done], ro v51 20 (r49.1.L.map S_api_Segment.enc), box b52 [.int .i64 r49.1.First, v51, .bool r49.1.Done]] (by kernel_rfl) (qv6 rfl rfl rfl rfl rfl rfl) (by decide) rfl (hL55 true (by rw [hg56]; simp))
   ·skip
    refine any_y 3 rfl (by kernel_rfl) (by kernel_rfl) (by kernel_rfl) (ss (ss (ss (ss (ss (ss (ss (ss (ss (ss (sn))))))))))) (wg 2 false 94 rfl rfl rfl rfl) rfl (y_move rfl) ?_
    refine any_y 4 rfl (by kernel_rfl) (by kernel_rfl) (by kernel_rfl) (ss (ss (ss (ss (ss (ss (ss (ss (ss (ss (sn))))))))))) (wg 2 false 94 rfl rfl rfl rfl) rfl (y_neq rfl rfl) ?_
    refine any_y 5 rfl (by kernel_rfl) (by kernel_rfl) (by kernel_rfl) (ss (ss (ss (ss (ss (ss (ss (ss (ss (ss (sn))))))))))) (wn rfl) rfl (y_pick (b := false) rfl rfl) ?_
    exact any_weak [(0, l_0v), (4, .bool done_4), (11, boxP b18 0), (15, boxP b47 0), (17, boxP b52 0), (97, .bool (decide (r49.2 ≠ 0)))] [0, 1, 2, 3, 4, 5, 6, 7, 8, 9] [ro l_0v 20 (l_0.map S_api_Segment.enc), globA, box b18 [.int .i64 r24.First, v26, .bool r24.Done, .int .i64 r32.First, v34, .bool r32.Done, .int .i64 r40.First, v42, .bool r40.Done], ro v26 20 (r24.L.map S_api_Segment.enc), ro v34 20 (r32.L.map S_api_Segment.enc), row v42 20 (r40.L.map S_api_Segment.enc), ro v46 20 (r44.1.L.map S_api_Segment.enc), box b47 [.int .i64 r44.1.First, v46, .bool r44.1.Done], ro v51 20 (r49.1.L.map S_api_Segment.enc), box b52 [.int .i64 r49.1.First, v51, .bool r49.1.Done]] (by kernel_rfl) (qv6 rfl rfl rfl rfl rfl rfl) (by decide) rfl (hL55 (decide (r49.2 ≠ 0)) (by rw [hg56]; simp))
  rintro _ rfl
  refine any_y 6 rfl (by kernel_rfl) (by kernel_rfl) (by kernel_rfl) (ss (ss (ss (ss (ss (ss (ss (ss (ss (ss (sn))))))))))) (wn rfl) rfl (y_move rfl) ?_
  obtain ⟨o58, h, ho59⟩ := bindJ_some h
  refine any_cut #[true, true, true, true, true, true, true, true, true, true, true, true, false, false, false, false, false, false, false, false, false, false, false, false, false, false, false, false, false] 17 Bool (fun σ => [(0, l_0v), (4, .bool done_4), (11, boxP b18 0), (15, boxP b47 0), (103, .bool σ)]) (fun σ => [ro l_0v 20 (l_0.map S_api_Segment.enc), globA, box b18 [.int .i64 r24.First, v26, .bool r24.Done, .int .i64 r32.First, v34, .bool r32.Done, .int .i64 r40.First, v42, .bool r40.Done], ro v26 20 (r24.L.map S_api_Segment.enc), ro v34 20 (r32.L.map S_api_Segment.enc), row v42 20 (r40.L.map S_api_Segment.enc), ro v46 20 (r44.1.L.map S_api_Segment.enc), box b47 [.int .i64 r44.1.First, v46, .bool r44.1.Done], ro v51 20 (r49.1.L.map S_api_Segment.enc), box b52 [.int .i64 r49.1.First, v51, .bool r49.1.Done]]) (fun σ => o58 = .go σ) (fun hL61 => ?_) ?_
  ·refine any_split 98 (decide (r44.2 ≠ 0) || decide (r49.2 ≠ 0)) rfl (fun hg62 => ?_) (fun hg62 => ?_)
   ·replace h := cond_t h hg62
    refine any_no 7 rfl (by kernel_rfl) (by kernel_rfl) (by kernel_rfl) (ss (ss (ss (ss (ss (ss (ss (ss (ss (ss (sn))))))))))) 6 false 98 rfl rfl rfl rfl rfl ?_
    refine any_no 8 rfl (by kernel_rfl) (by kernel_rfl) (by kernel_rfl) (ss (ss (ss (ss (ss (ss (ss (ss (ss (ss (sn))))))))))) 6 false 98 rfl rfl rfl rfl rfl ?_
    refine any_no 9 rfl (by kernel_rfl) (by kernel_rfl) (by kernel_rfl) (ss (ss (ss (ss (ss (ss (ss (ss (ss (ss (sn))))))))))) 6 false 98 rfl rfl rfl rfl rfl ?_
    refine any_no 10 rfl (by kernel_rfl) (by kernel_rfl) (by kernel_rfl) (ss (ss (ss (ss (ss (ss (ss (ss (ss (ss (sn))))))))))) 6 false 98 rfl rfl rfl rfl rfl ?_
    refine any_y 11 rfl (by kernel_rfl) (by kernel_rfl) (by kernel_rfl) (ss (ss (ss (ss (ss (ss (ss (ss (ss (ss (sn))))))))))) (wn rfl) rfl (y_pick (b := true) rfl rfl) ?_
    obtain rfl := some_eq h
    exact any_weak [(0, l_0v), (4, .bool done_4), (11, boxP b18 0), (15, boxP b47 0), (103, .bool true)] [0, 1, 2, 3, 4, 5, 6, 7, 8, 9] [ro l_0v 20 (l_0.map S_api_Segment.enc), globA, box b18 [.int .i64 r24.First, v26, .bool r24.Done, .int .i64 r32.First, v34, .bool r32.Done, .int .i64 r40.First, v42, .bool r40.Done], ro v26 20 (r24.L.map S_api_Segment.enc), ro v34 20 (r32.L.map S_api_Segment.enc), row v42 20 (r40.L.map S_api_Segment.enc), ro v46 20 (r44.1.L.map S_api_Segment.enc), box b47 [.int .i64 r44.1.First, v46, .bool r44.1.Done], ro v51 20 (r49.1.L.map S_api_Segment.enc), box b52 [.int .i64 r49.1.First, v51, .bool r49.1.Done]] (by kernel_rfl) (qv5 rfl rfl rfl rfl rfl) (by decide) rfl (hL61 true rfl)
   ·replace h := cond_f h hg62
    refine any_y 7 rfl (by kernel_rfl) (by kernel_rfl) (by kernel_rfl) (ss (ss (ss (ss (ss (ss (ss (ss (ss (ss (sn))))))))))) (wg 6 false 98 rfl rfl rfl rfl) rfl (y_load_boxagg (c := [.int .i64 r44.1.First, v46, .bool r44.1.Done]) 7 Tryd.isAgg27 Tryd.sizeOf27 rfl rfl rfl) ?_
    refine any_y 8 rfl (by kernel_rfl) (by kernel_rfl) (by kernel_rfl) (ss (ss (ss (ss (ss (ss (ss (ss (ss (ss (sn))))))))))) (wg 6 false 98 rfl rfl rfl rfl) rfl (y_load_boxagg (c := [.int .i64 r49.1.First, v51, .bool r49.1.Done]) 9 Tryd.isAgg27 Tryd.sizeOf27 rfl rfl rfl) ?_
    refine any_all [9] (by kernel_rfl) rfl (anyo_cons ?_ anyo_nil)
    obtain ⟨r63, hr64, h⟩ := obind_some h
    refine any_t rfl (wg 6 false 98 rfl rfl rfl rfl) rfl (t_callx (vs := [.agg #[.int .i64 r44.1.First, v46, .bool r44.1.Done], .agg #[.int .i64 r49.1.First, v51, .bool r49.1.Done]]) (cs := []) [(6, 0), (8, 0)] rfl Tryd.call11 rfl (ref43_Same_ok n r44.1 r49.1 v46 v51 hr64) (showsX_view 6 rfl views_ro (showsX_view 8 rfl views_ro showsX_nil)) rfl (.inl rfl)) ?_
    rintro _ _ ⟨_, ⟨rfl, rfl⟩, rfl⟩
    refine ⟨(ss (ss (ss (ss (ss (ss (ss (ss (ss (ss (sn))))))))))), ?_⟩
    refine any_y 10 rfl (by kernel_rfl) (by kernel_rfl) (by kernel_rfl) (ss (ss (ss (ss (ss (ss (ss (ss (ss (ss (sn))))))))))) (wg 6 false 98 rfl rfl rfl rfl) rfl (y_not rfl) ?_
    refine any_y 11 rfl (by kernel_rfl) (by kernel_rfl) (by kernel_rfl) (ss (ss (ss (ss (ss (ss (ss (ss (ss (ss (sn))))))))))) (wn rfl) rfl (y_pick (b := false) rfl rfl) ?_
    obtain rfl := some_eq h
    exact any_weak [(0, l_0v), (4, .bool done_4), (11, boxP b18 0), (15, boxP b47 0), (103, .bool (!r63))] [0, 1, 2, 3, 4, 5, 6, 7, 8, 9] [ro l_0v 20 (l_0.map S_api_Segment.enc), globA, box b18 [.int .i64 r24.First, v26, .bool r24.Done, .int .i64 r32.First, v34, .bool r32.Done, .int .i64 r40.First, v42, .bool r40.Done], ro v26 20 (r24.L.map S_api_Segment.enc), ro v34 20 (r32.L.map S_api_Segment.enc), row v42 20 (r40.L.map S_api_Segment.enc), ro v46 20 (r44.1.L.map S_api_Segment.enc), box b47 [.int .i64 r44.1.First, v46, .bool r44.1.Done], ro v51 20 (r49.1.L.map S_api_Segment.enc), box b52 [.int .i64 r49.1.First, v51, .bool r49.1.Done]] (by kernel_rfl) (qv5 rfl rfl rfl rfl rfl) (by decide) rfl (hL61 (!r63) rfl)
  rintro b57 hj
  obtain rfl : o58 = _ := hj
  replace h := after_go ho59
  clear ho59
  refine any_y 12 rfl (by kernel_rfl) (by kernel_rfl) (by kernel_rfl) (ss (ss (ss (ss (ss (ss (ss (ss (ss (ss (sn))))))))))) (wn rfl) rfl (y_move rfl) ?_
  obtain ⟨o66, h, ho67⟩ := bindJ_some h
  refine any_cut #[true, true, true, true, true, true, true, true, true, true, true, true, true, true, true, true, true, false, false, false, false, false, false, false, false, false, false, false, false] 12 Bool (fun σ => [(0, l_0v), (4, .bool done_4), (11, boxP b18 0), (15, boxP b47 0), (108, .bool σ)]) (fun σ => [ro l_0v 20 (l_0.map S_api_Segment.enc), globA, box b18 [.int .i64 r24.First, v26, .bool r24.Done, .int .i64 r32.First, v34, .bool r32.Done, .int .i64 r40.First, v42, .bool r40.Done], ro v26 20 (r24.L.map S_api_Segment.enc), ro v34 20 (r32.L.map S_api_Segment.enc), row v42 20 (r40.L.map S_api_Segment.enc), ro v46 20 (r44.1.L.map S_api_Segment.enc), box b47 [.int .i64 r44.1.First, v46, .bool r44.1.Done], ro v51 20 (r49.1.L.map S_api_Segment.enc), box b52 [.int .i64 r49.1.First, v51, .bool r49.1.Done]]) (fun σ => o66 = .go σ) (fun hL69 => ?_) ?_
  ·refine any_split 104 b57 rfl (fun hg70 => ?_) (fun hg70 => ?_)
   ·replace h := cond_t h hg70
    refine any_no 13 rfl (by kernel_rfl) (by kernel_rfl) (by kernel_rfl) (ss (ss (ss (ss (ss (ss (ss (ss (ss (ss (sn))))))))))) 12 false 104 rfl rfl rfl rfl rfl ?_
    refine any_no 14 rfl (by kernel_rfl) (by kernel_rfl) (by kernel_rfl) (ss (ss (ss (ss (ss (ss (ss (ss (ss (ss (sn))))))))))) 12 false 104 rfl rfl rfl rfl rfl ?_
    refine any_no 15 rfl (by kernel_rfl) (by kernel_rfl) (by kernel_rfl) (ss (ss (ss (ss (ss (ss (ss (ss (ss (ss (sn))))))))))) 12 false 104 rfl rfl rfl rfl rfl ?_
    refine any_y 16 rfl (by kernel_rfl) (by kernel_rfl) (by kernel_rfl) (ss (ss (ss (ss (ss (ss (ss (ss (ss (ss (sn))))))))))) (wn rfl) rfl (y_pick (b := true) rfl rfl) ?_
    obtain rfl := some_eq h
    exact any_weak [(0, l_0v), (4, .bool done_4), (11, boxP b18 0), (15, boxP b47 0), (108, .bool true)] [0, 1, 2, 3, 4, 5, 6, 7, 8, 9] [ro l_0v 20 (l_0.map S_api_Segment.enc), globA, box b18 [.int .i64 r24.First, v26, .bool r24.Done, .int .i64 r32.First, v34, .bool r32.Done, .int .i64 r40.First, v42, .bool r40.Done], ro v26 20 (r24.L.map S_api_Segment.enc), ro v34 20 (r32.L.map S_api_Segment.enc), row v42 20 (r40.L.map S_api_Segment.enc), ro v46 20 (r44.1.L.map S_api_Segment.enc), box b47 [.int .i64 r44.1.First, v46, .bool r44.1.Done], ro v51 20 (r49.1.L.map S_api_Segment.enc), box b52 [.int .i64 r49.1.First, v51, .bool r49.1.Done]] (by kernel_rfl) (qv5 rfl rfl rfl rfl rfl) (by decide) rfl (hL69 true rfl)
   ·replace h := cond_f h hg70
    refine any_y 13 rfl (by kernel_rfl) (by kernel_rfl) (by kernel_rfl) (ss (ss (ss (ss (ss (ss (ss (ss (ss (ss (sn))))))))))) (wg 12 false 104 rfl rfl rfl rfl) rfl (y_load_boxagg (c := [.int .i64 r44.1.First, v46, .bool r44.1.Done]) 7 Tryd.isAgg27 Tryd.sizeOf27 rfl rfl rfl) ?_
    refine any_all [14] (by kernel_rfl) rfl (anyo_cons ?_ anyo_nil)
    obtain ⟨r71, hr72, h⟩ := obind_some h
    refine any_t rfl (wg 12 false 104 rfl rfl rfl rfl) rfl (t_callx (vs := [.agg #[.int .i64 r44.1.First, v46, .bool r44.1.Done]]) (cs := []) [(6, 0)] rfl Tryd.call12 rfl (playlist_Valid_ok n r44.1 v46 hr72) (showsX_view 6 rfl views_ro showsX_nil) rfl (.inl rfl)) ?_
    rintro _ _ ⟨_, ⟨rfl, rfl⟩, rfl⟩
    refine ⟨(ss (ss (ss (ss (ss (ss (ss (ss (ss (ss (sn))))))))))), ?_⟩
    refine any_y 15 rfl (by kernel_rfl) (by kernel_rfl) (by kernel_rfl) (ss (ss (ss (ss (ss (ss (ss (ss (ss (ss (sn))))))))))) (wg 12 false 104 rfl rfl rfl rfl) rfl (y_not rfl) ?_
    refine any_y 16 rfl (by kernel_rfl) (by kernel_rfl) (by kernel_rfl) (ss (ss (ss (ss (ss (ss (ss (ss (ss (ss (sn))))))))))) (wn rfl) rfl (y_pick (b := false) rfl rfl) ?_
    obtain rfl := some_eq h
    exact any_weak [(0, l_0v), (4, .bool done_4), (11, boxP b18 0), (15, boxP b47 0), (108, .bool (!r71))] [0, 1, 2, 3, 4, 5, 6, 7, 8, 9] [ro l_0v 20 (l_0.map S_api_Segment.enc), globA, box b18 [.int .i64 r24.First, v26, .bool r24.Done, .int .i64 r32.First, v34, .bool r32.Done, .int .i64 r40.First, v42, .bool r40.Done], ro v26 20 (r24.L.map S_api_Segment.enc), ro v34 20 (r32.L.map S_api_Segment.enc), row v42 20 (r40.L.map S_api_Segment.enc), ro v46 20 (r44.1.L.map S_api_Segment.enc), box b47 [.int .i64 r44.1.First, v46, .bool r44.1.Done], ro v51 20 (r49.1.L.map S_api_Segment.enc), box b52 [.int .i64 r49.1.First, v51, .bool r49.1.Done]] (by kernel_rfl) (qv5 rfl rfl rfl rfl rfl) (by decide) rfl (hL69 (!r71) rfl)
  rintro b65 hj
  obtain rfl : o66 = _ := hj
  replace h := after_go ho67
  clear ho67
  refine any_y 17 rfl (by kernel_rfl) (by kernel_rfl) (by kernel_rfl) (ss (ss (ss (ss (ss (ss (ss (ss (ss (ss (sn))))))))))) (wn rfl) rfl (y_move rfl) ?_
  obtain ⟨o74, h, ho75⟩ := bindJ_some h
  refine any_cut #[true, true, true, true, true, true, true, true, true, true, true, true, true, true, true, true, true, true, true, true, true, true, true, true, true, true, true, true, true] 0 Bool (fun σ => [(0, l_0v), (4, .bool done_4), (11, boxP b18 0), (15, boxP b47 0), (120, .bool σ)]) (fun σ => [ro l_0v 20 (l_0.map S_api_Segment.enc), globA, box b18 [.int .i64 r24.First, v26, .bool r24.Done, .int .i64 r32.First, v34, .bool r32.Done, .int .i64 r40.First, v42, .bool r40.Done], ro v26 20 (r24.L.map S_api_Segment.enc), ro v34 20 (r32.L.map S_api_Segment.enc), row v42 20 (r40.L.map S_api_Segment.enc), ro v46 20 (r44.1.L.map S_api_Segment.enc), box b47 [.int .i64 r44.1.First, v46, .bool r44.1.Done], ro v51 20 (r49.1.L.map S_api_Segment.enc), box b52 [.int .i64 r49.1.First, v51, .bool r49.1.Done]]) (fun σ => o74 = .go σ) (fun hL77 => ?_) ?_
  ·refine any_split 109 b65 rfl (fun hg78 => ?_) (fun hg78 => ?_)
   ·replace h := cond_t h hg78
    refine any_no 18 rfl (by kernel_rfl) (by kernel_rfl) (by kernel_rfl) (ss (ss (ss (ss (ss (ss (ss (ss (ss (ss (sn))))))))))) 17 false 109 rfl rfl rfl rfl rfl ?_
    refine any_no 20 rfl (by kernel_rfl) (by kernel_rfl) (by kernel_rfl) (ss (ss (ss (ss (ss (ss (ss (ss (ss (ss (sn))))))))))) 17 false 109 rfl rfl rfl rfl rfl ?_
    refine any_no 21 rfl (by kernel_rfl) (by kernel_rfl) (by kernel_rfl) (ss (ss (ss (ss (ss (ss (ss (ss (ss (ss (sn))))))))))) 17 false 109 rfl rfl rfl rfl rfl ?_
    refine any_no 23 rfl (by kernel_rfl) (by kernel_rfl) (by kernel_rfl) (ss (ss (ss (ss (ss (ss (ss (ss (ss (ss (sn))))))))))) 17 false 109 rfl rfl rfl rfl rfl ?_
    refine any_no 24 rfl (by kernel_rfl) (by kernel_rfl) (by kernel_rfl) (ss (ss (ss (ss (ss (ss (ss (ss (ss (ss (sn))))))))))) 17 false 109 rfl rfl rfl rfl rfl ?_
    refine any_no 19 rfl (by kernel_rfl) (by kernel_rfl) (by kernel_rfl) (ss (ss (ss (ss (ss (ss (ss (ss (ss (ss (sn))))))))))) 17 false 109 rfl rfl rfl rfl rfl ?_
    refine any_no 22 rfl (by kernel_rfl) (by kernel_rfl) (by kernel_rfl) (ss (ss (ss (ss (ss (ss (ss (ss (ss (ss (sn))))))))))) 17 false 109 rfl rfl rfl rfl rfl ?_
    refine any_no 25 rfl (by kernel_rfl) (by kernel_rfl) (by kernel_rfl) (ss (ss (ss (ss (ss (ss (ss (ss (ss (ss (sn))))))))))) 17 false 109 rfl rfl rfl rfl rfl ?_
    refine any_no 26 rfl (by kernel_rfl) (by kernel_rfl) (by kernel_rfl) (ss (ss (ss (ss (ss (ss (ss (ss (ss (ss (sn))))))))))) 17 false 109 rfl rfl rfl rfl rfl ?_
    refine any_no 27 rfl (by kernel_rfl) (by kernel_rfl) (by kernel_rfl) (ss (ss (ss (ss (ss (ss (ss (ss (ss (ss (sn))))))))))) 17 false 109 rfl rfl rfl rfl rfl ?_
    refine any_y 28 rfl (by kernel_rfl) (by kernel_rfl) (by kernel_rfl) (ss (ss (ss (ss (ss (ss (ss (ss (ss (ss (sn))))))))))) (wn rfl) rfl (y_pick (b := true) rfl rfl) ?_
    obtain rfl := some_eq h
    exact any_weak [(0, l_0v), (4, .bool done_4), (11, boxP b18 0), (15, boxP b47 0), (120, .bool true)] [0, 1, 2, 3, 4, 5, 6, 7, 8, 9] [ro l_0v 20 (l_0.map S_api_Segment.enc), globA, box b18 [.int .i64 r24.First, v26, .bool r24.Done, .int .i64 r32.First, v34, .bool r32.Done, .int .i64 r40.First, v42, .bool r40.Done], ro v26 20 (r24.L.map S_api_Segment.enc), ro v34 20 (r32.L.map S_api_Segment.enc), row v42 20 (r40.L.map S_api_Segment.enc), ro v46 20 (r44.1.L.map S_api_Segment.enc), box b47 [.int .i64 r44.1.First, v46, .bool r44.1.Done], ro v51 20 (r49.1.L.map S_api_Segment.enc), box b52 [.int .i64 r49.1.First, v51, .bool r49.1.Done]] (by kernel_rfl) (qv5 rfl rfl rfl rfl rfl) (by decide) rfl (hL77 true rfl)
   ·replace h := cond_f h hg78
    refine any_y 18 rfl (by kernel_rfl) (by kernel_rfl) (by kernel_rfl) (ss (ss (ss (ss (ss (ss (ss (ss (ss (ss (sn))))))))))) (wg 17 false 109 rfl rfl rfl rfl) rfl (y_load_boxagg (c := [.int .i64 r44.1.First, v46, .bool r44.1.Done]) 7 Tryd.isAgg27 Tryd.sizeOf27 rfl rfl rfl) ?_
    refine any_y 20 rfl (by kernel_rfl) (by kernel_rfl) (by kernel_rfl) (ss (ss (ss (ss (ss (ss (ss (ss (ss (ss (sn))))))))))) (wg 17 false 109 rfl rfl rfl rfl) rfl (y_indexAddr_box (n := 0) Tryd.runUnderlying28 Tryd.sizeOf27 rfl rfl (by decide)) ?_
    refine any_y 21 rfl (by kernel_rfl) (by kernel_rfl) (by kernel_rfl) (ss (ss (ss (ss (ss (ss (ss (ss (ss (ss (sn))))))))))) (wg 17 false 109 rfl rfl rfl rfl) rfl (y_load_boxagg (c := [.int .i64 r24.First, v26, .bool r24.Done]) 2 Tryd.isAgg27 Tryd.sizeOf27 rfl rfl rfl) ?_
    refine any_y 23 rfl (by kernel_rfl) (by kernel_rfl) (by kernel_rfl) (ss (ss (ss (ss (ss (ss (ss (ss (ss (ss (sn))))))))))) (wg 17 false 109 rfl rfl rfl rfl) rfl (y_indexAddr_box (n := 1) Tryd.runUnderlying28 Tryd.sizeOf27 rfl rfl (by decide)) ?_
    refine any_y 24 rfl (by kernel_rfl) (by kernel_rfl) (by kernel_rfl) (ss (ss (ss (ss (ss (ss (ss (ss (ss (ss (sn))))))))))) (wg 17 false 109 rfl rfl rfl rfl) rfl (y_load_boxagg (c := [.int .i64 r32.First, v34, .bool r32.Done]) 2 Tryd.isAgg27 Tryd.sizeOf27 rfl rfl rfl) ?_
    refine any_all [19] (by kernel_rfl) rfl (anyo_cons ?_ anyo_nil)
    obtain ⟨r79, hr80, h⟩ := obind_some h
    refine any_t rfl (wg 17 false 109 rfl rfl rfl rfl) rfl (t_callx (vs := [.agg #[.int .i64 r44.1.First, v46, .bool r44.1.Done]]) (cs := []) [(6, 0)] rfl Tryd.call13 rfl (playlist_Next_ok r44.1 v46 hr80) (showsX_view 6 rfl views_ro showsX_nil) rfl (.inl rfl)) ?_
    rintro _ _ ⟨_, ⟨rfl, rfl⟩, rfl⟩
    refine ⟨(ss (ss (ss (ss (ss (ss (ss (ss (ss (ss (sn))))))))))), ?_⟩
    refine any_all [22] (by kernel_rfl) rfl (anyo_cons ?_ anyo_nil)
    obtain ⟨r81, hr82, h⟩ := obind_some h
    refine any_t rfl (wg 17 false 109 rfl rfl rfl rfl) rfl (t_callx (vs := [.agg #[.int .i64 r24.First, v26, .bool r24.Done]]) (cs := []) [(3, 0)] rfl Tryd.call13 rfl (playlist_Next_ok r24 v26 hr82) (showsX_view 3 rfl views_ro showsX_nil) rfl (.inl rfl)) ?_
    rintro _ _ ⟨_, ⟨rfl, rfl⟩, rfl⟩
    refine ⟨(ss (ss (ss (ss (ss (ss (ss (ss (ss (ss (sn))))))))))), ?_⟩
    refine any_all [25] (by kernel_rfl) rfl (anyo_cons ?_ anyo_nil)
    obtain ⟨r83, hr84, h⟩ := obind_some h
    refine any_t rfl (wg 17 false 109 rfl rfl rfl rfl) rfl (t_callx (vs := [.agg #[.int .i64 r32.First, v34, .bool r32.Done]]) (cs := []) [(4, 0)] rfl Tryd.call13 rfl (playlist_Next_ok r32 v34 hr84) (showsX_view 4 rfl views_ro showsX_nil) rfl (.inl rfl)) ?_
    rintro _ _ ⟨_, ⟨rfl, rfl⟩, rfl⟩
    refine ⟨(ss (ss (ss (ss (ss (ss (ss (ss (ss (ss (sn))))))))))), ?_⟩
    refine any_y 26 rfl (by kernel_rfl) (by kernel_rfl) (by kernel_rfl) (ss (ss (ss (ss (ss (ss (ss (ss (ss (ss (sn))))))))))) (wg 17 false 109 rfl rfl rfl rfl) rfl (y_max rfl rfl) ?_
    refine any_y 27 rfl (by kernel_rfl) (by kernel_rfl) (by kernel_rfl) (ss (ss (ss (ss (ss (ss (ss (ss (ss (ss (sn))))))))))) (wg 17 false 109 rfl rfl rfl rfl) rfl (y_neq rfl rfl) ?_
    refine any_y 28 rfl (by kernel_rfl) (by kernel_rfl) (by kernel_rfl) (ss (ss (ss (ss (ss (ss (ss (ss (ss (ss (sn))))))))))) (wn rfl) rfl (y_pick (b := false) rfl rfl) ?_
    obtain rfl := some_eq h
    exact any_weak [(0, l_0v), (4, .bool done_4), (11, boxP b18 0), (15, boxP b47 0), (120, .bool (decide (r79 ≠ (max r81 r83))))] [0, 1, 2, 3, 4, 5, 6, 7, 8, 9] [ro l_0v 20 (l_0.map S_api_Segment.enc), globA, box b18 [.int .i64 r24.First, v26, .bool r24.Done, .int .i64 r32.First, v34, .bool r32.Done, .int .i64 r40.First, v42, .bool r40.Done], ro v26 20 (r24.L.map S_api_Segment.enc), ro v34 20 (r32.L.map S_api_Segment.enc), row v42 20 (r40.L.map S_api_Segment.enc), ro v46 20 (r44.1.L.map S_api_Segment.enc), box b47 [.int .i64 r44.1.First, v46, .bool r44.1.Done], ro v51 20 (r49.1.L.map S_api_Segment.enc), box b52 [.int .i64 r49.1.First, v51, .bool r49.1.Done]] (by kernel_rfl) (qv5 rfl rfl rfl rfl rfl) (by decide) rfl (hL77 (decide (r79 ≠ (max r81 r83))) rfl)
  rintro b73 hj
  obtain rfl : o74 = _ := hj
  replace h := after_go ho75
  clear ho75
  refine any_nil (by kernel_rfl) ?_
  refine goes_code ?_
  refine run_cond b73 rfl (fun hc85 => ?_) (fun hc85 => ?_)
  ·replace h := cond_t h hc85
   refine run_seq ?_
   refine run_region' ?_
   refine oy rfl rfl (y_assign rfl) ?_
   refine ops_nil ?_
   refine goes_code ?_
   refine run_ret ?_
   obtain rfl := some_eq h
   refine fin_slots [10] [.bool false] [] [] Tryd.results3 rfl (by decide) rfl ?_
   exact ⟨rfl, rfl⟩
  ·replace h := cond_f h hc85
   refine run_skip ?_
   refine goes_code ?_
   refine run_seq ?_
   refine run_draw (by kernel_rfl) (by kernel_rfl) ?_
   refine sy rfl rfl (y_fieldAddr_box (sz := 0) Tryd.runUnderlying27 rfl Tryd.sizeOf3 rfl) ?_
   refine sy rfl rfl (y_load_box 7 Tryd.isAgg3 rfl rfl rfl) ?_
   refine sy rfl rfl (y_move rfl) ?_
   obtain ⟨x86, hzx86, hlx86, hxx86, h⟩ := idx_some h
   refine sy rfl rfl (y_indexAddrI (kd := .i64) (i := 0) 0 Tryd.runUnderlying22 Tryd.sizeOf40 rfl rfl rfl reads_ro hzx86 (map_lt hlx86)) ?_
   refine sy rfl rfl (y_fieldAddr_elem (sz := 0) Tryd.runUnderlying40 rfl Tryd.sizeOf3 rfl) ?_
   refine sy rfl rfl (y_load_field (i := (0 : Int).toNat) (j := 0) 0 Tryd.isAgg3 rfl rfl reads_ro (map_get hxx86) rfl) ?_
   refine sy rfl rfl (y_sub rfl rfl) ?_
   refine sy rfl rfl (y_assign rfl) ?_
   refine still_nil ?_
   refine goes_code ?_
   refine run_seq ?_
   refine run_seq ?_
   refine run_weak [(0, l_0v), (4, .bool done_4), (11, boxP b18 0), (15, boxP b47 0), (19, .int .i64 (IntKind.i64.wrap (r44.1.First - x86.Num)))] [0, 1, 2, 3, 4, 5, 6, 7] [ro l_0v 20 (l_0.map S_api_Segment.enc), globA, box b18 [.int .i64 r24.First, v26, .bool r24.Done, .int .i64 r32.First, v34, .bool r32.Done, .int .i64 r40.First, v42, .bool r40.Done], ro v26 20 (r24.L.map S_api_Segment.enc), ro v34 20 (r32.L.map S_api_Segment.enc), row v42 20 (r40.L.map S_api_Segment.enc), ro v46 20 (r44.1.L.map S_api_Segment.enc), box b47 [.int .i64 r44.1.First, v46, .bool r44.1.Done]] (qv5 rfl rfl rfl rfl rfl) (by decide) rfl ?_
   refine run_drawany [ro l_0v 20 (l_0.map S_api_Segment.enc), globA, box b18 [.int .i64 r24.First, v26, .bool r24.Done, .int .i64 r32.First, v34, .bool r32.Done, .int .i64 r40.First, v42, .bool r40.Done], ro v26 20 (r24.L.map S_api_Segment.enc), ro v34 20 (r32.L.map S_api_Segment.enc), row v42 20 (r40.L.map S_api_Segment.enc), ro v46 20 (r44.1.L.map S_api_Segment.enc), box b47 [.int .i64 r44.1.First, v46, .bool r44.1.Done]] (by kernel_rfl) ?_
   refine any_y 0 rfl (by kernel_rfl) (by kernel_rfl) (by kernel_rfl) (ss (ss (ss (ss (ss (ss (ss (ss (sn))))))))) (wn rfl) rfl (y_load_boxagg (c := [.int .i64 r44.1.First, v46, .bool r44.1.Done]) 7 Tryd.isAgg27 Tryd.sizeOf27 rfl rfl rfl) ?_
   refine any_y 1 rfl (by kernel_rfl) (by kernel_rfl) (by kernel_rfl) (ss (ss (ss (ss (ss (ss (ss (ss (sn))))))))) (wn rfl) rfl (y_move rfl) ?_
   refine any_y 2 rfl (by kernel_rfl) (by kernel_rfl) (by kernel_rfl) (ss (ss (ss (ss (ss (ss (ss (ss (sn))))))))) (wn rfl) rfl (y_move rfl) ?_
   refine any_y 3 rfl (by kernel_rfl) (by kernel_rfl) (by kernel_rfl) (ss (ss (ss (ss (ss (ss (ss (ss (sn))))))))) (wn rfl) rfl (y_move rfl) ?_
   refine any_y 4 rfl (by kernel_rfl) (by kernel_rfl) (by kernel_rfl) (ss (ss (ss (ss (ss (ss (ss (ss (sn))))))))) (wn rfl) rfl (y_fieldAddr_box (sz := 0) Tryd.runUnderlying27 rfl Tryd.sizeOf22 rfl) ?_
   refine any_y 5 rfl (by kernel_rfl) (by kernel_rfl) (by kernel_rfl) (ss (ss (ss (ss (ss (ss (ss (ss (sn))))))))) (wn rfl) rfl (y_load_box 7 Tryd.isAgg22 rfl rfl rfl) ?_
   refine any_y 6 rfl (by kernel_rfl) (by kernel_rfl) (by kernel_rfl) (ss (ss (ss (ss (ss (ss (ss (ss (sn))))))))) (wn rfl) rfl ((y_len 6 rfl Tryd.runUnderlying22 rfl rfl reads_ro).to (v_len S_api_Segment.enc _)) ?_
   refine any_y 7 rfl (by kernel_rfl) (by kernel_rfl) (by kernel_rfl) (ss (ss (ss (ss (ss (ss (ss (ss (sn))))))))) (wn rfl) rfl (y_add rfl rfl) ?_
   refine any_y 8 rfl (by kernel_rfl) (by kernel_rfl) (by kernel_rfl) (ss (ss (ss (ss (ss (ss (ss (ss (sn))))))))) (wn rfl) rfl (y_move rfl) ?_
   refine any_all [9] (by kernel_rfl) rfl (anyo_cons ?_ anyo_nil)
   obtain ⟨r87, hr88, h⟩ := obind_some h
   refine any_t rfl (wn rfl) rfl (t_callx (vs := [l_0v, .int .i64 (IntKind.i64.wrap (r44.1.First - x86.Num)), .int .i64 (IntKind.i64.wrap ((IntKind.i64.wrap (r44.1.First - x86.Num)) + (r44.1.L.length : Int))), .bool done_4]) (cs := []) [(0, 0)] rfl Tryd.call9 rfl (ref43_Part_ok l_0 (IntKind.i64.wrap (r44.1.First - x86.Num)) (IntKind.i64.wrap ((IntKind.i64.wrap (r44.1.First - x86.Num)) + (r44.1.L.length : Int))) done_4 l_0v hr88) (showsX_view 0 rfl views_ro showsX_nil) rfl (.inl rfl)) ?_
   rintro _ _ ⟨_, ⟨v89, rfl, rfl⟩, rfl⟩
   refine ⟨(ss (ss (ss (ss (ss (ss (ss (ss (sn))))))))), ?_⟩
   refine any_all [10] (by kernel_rfl) rfl (anyo_cons ?_ anyo_nil)
   obtain ⟨r90, hr91, h⟩ := obind_some h
   refine any_t rfl (wn rfl) rfl (t_callx (vs := [.agg #[.int .i64 r44.1.First, v46, .bool r44.1.Done], .agg #[.int .i64 r87.First, v89, .bool r87.Done]]) (cs := []) [(6, 0), (8, 1)] rfl Tryd.call11 rfl (ref43_Same_ok n r44.1 r87 v46 v89 hr91) (showsX_view 6 rfl views_ro (showsX_look 8 rfl views_row showsX_nil)) rfl (.inr (by rintro _ _ ⟨rfl, rfl⟩ g hg; first | (cases hg; done) | (simp only [List.mem_cons, List.not_mem_nil, or_false] at hg; first | (subst hg; first | exact strict_row | exact strict_box) | (rcases hg with rfl | rfl <;> first | exact strict_row | exact strict_box) | (rcases hg with rfl | rfl | rfl <;> first | exact strict_row | exact strict_box))))) ?_
   rintro _ _ ⟨_, ⟨rfl, rfl⟩, rfl⟩
   refine ⟨(ss (ss (ss (ss (ss (ss (ss (ss (sn))))))))), ?_⟩
   refine any_y 11 rfl (by kernel_rfl) (by kernel_rfl) (by kernel_rfl) (ss (ss (ss (ss (ss (ss (ss (ss (sn))))))))) (wn rfl) rfl (y_not rfl) ?_
   refine any_y 12 rfl (by kernel_rfl) (by kernel_rfl) (by kernel_rfl) (ss (ss (ss (ss (ss (ss (ss (ss (sn))))))))) (wn rfl) rfl (y_move rfl) ?_
   obtain ⟨o93, h, ho94⟩ := bindJ_some h
   refine any_cut #[true, true, true, true, true, true, true, true, true, true, true, true, true, true, true, true, true, true, true, true, true, true, true, true, true, true, true, true, true, true, true, true, true, true, true, true, true, true, true, true, true] 0 Bool (fun σ => [(11, boxP b18 0), (15, boxP b47 0), (168, .bool σ)]) (fun σ => [ro l_0v 20 (l_0.map S_api_Segment.enc), globA, box b18 [.int .i64 r24.First, v26, .bool r24.Done, .int .i64 r32.First, v34, .bool r32.Done, .int .i64 r40.First, v42, .bool r40.Done], ro v26 20 (r24.L.map S_api_Segment.enc), ro v34 20 (r32.L.map S_api_Segment.enc), row v42 20 (r40.L.map S_api_Segment.enc), ro v46 20 (r44.1.L.map S_api_Segment.enc), box b47 [.int .i64 r44.1.First, v46, .bool r44.1.Done], row v89 20 (r87.L.map S_api_Segment.enc)]) (fun σ => o93 = .go σ) (fun hL96 => ?_) ?_
   ·refine any_split 140 (!r90) rfl (fun hg97 => ?_) (fun hg97 => ?_)
    ·replace h := cond_t h hg97
     refine any_no 13 rfl (by kernel_rfl) (by kernel_rfl) (by kernel_rfl) (ss (ss (ss (ss (ss (ss (ss (ss (sn))))))))) 12 false 140 rfl rfl rfl rfl rfl ?_
     refine any_no 14 rfl (by kernel_rfl) (by kernel_rfl) (by kernel_rfl) (ss (ss (ss (ss (ss (ss (ss (ss (sn))))))))) 12 false 140 rfl rfl rfl rfl rfl ?_
     refine any_no 15 rfl (by kernel_rfl) (by kernel_rfl) (by kernel_rfl) (ss (ss (ss (ss (ss (ss (ss (ss (sn))))))))) 12 false 140 rfl rfl rfl rfl rfl ?_
     refine any_no 16 rfl (by kernel_rfl) (by kernel_rfl) (by kernel_rfl) (ss (ss (ss (ss (ss (ss (ss (ss (sn))))))))) 12 false 140 rfl rfl rfl rfl rfl ?_
     refine any_no 17 rfl (by kernel_rfl) (by kernel_rfl) (by kernel_rfl) (ss (ss (ss (ss (ss (ss (ss (ss (sn))))))))) 12 false 140 rfl rfl rfl rfl rfl ?_
     refine any_no 18 rfl (by kernel_rfl) (by kernel_rfl) (by kernel_rfl) (ss (ss (ss (ss (ss (ss (ss (ss (sn))))))))) 12 false 140 rfl rfl rfl rfl rfl ?_
     refine any_no 19 rfl (by kernel_rfl) (by kernel_rfl) (by kernel_rfl) (ss (ss (ss (ss (ss (ss (ss (ss (sn))))))))) 12 false 140 rfl rfl rfl rfl rfl ?_
     refine any_no 20 rfl (by kernel_rfl) (by kernel_rfl) (by kernel_rfl) (ss (ss (ss (ss (ss (ss (ss (ss (sn))))))))) 12 false 140 rfl rfl rfl rfl rfl ?_
     refine any_no 21 rfl (by kernel_rfl) (by kernel_rfl) (by kernel_rfl) (ss (ss (ss (ss (ss (ss (ss (ss (sn))))))))) 12 false 140 rfl rfl rfl rfl rfl ?_
     refine any_no 22 rfl (by kernel_rfl) (by kernel_rfl) (by kernel_rfl) (ss (ss (ss (ss (ss (ss (ss (ss (sn))))))))) 12 false 140 rfl rfl rfl rfl rfl ?_
     refine any_no 23 rfl (by kernel_rfl) (by kernel_rfl) (by kernel_rfl) (ss (ss (ss (ss (ss (ss (ss (ss (sn))))))))) 12 false 140 rfl rfl rfl rfl rfl ?_
     refine any_un 24 rfl (by kernel_rfl) (by kernel_rfl) (by kernel_rfl) (ss (ss (ss (ss (ss (ss (ss (ss (sn))))))))) 23 true 151 rfl rfl rfl rfl rfl ?_
     refine any_un 25 rfl (by kernel_rfl) (by kernel_rfl) (by kernel_rfl) (ss (ss (ss (ss (ss (ss (ss (ss (sn))))))))) 23 true 151 rfl rfl rfl rfl rfl ?_
     refine any_un 27 rfl (by kernel_rfl) (by kernel_rfl) (by kernel_rfl) (ss (ss (ss (ss (ss (ss (ss (ss (sn))))))))) 23 true 151 rfl rfl rfl rfl rfl ?_
     refine any_un 28 rfl (by kernel_rfl) (by kernel_rfl) (by kernel_rfl) (ss (ss (ss (ss (ss (ss (ss (ss (sn))))))))) 23 true 151 rfl rfl rfl rfl rfl ?_
     refine any_un 31 rfl (by kernel_rfl) (by kernel_rfl) (by kernel_rfl) (ss (ss (ss (ss (ss (ss (ss (ss (sn))))))))) 23 true 151 rfl rfl rfl rfl rfl ?_
     refine any_un 32 rfl (by kernel_rfl) (by kernel_rfl) (by kernel_rfl) (ss (ss (ss (ss (ss (ss (ss (ss (sn))))))))) 23 true 151 rfl rfl rfl rfl rfl ?_
     refine any_un 33 rfl (by kernel_rfl) (by kernel_rfl) (by kernel_rfl) (ss (ss (ss (ss (ss (ss (ss (ss (sn))))))))) 23 true 151 rfl rfl rfl rfl rfl ?_
     refine any_un 34 rfl (by kernel_rfl) (by kernel_rfl) (by kernel_rfl) (ss (ss (ss (ss (ss (ss (ss (ss (sn))))))))) 23 true 151 rfl rfl rfl rfl rfl ?_
     refine any_un 35 rfl (by kernel_rfl) (by kernel_rfl) (by kernel_rfl) (ss (ss (ss (ss (ss (ss (ss (ss (sn))))))))) 23 true 151 rfl rfl rfl rfl rfl ?_
     refine any_un 36 rfl (by kernel_rfl) (by kernel_rfl) (by kernel_rfl) (ss (ss (ss (ss (ss (ss (ss (ss (sn))))))))) 23 true 151 rfl rfl rfl rfl rfl ?_
     refine any_un 37 rfl (by kernel_rfl) (by kernel_rfl) (by kernel_rfl) (ss (ss (ss (ss (ss (ss (ss (ss (sn))))))))) 23 true 151 rfl rfl rfl rfl rfl ?_
     refine any_un 26 rfl (by kernel_rfl) (by kernel_rfl) (by kernel_rfl) (ss (ss (ss (ss (ss (ss (ss (ss (sn))))))))) 23 true 151 rfl rfl rfl rfl rfl ?_
     refine any_un 29 rfl (by kernel_rfl) (by kernel_rfl) (by kernel_rfl) (ss (ss (ss (ss (ss (ss (ss (ss (sn))))))))) 23 true 151 rfl rfl rfl rfl rfl ?_
     refine any_un 30 rfl (by kernel_rfl) (by kernel_rfl) (by kernel_rfl) (ss (ss (ss (ss (ss (ss (ss (ss (sn))))))))) 23 true 151 rfl rfl rfl rfl rfl ?_
     refine any_un 38 rfl (by kernel_rfl) (by kernel_rfl) (by kernel_rfl) (ss (ss (ss (ss (ss (ss (ss (ss (sn))))))))) 23 true 151 rfl rfl rfl rfl rfl ?_
     refine any_no 39 rfl (by kernel_rfl) (by kernel_rfl) (by kernel_rfl) (ss (ss (ss (ss (ss (ss (ss (ss (sn))))))))) 12 false 140 rfl rfl rfl rfl rfl ?_
     refine any_y 40 rfl (by kernel_rfl) (by kernel_rfl) (by kernel_rfl) (ss (ss (ss (ss (ss (ss (ss (ss (sn))))))))) (wn rfl) rfl (y_pick (b := true) rfl rfl) ?_
     obtain rfl := some_eq h
     exact any_weak [(11, boxP b18 0), (15, boxP b47 0), (168, .bool true)] [0, 1, 2, 3, 4, 5, 6, 7, 8] [ro l_0v 20 (l_0.map S_api_Segment.enc), globA, box b18 [.int .i64 r24.First, v26, .bool r24.Done, .int .i64 r32.First, v34, .bool r32.Done, .int .i64 r40.First, v42, .bool r40.Done], ro v26 20 (r24.L.map S_api_Segment.enc), ro v34 20 (r32.L.map S_api_Segment.enc), row v42 20 (r40.L.map S_api_Segment.enc), ro v46 20 (r44.1.L.map S_api_Segment.enc), box b47 [.int .i64 r44.1.First, v46, .bool r44.1.Done], row v89 20 (r87.L.map S_api_Segment.enc)] (by kernel_rfl) (qv3 rfl rfl rfl) (by decide) rfl (hL96 true rfl)
    ·replace h := cond_f h hg97
     refine any_y 13 rfl (by kernel_rfl) (by kernel_rfl) (by kernel_rfl) (ss (ss (ss (ss (ss (ss (ss (ss (sn))))))))) (wg 12 false 140 rfl rfl rfl rfl) rfl (y_fieldAddr_box (sz := 0) Tryd.runUnderlying27 rfl Tryd.sizeOf3 rfl) ?_
     refine any_y 14 rfl (by kernel_rfl) (by kernel_rfl) (by kernel_rfl) (ss (ss (ss (ss (ss (ss (ss (ss (sn))))))))) (wg 12 false 140 rfl rfl rfl rfl) rfl (y_load_box 7 Tryd.isAgg3 rfl rfl rfl) ?_
     refine any_y 15 rfl (by kernel_rfl) (by kernel_rfl) (by kernel_rfl) (ss (ss (ss (ss (ss (ss (ss (ss (sn))))))))) (wg 12 false 140 rfl rfl rfl rfl) rfl (y_indexAddr_box (n := 0) Tryd.runUnderlying28 Tryd.sizeOf27 rfl rfl (by decide)) ?_
     refine any_y 16 rfl (by kernel_rfl) (by kernel_rfl) (by kernel_rfl) (ss (ss (ss (ss (ss (ss (ss (ss (sn))))))))) (wg 12 false 140 rfl rfl rfl rfl) rfl (y_fieldAddr_box (sz := 0) Tryd.runUnderlying27 rfl Tryd.sizeOf3 rfl) ?_
     refine any_y 17 rfl (by kernel_rfl) (by kernel_rfl) (by kernel_rfl) (ss (ss (ss (ss (ss (ss (ss (ss (sn))))))))) (wg 12 false 140 rfl rfl rfl rfl) rfl (y_load_box 2 Tryd.isAgg3 rfl rfl rfl) ?_
     refine any_y 18 rfl (by kernel_rfl) (by kernel_rfl) (by kernel_rfl) (ss (ss (ss (ss (ss (ss (ss (ss (sn))))))))) (wg 12 false 140 rfl rfl rfl rfl) rfl (y_indexAddr_box (n := 1) Tryd.runUnderlying28 Tryd.sizeOf27 rfl rfl (by decide)) ?_
     refine any_y 19 rfl (by kernel_rfl) (by kernel_rfl) (by kernel_rfl) (ss (ss (ss (ss (ss (ss (ss (ss (sn))))))))) (wg 12 false 140 rfl rfl rfl rfl) rfl (y_fieldAddr_box (sz := 0) Tryd.runUnderlying27 rfl Tryd.sizeOf3 rfl) ?_
     refine any_y 20 rfl (by kernel_rfl) (by kernel_rfl) (by kernel_rfl) (ss (ss (ss (ss (ss (ss (ss (ss (sn))))))))) (wg 12 false 140 rfl rfl rfl rfl) rfl (y_load_box 2 Tryd.isAgg3 rfl rfl rfl) ?_
     refine any_y 21 rfl (by kernel_rfl) (by kernel_rfl) (by kernel_rfl) (ss (ss (ss (ss (ss (ss (ss (ss (sn))))))))) (wg 12 false 140 rfl rfl rfl rfl) rfl (y_min rfl rfl) ?_
     refine any_y 22 rfl (by kernel_rfl) (by kernel_rfl) (by kernel_rfl) (ss (ss (ss (ss (ss (ss (ss (ss (sn))))))))) (wg 12 false 140 rfl rfl rfl rfl) rfl (y_gtr rfl rfl) ?_
     refine any_y 23 rfl (by kernel_rfl) (by kernel_rfl) (by kernel_rfl) (ss (ss (ss (ss (ss (ss (ss (ss (sn))))))))) (wg 12 false 140 rfl rfl rfl rfl) rfl (y_move rfl) ?_
     obtain ⟨o99, h, ho100⟩ := bindJ_some h
     refine any_cut #[true, true, true, true, true, true, true, true, true, true, true, true, true, true, true, true, true, true, true, true, true, true, true, true, true, true, true, true, true, true, true, true, true, true, true, true, true, true, true, true, false] 1 Bool (fun σ => [(11, boxP b18 0), (15, boxP b47 0), (140, .bool false), (167, .bool σ)]) (fun σ => [ro l_0v 20 (l_0.map S_api_Segment.enc), globA, box b18 [.int .i64 r24.First, v26, .bool r24.Done, .int .i64 r32.First, v34, .bool r32.Done, .int .i64 r40.First, v42, .bool r40.Done], ro v26 20 (r24.L.map S_api_Segment.enc), ro v34 20 (r32.L.map S_api_Segment.enc), row v42 20 (r40.L.map S_api_Segment.enc), ro v46 20 (r44.1.L.map S_api_Segment.enc), box b47 [.int .i64 r44.1.First, v46, .bool r44.1.Done], row v89 20 (r87.L.map S_api_Segment.enc)]) (fun σ => o99 = .go σ) (fun hL102 => ?_) ?_
     ·refine any_split 151 (decide ((min r24.First r32.First) < r44.1.First)) rfl (fun hg103 => ?_) (fun hg103 => ?_)
      ·replace h := cond_t h hg103
       refine any_y 24 rfl (by kernel_rfl) (by kernel_rfl) (by kernel_rfl) (ss (ss (ss (ss (ss (ss (ss (ss (sn))))))))) (wg 23 true 151 rfl rfl rfl rfl) rfl (y_indexAddr_box (n := 0) Tryd.runUnderlying28 Tryd.sizeOf27 rfl rfl (by decide)) ?_
       refine any_y 25 rfl (by kernel_rfl) (by kernel_rfl) (by kernel_rfl) (ss (ss (ss (ss (ss (ss (ss (ss (sn))))))))) (wg 23 true 151 rfl rfl rfl rfl) rfl (y_load_boxagg (c := [.int .i64 r24.First, v26, .bool r24.Done]) 2 Tryd.isAgg27 Tryd.sizeOf27 rfl rfl rfl) ?_
       refine any_y 27 rfl (by kernel_rfl) (by kernel_rfl) (by kernel_rfl) (ss (ss (ss (ss (ss (ss (ss (ss (sn))))))))) (wg 23 true 151 rfl rfl rfl rfl) rfl (y_indexAddr_box (n := 1) Tryd.runUnderlying28 Tryd.sizeOf27 rfl rfl (by decide)) ?_
       refine any_y 28 rfl (by kernel_rfl) (by kernel_rfl) (by kernel_rfl) (ss (ss (ss (ss (ss (ss (ss (ss (sn))))))))) (wg 23 true 151 rfl rfl rfl rfl) rfl (y_load_boxagg (c := [.int .i64 r32.First, v34, .bool r32.Done]) 2 Tryd.isAgg27 Tryd.sizeOf27 rfl rfl rfl) ?_
       refine any_y 31 rfl (by kernel_rfl) (by kernel_rfl) (by kernel_rfl) (ss (ss (ss (ss (ss (ss (ss (ss (sn))))))))) (wg 23 true 151 rfl rfl rfl rfl) rfl (y_indexAddr_box (n := 0) Tryd.runUnderlying28 Tryd.sizeOf27 rfl rfl (by decide)) ?_
       refine any_y 32 rfl (by kernel_rfl) (by kernel_rfl) (by kernel_rfl) (ss (ss (ss (ss (ss (ss (ss (ss (sn))))))))) (wg 23 true 151 rfl rfl rfl rfl) rfl (y_fieldAddr_box (sz := 0) Tryd.runUnderlying27 rfl Tryd.sizeOf3 rfl) ?_
       refine any_y 33 rfl (by kernel_rfl) (by kernel_rfl) (by kernel_rfl) (ss (ss (ss (ss (ss (ss (ss (ss (sn))))))))) (wg 23 true 151 rfl rfl rfl rfl) rfl (y_load_box 2 Tryd.isAgg3 rfl rfl rfl) ?_
       refine any_y 34 rfl (by kernel_rfl) (by kernel_rfl) (by kernel_rfl) (ss (ss (ss (ss (ss (ss (ss (ss (sn))))))))) (wg 23 true 151 rfl rfl rfl rfl) rfl (y_indexAddr_box (n := 1) Tryd.runUnderlying28 Tryd.sizeOf27 rfl rfl (by decide)) ?_
       refine any_y 35 rfl (by kernel_rfl) (by kernel_rfl) (by kernel_rfl) (ss (ss (ss (ss (ss (ss (ss (ss (sn))))))))) (wg 23 true 151 rfl rfl rfl rfl) rfl (y_fieldAddr_box (sz := 0) Tryd.runUnderlying27 rfl Tryd.sizeOf3 rfl) ?_
       refine any_y 36 rfl (by kernel_rfl) (by kernel_rfl) (by kernel_rfl) (ss (ss (ss (ss (ss (ss (ss (ss (sn))))))))) (wg 23 true 151 rfl rfl rfl rfl) rfl (y_load_box 2 Tryd.isAgg3 rfl rfl rfl) ?_
       refine any_y 37 rfl (by kernel_rfl) (by kernel_rfl) (by kernel_rfl) (ss (ss (ss (ss (ss (ss (ss (ss (sn))))))))) (wg 23 true 151 rfl rfl rfl rfl) rfl (y_max rfl rfl) ?_
       refine any_all [26] (by kernel_rfl) rfl (anyo_cons ?_ anyo_nil)
       obtain ⟨r104, hr105, h⟩ := obind_some h
       refine any_t rfl (wg 23 true 151 rfl rfl rfl rfl) rfl (t_callx (vs := [.agg #[.int .i64 r24.First, v26, .bool r24.Done]]) (cs := []) [(3, 0)] rfl Tryd.call13 rfl (playlist_Next_ok r24 v26 hr105) (showsX_view 3 rfl views_ro showsX_nil) rfl (.inl rfl)) ?_
       rintro _ _ ⟨_, ⟨rfl, rfl⟩, rfl⟩
       refine ⟨(ss (ss (ss (ss (ss (ss (ss (ss (sn))))))))), ?_⟩
       refine any_all [29] (by kernel_rfl) rfl (anyo_cons ?_ anyo_nil)
       obtain ⟨r106, hr107, h⟩ := obind_some h
       refine any_t rfl (wg 23 true 151 rfl rfl rfl rfl) rfl (t_callx (vs := [.agg #[.int .i64 r32.First, v34, .bool r32.Done]]) (cs := []) [(4, 0)] rfl Tryd.call13 rfl (playlist_Next_ok r32 v34 hr107) (showsX_view 4 rfl views_ro showsX_nil) rfl (.inl rfl)) ?_
       rintro _ _ ⟨_, ⟨rfl, rfl⟩, rfl⟩
       refine ⟨(ss (ss (ss (ss (ss (ss (ss (ss (sn))))))))), ?_⟩
       refine any_y 30 rfl (by kernel_rfl) (by kernel_rfl) (by kernel_rfl) (ss (ss (ss (ss (ss (ss (ss (ss (sn))))))))) (wg 23 true 151 rfl rfl rfl rfl) rfl (y_min rfl rfl) ?_
       refine any_y 38 rfl (by kernel_rfl) (by kernel_rfl) (by kernel_rfl) (ss (ss (ss (ss (ss (ss (ss (ss (sn))))))))) (wg 23 true 151 rfl rfl rfl rfl) rfl (y_geq rfl rfl) ?_
       refine any_y 39 rfl (by kernel_rfl) (by kernel_rfl) (by kernel_rfl) (ss (ss (ss (ss (ss (ss (ss (ss (sn))))))))) (wg 12 false 140 rfl rfl rfl rfl) rfl (y_pick (b := true) rfl rfl) ?_
       obtain rfl := some_eq h
       exact any_weak [(11, boxP b18 0), (15, boxP b47 0), (140, .bool false), (167, .bool (decide ((max r24.First r32.First) ≤ (min r104 r106))))] [0, 1, 2, 3, 4, 5, 6, 7, 8] [ro l_0v 20 (l_0.map S_api_Segment.enc), globA, box b18 [.int .i64 r24.First, v26, .bool r24.Done, .int .i64 r32.First, v34, .bool r32.Done, .int .i64 r40.First, v42, .bool r40.Done], ro v26 20 (r24.L.map S_api_Segment.enc), ro v34 20 (r32.L.map S_api_Segment.enc), row v42 20 (r40.L.map S_api_Segment.enc), ro v46 20 (r44.1.L.map S_api_Segment.enc), box b47 [.int .i64 r44.1.First, v46, .bool r44.1.Done], row v89 20 (r87.L.map S_api_Segment.enc)] (by kernel_rfl) (qv4 rfl rfl rfl rfl) (by decide) rfl (hL102 (decide ((max r24.First r32.First) ≤ (min r104 r106))) rfl)
      ·replace h := cond_f h hg103
       refine any_no 24 rfl (by kernel_rfl) (by kernel_rfl) (by kernel_rfl) (ss (ss (ss (ss (ss (ss (ss (ss (sn))))))))) 23 true 151 rfl rfl rfl rfl rfl ?_
       refine any_no 25 rfl (by kernel_rfl) (by kernel_rfl) (by kernel_rfl) (ss (ss (ss (ss (ss (ss (ss (ss (sn))))))))) 23 true 151 rfl rfl rfl rfl rfl ?_
       refine any_no 27 rfl (by kernel_rfl) (by kernel_rfl) (by kernel_rfl) (ss (ss (ss (ss (ss (ss (ss (ss (sn))))))))) 23 true 151 rfl rfl rfl rfl rfl ?_
       refine any_no 28 rfl (by kernel_rfl) (by kernel_rfl) (by kernel_rfl) (ss (ss (ss (ss (ss (ss (ss (ss (sn))))))))) 23 true 151 rfl rfl rfl rfl rfl ?_
       refine any_no 31 rfl (by kernel_rfl) (by kernel_rfl) (by kernel_rfl) (ss (ss (ss (ss (ss (ss (ss (ss (sn))))))))) 23 true 151 rfl rfl rfl rfl rfl ?_
       refine any_no 32 rfl (by kernel_rfl) (by kernel_rfl) (by kernel_rfl) (ss (ss (ss (ss (ss (ss (ss (ss (sn))))))))) 23 true 151 rfl rfl rfl rfl rfl ?_
       refine any_no 33 rfl (by kernel_rfl) (by kernel_rfl) (by kernel_rfl) (ss (ss (ss (ss (ss (ss (ss (ss (sn))))))))) 23 true 151 rfl rfl rfl rfl rfl ?_
       refine any_no 34 rfl (by kernel_rfl) (by kernel_rfl) (by kernel_rfl) (ss (ss (ss (ss (ss (ss (ss (ss (sn))))))))) 23 true 151 rfl rfl rfl rfl rfl ?_
       refine any_no 35 rfl (by kernel_rfl) (by kernel_rfl) (by kernel_rfl) (ss (ss (ss (ss (ss (ss (ss (ss (sn))))))))) 23 true 151 rfl rfl rfl rfl rfl ?_
       refine any_no 36 rfl (by kernel_rfl) (by kernel_rfl) (by kernel_rfl) (ss (ss (ss (ss (ss (ss (ss (ss (sn))))))))) 23 true 151 rfl rfl rfl rfl rfl ?_
       refine any_no 37 rfl (by kernel_rfl) (by kernel_rfl) (by kernel_rfl) (ss (ss (ss (ss (ss (ss (ss (ss (sn))))))))) 23 true 151 rfl rfl rfl rfl rfl ?_
       refine any_no 26 rfl (by kernel_rfl) (by kernel_rfl) (by kernel_rfl) (ss (ss (ss (ss (ss (ss (ss (ss (sn))))))))) 23 true 151 rfl rfl rfl rfl rfl ?_
       refine any_no 29 rfl (by kernel_rfl) (by kernel_rfl) (by kernel_rfl) (ss (ss (ss (ss (ss (ss (ss (ss (sn))))))))) 23 true 151 rfl rfl rfl rfl rfl ?_
       refine any_no 30 rfl (by kernel_rfl) (by kernel_rfl) (by kernel_rfl) (ss (ss (ss (ss (ss (ss (ss (ss (sn))))))))) 23 true 151 rfl rfl rfl rfl rfl ?_
       refine any_no 38 rfl (by kernel_rfl) (by kernel_rfl) (by kernel_rfl) (ss (ss (ss (ss (ss (ss (ss (ss (sn))))))))) 23 true 151 rfl rfl rfl rfl rfl ?_
       refine any_y 39 rfl (by kernel_rfl) (by kernel_rfl) (by kernel_rfl) (ss (ss (ss (ss (ss (ss (ss (ss (sn))))))))) (wg 12 false 140 rfl rfl rfl rfl) rfl (y_pick (b := false) rfl rfl) ?_
       obtain rfl := some_eq h
       exact any_weak [(11, boxP b18 0), (15, boxP b47 0), (140, .bool false), (167, .bool false)] [0, 1, 2, 3, 4, 5, 6, 7, 8] [ro l_0v 20 (l_0.map S_api_Segment.enc), globA, box b18 [.int .i64 r24.First, v26, .bool r24.Done, .int .i64 r32.First, v34, .bool r32.Done, .int .i64 r40.First, v42, .bool r40.Done], ro v26 20 (r24.L.map S_api_Segment.enc), ro v34 20 (r32.L.map S_api_Segment.enc), row v42 20 (r40.L.map S_api_Segment.enc), ro v46 20 (r44.1.L.map S_api_Segment.enc), box b47 [.int .i64 r44.1.First, v46, .bool r44.1.Done], row v89 20 (r87.L.map S_api_Segment.enc)] (by kernel_rfl) (qv4 rfl rfl rfl rfl) (by decide) rfl (hL102 false rfl)
     rintro b98 hj
     obtain rfl : o99 = _ := hj
     replace h := after_go ho100
     clear ho100
     refine any_y 40 rfl (by kernel_rfl) (by kernel_rfl) (by kernel_rfl) (ss (ss (ss (ss (ss (ss (ss (ss (sn))))))))) (wn rfl) rfl (y_pick (b := false) rfl rfl) ?_
     obtain rfl := some_eq h
     exact any_weak [(11, boxP b18 0), (15, boxP b47 0), (168, .bool b98)] [0, 1, 2, 3, 4, 5, 6, 7, 8] [ro l_0v 20 (l_0.map S_api_Segment.enc), globA, box b18 [.int .i64 r24.First, v26, .bool r24.Done, .int .i64 r32.First, v34, .bool r32.Done, .int .i64 r40.First, v42, .bool r40.Done], ro v26 20 (r24.L.map S_api_Segment.enc), ro v34 20 (r32.L.map S_api_Segment.enc), row v42 20 (r40.L.map S_api_Segment.enc), ro v46 20 (r44.1.L.map S_api_Segment.enc), box b47 [.int .i64 r44.1.First, v46, .bool r44.1.Done], row v89 20 (r87.L.map S_api_Segment.enc)] (by kernel_rfl) (qv3 rfl rfl rfl) (by decide) rfl (hL96 b98 rfl)
   rintro b92 hj
   obtain rfl : o93 = _ := hj
   replace h := after_go ho94
   clear ho94
   refine any_nil (by kernel_rfl) ?_
   refine goes_code ?_
   refine run_cond b92 rfl (fun hc108 => ?_) (fun hc108 => ?_)
   ·replace h := cond_t h hc108
    refine run_seq ?_
    refine run_region' ?_
    refine oy rfl rfl (y_assign rfl) ?_
    refine ops_nil ?_
    refine goes_code ?_
    refine run_ret ?_
    obtain rfl := some_eq h
    refine fin_slots [10] [.bool false] [] [] Tryd.results3 rfl (by decide) rfl ?_
    exact ⟨rfl, rfl⟩
   ·replace h := cond_f h hc108
    refine run_skip ?_
    refine goes_code ?_
    refine run_seq ?_
    refine run_seq ?_
    refine run_region' ?_
    refine oy rfl rfl (y_move rfl) ?_
    refine ops_nil ?_
    refine goes_code ?_
    refine run_block ?_
    refine run_times 60 ?_
    refine run_seq ?_
    refine run_region' ?_
    refine oy rfl rfl (y_lss rfl rfl) ?_
    refine ops_nil ?_
    refine goes_code ?_
    refine run_seq ?_
    refine run_cond_t rfl ?_
    refine run_skip ?_
    refine goes_code ?_
    refine run_seq ?_
    refine run_block ?_
    refine run_seq ?_
    refine run_region' ?_
    refine oy rfl rfl (y_move rfl) ?_
    refine oy rfl rfl (y_assign rfl) ?_
    refine ops_nil ?_
    refine goes_code ?_
    refine run_seq ?_
    refine run_region' ?_
    refine oy rfl rfl (y_move rfl) ?_
    refine ops_nil ?_
    refine goes_code ?_
    refine run_block ?_
    refine run_times 60 ?_
    refine run_seq ?_
    refine run_region' ?_
    refine oy rfl rfl (y_lss rfl rfl) ?_
    refine ops_nil ?_
    refine goes_code ?_
    refine run_seq ?_
    refine run_cond_t rfl ?_
    refine run_skip ?_
    refine goes_code ?_
    refine run_seq ?_
    refine run_block ?_
    refine run_seq ?_
    refine run_region' ?_
    refine oy rfl rfl (y_move rfl) ?_
    refine oy rfl rfl (y_assign rfl) ?_
    refine ops_nil ?_
    refine goes_code ?_
    refine run_seq ?_
    refine run_weak [(11, boxP b18 0), (15, boxP b47 0), (169, .int .i64 0), (20, .int .i64 0), (172, .int .i64 0), (21, .int .i64 0)] [1, 2, 3, 4, 5, 6, 7] [globA, box b18 [.int .i64 r24.First, v26, .bool r24.Done, .int .i64 r32.First, v34, .bool r32.Done, .int .i64 r40.First, v42, .bool r40.Done], ro v26 20 (r24.L.map S_api_Segment.enc), ro v34 20 (r32.L.map S_api_Segment.enc), row v42 20 (r40.L.map S_api_Segment.enc), ro v46 20 (r44.1.L.map S_api_Segment.enc), box b47 [.int .i64 r44.1.First, v46, .bool r44.1.Done]] (qv6 rfl rfl rfl rfl rfl rfl) (by decide) rfl ?_
    refine run_drawany [globA, box b18 [.int .i64 r24.First, v26, .bool r24.Done, .int .i64 r32.First, v34, .bool r32.Done, .int .i64 r40.First, v42, .bool r40.Done], ro v26 20 (r24.L.map S_api_Segment.enc), ro v34 20 (r32.L.map S_api_Segment.enc), row v42 20 (r40.L.map S_api_Segment.enc), ro v46 20 (r44.1.L.map S_api_Segment.enc), box b47 [.int .i64 r44.1.First, v46, .bool r44.1.Done]] (by kernel_rfl) ?_
    refine any_y 0 rfl (by kernel_rfl) (by kernel_rfl) (by kernel_rfl) (ss (ss (ss (ss (ss (ss (ss (sn)))))))) (wn rfl) rfl (y_move rfl) ?_
    refine any_y 1 rfl (by kernel_rfl) (by kernel_rfl) (by kernel_rfl) (ss (ss (ss (ss (ss (ss (ss (sn)))))))) (wn rfl) rfl (y_indexAddr_box (n := 0) Tryd.runUnderlying28 Tryd.sizeOf27 rfl rfl (by decide)) ?_
    refine any_y 2 rfl (by kernel_rfl) (by kernel_rfl) (by kernel_rfl) (ss (ss (ss (ss (ss (ss (ss (sn)))))))) (wn rfl) rfl (y_load_boxagg (c := [.int .i64 r24.First, v26, .bool r24.Done]) 1 Tryd.isAgg27 Tryd.sizeOf27 rfl rfl rfl) ?_
    refine any_y 4 rfl (by kernel_rfl) (by kernel_rfl) (by kernel_rfl) (ss (ss (ss (ss (ss (ss (ss (sn)))))))) (wn rfl) rfl (y_move rfl) ?_
    refine any_y 5 rfl (by kernel_rfl) (by kernel_rfl) (by kernel_rfl) (ss (ss (ss (ss (ss (ss (ss (sn)))))))) (wn rfl) rfl (y_indexAddr_box (n := 0) Tryd.runUnderlying28 Tryd.sizeOf27 rfl rfl (by decide)) ?_
    refine any_y 6 rfl (by kernel_rfl) (by kernel_rfl) (by kernel_rfl) (ss (ss (ss (ss (ss (ss (ss (sn)))))))) (wn rfl) rfl (y_fieldAddr_box (sz := 0) Tryd.runUnderlying27 rfl Tryd.sizeOf3 rfl) ?_
    refine any_y 7 rfl (by kernel_rfl) (by kernel_rfl) (by kernel_rfl) (ss (ss (ss (ss (ss (ss (ss (sn)))))))) (wn rfl) rfl (y_load_box 1 Tryd.isAgg3 rfl rfl rfl) ?_
    refine any_all [3] (by kernel_rfl) rfl (anyo_cons ?_ anyo_nil)
    obtain ⟨r109, hr110, h⟩ := obind_some h
    refine any_t rfl (wn rfl) rfl (t_callx (vs := [.agg #[.int .i64 r24.First, v26, .bool r24.Done]]) (cs := []) [(2, 0)] rfl Tryd.call13 rfl (playlist_Next_ok r24 v26 hr110) (showsX_view 2 rfl views_ro showsX_nil) rfl (.inl rfl)) ?_
    rintro _ _ ⟨_, ⟨rfl, rfl⟩, rfl⟩
    refine ⟨(ss (ss (ss (ss (ss (ss (ss (sn)))))))), ?_⟩
    refine any_y 8 rfl (by kernel_rfl) (by kernel_rfl) (by kernel_rfl) (ss (ss (ss (ss (ss (ss (ss (sn)))))))) (wn rfl) rfl (y_lss rfl rfl) ?_
    refine any_nil (by kernel_rfl) ?_
    refine goes_code ?_
    refine run_cond (decide (r109 < r24.First)) rfl (fun hc111 => ?_) (fun hc111 => ?_)
    ·replace h := cond_t h hc111
     refine run_seq ?_
     refine run_weak [] [0] [globA] vnil (by decide) rfl ?_
     refine run_region' ?_
     obtain ⟨r112, hr113, h⟩ := obind_some h
     refine ot rfl rfl (t_callx (vs := []) (cs := []) [(0, 0)] rfl Tryd.call8 rfl (law43_sanity_ok n   hr113) (showsX_view 0 rfl views_glob showsX_nil) rfl (.inl rfl)) ?_
     rintro _ _ ⟨_, ⟨rfl, rfl⟩, rfl⟩
     refine oy rfl rfl (y_assign rfl) ?_
     refine ops_nil ?_
     refine goes_code ?_
     refine run_ret ?_
     obtain rfl := some_eq h
     refine fin_slots [10] [.bool r112] [] [] Tryd.results3 rfl (by decide) rfl ?_
     exact ⟨rfl, rfl⟩
    ·replace h := cond_f h hc111
     refine run_skip ?_
     refine goes_blk ?_
     refine goes_code ?_
     refine run_weak [(11, boxP b18 0), (15, boxP b47 0), (169, .int .i64 0), (20, .int .i64 0), (172, .int .i64 0)] [0, 1, 2, 3, 4, 5, 6] [globA, box b18 [.int .i64 r24.First, v26, .bool r24.Done, .int .i64 r32.First, v34, .bool r32.Done, .int .i64 r40.First, v42, .bool r40.Done], ro v26 20 (r24.L.map S_api_Segment.enc), ro v34 20 (r32.L.map S_api_Segment.enc), row v42 20 (r40.L.map S_api_Segment.enc), ro v46 20 (r44.1.L.map S_api_Segment.enc), box b47 [.int .i64 r44.1.First, v46, .bool r44.1.Done]] (qv5 rfl rfl rfl rfl rfl) (by decide) rfl ?_
     refine run_region' ?_
     refine oy rfl rfl (y_add rfl rfl) ?_
     refine oy rfl rfl (y_move rfl) ?_
     refine ops_nil ?_
     refine goes_times ?_
     refine run_seq ?_
     refine run_region' ?_
     refine oy rfl rfl (y_lss rfl rfl) ?_
     refine ops_nil ?_
     refine goes_code ?_
     refine run_seq ?_
     refine run_cond_t rfl ?_
     refine run_skip ?_
     refine goes_code ?_
     refine run_seq ?_
     refine run_block ?_
     refine run_seq ?_
     refine run_region' ?_
     refine oy rfl rfl (y_move rfl) ?_
     refine oy rfl rfl (y_assign rfl) ?_
     refine ops_nil ?_
     refine goes_code ?_
     refine run_seq ?_
     refine run_drawany [globA, box b18 [.int .i64 r24.First, v26, .bool r24.Done, .int .i64 r32.First, v34, .bool r32.Done, .int .i64 r40.First, v42, .bool r40.Done], ro v26 20 (r24.L.map S_api_Segment.enc), ro v34 20 (r32.L.map S_api_Segment.enc), row v42 20 (r40.L.map S_api_Segment.enc), ro v46 20 (r44.1.L.map S_api_Segment.enc), box b47 [.int .i64 r44.1.First, v46, .bool r44.1.Done]] (by kernel_rfl) ?_
     refine any_y 0 rfl (by kernel_rfl) (by kernel_rfl) (by kernel_rfl) (ss (ss (ss (ss (ss (ss (ss (sn)))))))) (wn rfl) rfl (y_move rfl) ?_
     refine any_y 1 rfl (by kernel_rfl) (by kernel_rfl) (by kernel_rfl) (ss (ss (ss (ss (ss (ss (ss (sn)))))))) (wn rfl) rfl (y_indexAddr_box (n := 0) Tryd.runUnderlying28 Tryd.sizeOf27 rfl rfl (by decide)) ?_
     refine any_y 2 rfl (by kernel_rfl) (by kernel_rfl) (by kernel_rfl) (ss (ss (ss (ss (ss (ss (ss (sn)))))))) (wn rfl) rfl (y_load_boxagg (c := [.int .i64 r24.First, v26, .bool r24.Done]) 1 Tryd.isAgg27 Tryd.sizeOf27 rfl rfl rfl) ?_
     refine any_y 4 rfl (by kernel_rfl) (by kernel_rfl) (by kernel_rfl) (ss (ss (ss (ss (ss (ss (ss (sn)))))))) (wn rfl) rfl (y_move rfl) ?_
     refine any_y 5 rfl (by kernel_rfl) (by kernel_rfl) (by kernel_rfl) (ss (ss (ss (ss (ss (ss (ss (sn)))))))) (wn rfl) rfl (y_indexAddr_box (n := 1) Tryd.runUnderlying28 Tryd.sizeOf27 rfl rfl (by decide)) ?_
     refine any_y 6 rfl (by kernel_rfl) (by kernel_rfl) (by kernel_rfl) (ss (ss (ss (ss (ss (ss (ss (sn)))))))) (wn rfl) rfl (y_fieldAddr_box (sz := 0) Tryd.runUnderlying27 rfl Tryd.sizeOf3 rfl) ?_
     refine any_y 7 rfl (by kernel_rfl) (by kernel_rfl) (by kernel_rfl) (ss (ss (ss (ss (ss (ss (ss (sn)))))))) (wn rfl) rfl (y_load_box 1 Tryd.isAgg3 rfl rfl rfl) ?_
     refine any_all [3] (by kernel_rfl) rfl (anyo_cons ?_ anyo_nil)
     obtain ⟨r114, hr115, h⟩ := obind_some h
     refine any_t rfl (wn rfl) rfl (t_callx (vs := [.agg #[.int .i64 r24.First, v26, .bool r24.Done]]) (cs := []) [(2, 0)] rfl Tryd.call13 rfl (playlist_Next_ok r24 v26 hr115) (showsX_view 2 rfl views_ro showsX_nil) rfl (.inl rfl)) ?_
     rintro _ _ ⟨_, ⟨rfl, rfl⟩, rfl⟩
     refine ⟨(ss (ss (ss (ss (ss (ss (ss (sn)))))))), ?_⟩
     refine any_y 8 rfl (by kernel_rfl) (by kernel_rfl) (by kernel_rfl) (ss (ss (ss (ss (ss (ss (ss (sn)))))))) (wn rfl) rfl (y_lss rfl rfl) ?_
     refine any_nil (by kernel_rfl) ?_
     refine goes_code ?_
     refine run_cond (decide (r114 < r32.First)) rfl (fun hc116 => ?_) (fun hc116 => ?_)
     ·replace h := cond_t h hc116
      refine run_seq ?_
      refine run_weak [] [0] [globA] vnil (by decide) rfl ?_
      refine run_region' ?_
      obtain ⟨r117, hr118, h⟩ := obind_some h
      refine ot rfl rfl (t_callx (vs := []) (cs := []) [(0, 0)] rfl Tryd.call8 rfl (law43_sanity_ok n   hr118) (showsX_view 0 rfl views_glob showsX_nil) rfl (.inl rfl)) ?_
      rintro _ _ ⟨_, ⟨rfl, rfl⟩, rfl⟩
      refine oy rfl rfl (y_assign rfl) ?_
      refine ops_nil ?_
      refine goes_code ?_
      refine run_ret ?_
      obtain rfl := some_eq h
      refine fin_slots [10] [.bool r117] [] [] Tryd.results3 rfl (by decide) rfl ?_
      exact ⟨rfl, rfl⟩
     ·replace h := cond_f h hc116
      refine run_skip ?_
      refine goes_blk ?_
      refine goes_code ?_
      refine run_weak [(11, boxP b18 0), (15, boxP b47 0), (169, .int .i64 0), (20, .int .i64 0), (172, .int .i64 1)] [0, 1, 2, 3, 4, 5, 6] [globA, box b18 [.int .i64 r24.First, v26, .bool r24.Done, .int .i64 r32.First, v34, .bool r32.Done, .int .i64 r40.First, v42, .bool r40.Done], ro v26 20 (r24.L.map S_api_Segment.enc), ro v34 20 (r32.L.map S_api_Segment.enc), row v42 20 (r40.L.map S_api_Segment.enc), ro v46 20 (r44.1.L.map S_api_Segment.enc), box b47 [.int .i64 r44.1.First, v46, .bool r44.1.Done]] (qv5 rfl rfl rfl rfl rfl) (by decide) rfl ?_
      refine run_region' ?_
      refine oy rfl rfl (y_add rfl rfl) ?_
      refine oy rfl rfl (y_move rfl) ?_
      refine ops_nil ?_
      refine goes_times ?_
      refine run_seq ?_
      refine run_region' ?_
      refine oy rfl rfl (y_lss rfl rfl) ?_
      refine ops_nil ?_
      refine goes_code ?_
      refine run_seq ?_
      refine run_cond_t rfl ?_
      refine run_skip ?_
      refine goes_code ?_
      refine run_seq ?_
      refine run_block ?_
      refine run_seq ?_
      refine run_region' ?_
      refine oy rfl rfl (y_move rfl) ?_
      refine oy rfl rfl (y_assign rfl) ?_
      refine ops_nil ?_
      refine goes_code ?_
      refine run_seq ?_
      refine run_drawany [globA, box b18 [.int .i64 r24.First, v26, .bool r24.Done, .int .i64 r32.First, v34, .bool r32.Done, .int .i64 r40.First, v42, .bool r40.Done], ro v26 20 (r24.L.map S_api_Segment.enc), ro v34 20 (r32.L.map S_api_Segment.enc), row v42 20 (r40.L.map S_api_Segment.enc), ro v46 20 (r44.1.L.map S_api_Segment.enc), box b47 [.int .i64 r44.1.First, v46, .bool r44.1.Done]] (by kernel_rfl) ?_
      refine any_y 0 rfl (by kernel_rfl) (by kernel_rfl) (by kernel_rfl) (ss (ss (ss (ss (ss (ss (ss (sn)))))))) (wn rfl) rfl (y_move rfl) ?_
      refine any_y 1 rfl (by kernel_rfl) (by kernel_rfl) (by kernel_rfl) (ss (ss (ss (ss (ss (ss (ss (sn)))))))) (wn rfl) rfl (y_indexAddr_box (n := 0) Tryd.runUnderlying28 Tryd.sizeOf27 rfl rfl (by decide)) ?_
      refine any_y 2 rfl (by kernel_rfl) (by kernel_rfl) (by kernel_rfl) (ss (ss (ss (ss (ss (ss (ss (sn)))))))) (wn rfl) rfl (y_load_boxagg (c := [.int .i64 r24.First, v26, .bool r24.Done]) 1 Tryd.isAgg27 Tryd.sizeOf27 rfl rfl rfl) ?_
      refine any_y 4 rfl (by kernel_rfl) (by kernel_rfl) (by kernel_rfl) (ss (ss (ss (ss (ss (ss (ss (sn)))))))) (wn rfl) rfl (y_move rfl) ?_
      refine any_y 5 rfl (by kernel_rfl) (by kernel_rfl) (by kernel_rfl) (ss (ss (ss (ss (ss (ss (ss (sn)))))))) (wn rfl) rfl (y_indexAddr_box (n := 2) Tryd.runUnderlying28 Tryd.sizeOf27 rfl rfl (by decide)) ?_
      refine any_y 6 rfl (by kernel_rfl) (by kernel_rfl) (by kernel_rfl) (ss (ss (ss (ss (ss (ss (ss (sn)))))))) (wn rfl) rfl (y_fieldAddr_box (sz := 0) Tryd.runUnderlying27 rfl Tryd.sizeOf3 rfl) ?_
      refine any_y 7 rfl (by kernel_rfl) (by kernel_rfl) (by kernel_rfl) (ss (ss (ss (ss (ss (ss (ss (sn)))))))) (wn rfl) rfl (y_load_box 1 Tryd.isAgg3 rfl rfl rfl) ?_
      refine any_all [3] (by kernel_rfl) rfl (anyo_cons ?_ anyo_nil)
      obtain ⟨r119, hr120, h⟩ := obind_some h
      refine any_t rfl (wn rfl) rfl (t_callx (vs := [.agg #[.int .i64 r24.First, v26, .bool r24.Done]]) (cs := []) [(2, 0)] rfl Tryd.call13 rfl (playlist_Next_ok r24 v26 hr120) (showsX_view 2 rfl views_ro showsX_nil) rfl (.inl rfl)) ?_
      rintro _ _ ⟨_, ⟨rfl, rfl⟩, rfl⟩
      refine ⟨(ss (ss (ss (ss (ss (ss (ss (sn)))))))), ?_⟩
      refine any_y 8 rfl (by kernel_rfl) (by kernel_rfl) (by kernel_rfl) (ss (ss (ss (ss (ss (ss (ss (sn)))))))) (wn rfl) rfl (y_lss rfl rfl) ?_
      refine any_nil (by kernel_rfl) ?_
      refine goes_code ?_
      refine run_cond (decide (r119 < r40.First)) rfl (fun hc121 => ?_) (fun hc121 => ?_)
      ·replace h := cond_t h hc121
       refine run_seq ?_
       refine run_weak [] [0] [globA] vnil (by decide) rfl ?_
       refine run_region' ?_
       obtain ⟨r122, hr123, h⟩ := obind_some h
       refine ot rfl rfl (t_callx (vs := []) (cs := []) [(0, 0)] rfl Tryd.call8 rfl (law43_sanity_ok n   hr123) (showsX_view 0 rfl views_glob showsX_nil) rfl (.inl rfl)) ?_
       rintro _ _ ⟨_, ⟨rfl, rfl⟩, rfl⟩
       refine oy rfl rfl (y_assign rfl) ?_
       refine ops_nil ?_
       refine goes_code ?_
       refine run_ret ?_
       obtain rfl := some_eq h
       refine fin_slots [10] [.bool r122] [] [] Tryd.results3 rfl (by decide) rfl ?_
       exact ⟨rfl, rfl⟩
      ·replace h := cond_f h hc121
       refine run_skip ?_
       refine goes_blk ?_
       refine goes_code ?_
       refine run_weak [(11, boxP b18 0), (15, boxP b47 0), (169, .int .i64 0), (20, .int .i64 0), (172, .int .i64 2)] [0, 1, 2, 3, 4, 5, 6] [globA, box b18 [.int .i64 r24.First, v26, .bool r24.Done, .int .i64 r32.First, v34, .bool r32.Done, .int .i64 r40.First, v42, .bool r40.Done], ro v26 20 (r24.L.map S_api_Segment.enc), ro v34 20 (r32.L.map S_api_Segment.enc), row v42 20 (r40.L.map S_api_Segment.enc), ro v46 20 (r44.1.L.map S_api_Segment.enc), box b47 [.int .i64 r44.1.First, v46, .bool r44.1.Done]] (qv5 rfl rfl rfl rfl rfl) (by decide) rfl ?_
       refine run_region' ?_
       refine oy rfl rfl (y_add rfl rfl) ?_
       refine oy rfl rfl (y_move rfl) ?_
       refine ops_nil ?_
       refine goes_times ?_
       refine run_seq ?_
       refine run_region' ?_
       refine oy rfl rfl (y_lss rfl rfl) ?_
       refine ops_nil ?_
       refine goes_code ?_
       refine run_seq ?_
       refine run_cond_f rfl ?_
       refine run_exit _ rfl ?_
       refine goes_blk ?_
       refine goes_code ?_
       refine run_region' ?_
       refine oy rfl rfl (y_add rfl rfl) ?_
       refine oy rfl rfl (y_move rfl) ?_
       refine ops_nil ?_
       refine goes_times ?_
       refine run_seq ?_
       refine run_region' ?_
       refine oy rfl rfl (y_lss rfl rfl) ?_
       refine ops_nil ?_
       refine goes_code ?_
       refine run_seq ?_
       refine run_cond_t rfl ?_
       refine run_skip ?_
       refine goes_code ?_
       refine run_seq ?_
       refine run_block ?_
       refine run_seq ?_
       refine run_region' ?_
       refine oy rfl rfl (y_move rfl) ?_
       refine oy rfl rfl (y_assign rfl) ?_
       refine ops_nil ?_
       refine goes_code ?_
       refine run_seq ?_
       refine run_weak [(11, boxP b18 0), (15, boxP b47 0), (169, .int .i64 1), (20, .int .i64 1)] [0, 1, 2, 3, 4, 5, 6] [globA, box b18 [.int .i64 r24.First, v26, .bool r24.Done, .int .i64 r32.First, v34, .bool r32.Done, .int .i64 r40.First, v42, .bool r40.Done], ro v26 20 (r24.L.map S_api_Segment.enc), ro v34 20 (r32.L.map S_api_Segment.enc), row v42 20 (r40.L.map S_api_Segment.enc), ro v46 20 (r44.1.L.map S_api_Segment.enc), box b47 [.int .i64 r44.1.First, v46, .bool r44.1.Done]] (qv4 rfl rfl rfl rfl) (by decide) rfl ?_
       refine run_region' ?_
       refine oy rfl rfl (y_move rfl) ?_
       refine ops_nil ?_
       refine goes_code ?_
       refine run_block ?_
       refine run_times 60 ?_
       refine run_seq ?_
       refine run_region' ?_
       refine oy rfl rfl (y_lss rfl rfl) ?_
       refine ops_nil ?_
       refine goes_code ?_
       refine run_seq ?_
       refine run_cond_t rfl ?_
       refine run_skip ?_
       refine goes_code ?_
       refine run_seq ?_
       refine run_block ?_
       refine run_seq ?_
       refine run_region' ?_
       refine oy rfl rfl (y_move rfl) ?_
       refine oy rfl rfl (y_assign rfl) ?_
       refine ops_nil ?_
       refine goes_code ?_
       refine run_seq ?_
       refine run_drawany [globA, box b18 [.int .i64 r24.First, v26, .bool r24.Done, .int .i64 r32.First, v34, .bool r32.Done, .int .i64 r40.First, v42, .bool r40.Done], ro v26 20 (r24.L.map S_api_Segment.enc), ro v34 20 (r32.L.map S_api_Segment.enc), row v42 20 (r40.L.map S_api_Segment.enc), ro v46 20 (r44.1.L.map S_api_Segment.enc), box b47 [.int .i64 r44.1.First, v46, .bool r44.1.Done]] (by kernel_rfl) ?_
       refine any_y 0 rfl (by kernel_rfl) (by kernel_rfl) (by kernel_rfl) (ss (ss (ss (ss (ss (ss (ss (sn)))))))) (wn rfl) rfl (y_move rfl) ?_
       refine any_y 1 rfl (by kernel_rfl) (by kernel_rfl) (by kernel_rfl) (ss (ss (ss (ss (ss (ss (ss (sn)))))))) (wn rfl) rfl (y_indexAddr_box (n := 1) Tryd.runUnderlying28 Tryd.sizeOf27 rfl rfl (by decide)) ?_
       refine any_y 2 rfl (by kernel_rfl) (by kernel_rfl) (by kernel_rfl) (ss (ss (ss (ss (ss (ss (ss (sn)))))))) (wn rfl) rfl (y_load_boxagg (c := [.int .i64 r32.First, v34, .bool r32.Done]) 1 Tryd.isAgg27 Tryd.sizeOf27 rfl rfl rfl) ?_
       refine any_y 4 rfl (by kernel_rfl) (by kernel_rfl) (by kernel_rfl) (ss (ss (ss (ss (ss (ss (ss (sn)))))))) (wn rfl) rfl (y_move rfl) ?_
       refine any_y 5 rfl (by kernel_rfl) (by kernel_rfl) (by kernel_rfl) (ss (ss (ss (ss (ss (ss (ss (sn)))))))) (wn rfl) rfl (y_indexAddr_box (n := 0) Tryd.runUnderlying28 Tryd.sizeOf27 rfl rfl (by decide)) ?_
       refine any_y 6 rfl (by kernel_rfl) (by kernel_rfl) (by kernel_rfl) (ss (ss (ss (ss (ss (ss (ss (sn)))))))) (wn rfl) rfl (y_fieldAddr_box (sz := 0) Tryd.runUnderlying27 rfl Tryd.sizeOf3 rfl) ?_
       refine any_y 7 rfl (by kernel_rfl) (by kernel_rfl) (by kernel_rfl) (ss (ss (ss (ss (ss (ss (ss (sn)))))))) (wn rfl) rfl (y_load_box 1 Tryd.isAgg3 rfl rfl rfl) ?_
       refine any_all [3] (by kernel_rfl) rfl (anyo_cons ?_ anyo_nil)
       obtain ⟨r124, hr125, h⟩ := obind_some h
       refine any_t rfl (wn rfl) rfl (t_callx (vs := [.agg #[.int .i64 r32.First, v34, .bool r32.Done]]) (cs := []) [(3, 0)] rfl Tryd.call13 rfl (playlist_Next_ok r32 v34 hr125) (showsX_view 3 rfl views_ro showsX_nil) rfl (.inl rfl)) ?_
       rintro _ _ ⟨_, ⟨rfl, rfl⟩, rfl⟩
       refine ⟨(ss (ss (ss (ss (ss (ss (ss (sn)))))))), ?_⟩
       refine any_y 8 rfl (by kernel_rfl) (by kernel_rfl) (by kernel_rfl) (ss (ss (ss (ss (ss (ss (ss (sn)))))))) (wn rfl) rfl (y_lss rfl rfl) ?_
       refine any_nil (by kernel_rfl) ?_
       refine goes_code ?_
       refine run_cond (decide (r124 < r24.First)) rfl (fun hc126 => ?_) (fun hc126 => ?_)
       ·replace h := cond_t h hc126
        refine run_seq ?_
        refine run_weak [] [0] [globA] vnil (by decide) rfl ?_
        refine run_region' ?_
        obtain ⟨r127, hr128, h⟩ := obind_some h
        refine ot rfl rfl (t_callx (vs := []) (cs := []) [(0, 0)] rfl Tryd.call8 rfl (law43_sanity_ok n   hr128) (showsX_view 0 rfl views_glob showsX_nil) rfl (.inl rfl)) ?_
        rintro _ _ ⟨_, ⟨rfl, rfl⟩, rfl⟩
        refine oy rfl rfl (y_assign rfl) ?_
        refine ops_nil ?_
        refine goes_code ?_
        refine run_ret ?_
        obtain rfl := some_eq h
        refine fin_slots [10] [.bool r127] [] [] Tryd.results3 rfl (by decide) rfl ?_
        exact ⟨rfl, rfl⟩
       ·replace h := cond_f h hc126
        refine run_skip ?_
        refine goes_blk ?_
        refine goes_code ?_
        refine run_weak [(11, boxP b18 0), (15, boxP b47 0), (169, .int .i64 1), (20, .int .i64 1), (172, .int .i64 0)] [0, 1, 2, 3, 4, 5, 6] [globA, box b18 [.int .i64 r24.First, v26, .bool r24.Done, .int .i64 r32.First, v34, .bool r32.Done, .int .i64 r40.First, v42, .bool r40.Done], ro v26 20 (r24.L.map S_api_Segment.enc), ro v34 20 (r32.L.map S_api_Segment.enc), row v42 20 (r40.L.map S_api_Segment.enc), ro v46 20 (r44.1.L.map S_api_Segment.enc), box b47 [.int .i64 r44.1.First, v46, .bool r44.1.Done]] (qv5 rfl rfl rfl rfl rfl) (by decide) rfl ?_
        refine run_region' ?_
        refine oy rfl rfl (y_add rfl rfl) ?_
        refine oy rfl rfl (y_move rfl) ?_
        refine ops_nil ?_
        refine goes_times ?_
        refine run_seq ?_
        refine run_region' ?_
        refine oy rfl rfl (y_lss rfl rfl) ?_
        refine ops_nil ?_
        refine goes_code ?_
        refine run_seq ?_
        refine run_cond_t rfl ?_
        refine run_skip ?_
        refine goes_code ?_
        refine run_seq ?_
        refine run_block ?_
        refine run_seq ?_
        refine run_region' ?_
        refine oy rfl rfl (y_move rfl) ?_
        refine oy rfl rfl (y_assign rfl) ?_
        refine ops_nil ?_
        refine goes_code ?_
        refine run_seq ?_
        refine run_drawany [globA, box b18 [.int .i64 r24.First, v26, .bool r24.Done, .int .i64 r32.First, v34, .bool r32.Done, .int .i64 r40.First, v42, .bool r40.Done], ro v26 20 (r24.L.map S_api_Segment.enc), ro v34 20 (r32.L.map S_api_Segment.enc), row v42 20 (r40.L.map S_api_Segment.enc), ro v46 20 (r44.1.L.map S_api_Segment.enc), box b47 [.int .i64 r44.1.First, v46, .bool r44.1.Done]] (by kernel_rfl) ?_
        refine any_y 0 rfl (by kernel_rfl) (by kernel_rfl) (by kernel_rfl) (ss (ss (ss (ss (ss (ss (ss (sn)))))))) (wn rfl) rfl (y_move rfl) ?_
        refine any_y 1 rfl (by kernel_rfl) (by kernel_rfl) (by kernel_rfl) (ss (ss (ss (ss (ss (ss (ss (sn)))))))) (wn rfl) rfl (y_indexAddr_box (n := 1) Tryd.runUnderlying28 Tryd.sizeOf27 rfl rfl (by decide)) ?_
        refine any_y 2 rfl (by kernel_rfl) (by kernel_rfl) (by kernel_rfl) (ss (ss (ss (ss (ss (ss (ss (sn)))))))) (wn rfl) rfl (y_load_boxagg (c := [.int .i64 r32.First, v34, .bool r32.Done]) 1 Tryd.isAgg27 Tryd.sizeOf27 rfl rfl rfl) ?_
        refine any_y 4 rfl (by kernel_rfl) (by kernel_rfl) (by kernel_rfl) (ss (ss (ss (ss (ss (ss (ss (sn)))))))) (wn rfl) rfl (y_move rfl) ?_
        refine any_y 5 rfl (by kernel_rfl) (by kernel_rfl) (by kernel_rfl) (ss (ss (ss (ss (ss (ss (ss (sn)))))))) (wn rfl) rfl (y_indexAddr_box (n := 1) Tryd.runUnderlying28 Tryd.sizeOf27 rfl rfl (by decide)) ?_
        refine any_y 6 rfl (by kernel_rfl) (by kernel_rfl) (by kernel_rfl) (ss (ss (ss (ss (ss (ss (ss (sn)))))))) (wn rfl) rfl (y_fieldAddr_box (sz := 0) Tryd.runUnderlying27 rfl Tryd.sizeOf3 rfl) ?_
        refine any_y 7 rfl (by kernel_rfl) (by kernel_rfl) (by kernel_rfl) (ss (ss (ss (ss (ss (ss (ss (sn)))))))) (wn rfl) rfl (y_load_box 1 Tryd.isAgg3 rfl rfl rfl) ?_
        refine any_all [3] (by kernel_rfl) rfl (anyo_cons ?_ anyo_nil)
        obtain ⟨r129, hr130, h⟩ := obind_some h
        refine any_t rfl (wn rfl) rfl (t_callx (vs := [.agg #[.int .i64 r32.First, v34, .bool r32.Done]]) (cs := []) [(3, 0)] rfl Tryd.call13 rfl (playlist_Next_ok r32 v34 hr130) (showsX_view 3 rfl views_ro showsX_nil) rfl (.inl rfl)) ?_
        rintro _ _ ⟨_, ⟨rfl, rfl⟩, rfl⟩
        refine ⟨(ss (ss (ss (ss (ss (ss (ss (sn)))))))), ?_⟩
        refine any_y 8 rfl (by kernel_rfl) (by kernel_rfl) (by kernel_rfl) (ss (ss (ss (ss (ss (ss (ss (sn)))))))) (wn rfl) rfl (y_lss rfl rfl) ?_
        refine any_nil (by kernel_rfl) ?_
        refine goes_code ?_
        refine run_cond (decide (r129 < r32.First)) rfl (fun hc131 => ?_) (fun hc131 => ?_)
        ·replace h := cond_t h hc131
         refine run_seq ?_
         refine run_weak [] [0] [globA] vnil (by decide) rfl ?_
         refine run_region' ?_
         obtain ⟨r132, hr133, h⟩ := obind_some h
         refine ot rfl rfl (t_callx (vs := []) (cs := []) [(0, 0)] rfl Tryd.call8 rfl (law43_sanity_ok n   hr133) (showsX_view 0 rfl views_glob showsX_nil) rfl (.inl rfl)) ?_
         rintro _ _ ⟨_, ⟨rfl, rfl⟩, rfl⟩
         refine oy rfl rfl (y_assign rfl) ?_
         refine ops_nil ?_
         refine goes_code ?_
         refine run_ret ?_
         obtain rfl := some_eq h
         refine fin_slots [10] [.bool r132] [] [] Tryd.results3 rfl (by decide) rfl ?_
         exact ⟨rfl, rfl⟩
        ·replace h := cond_f h hc131
         refine run_skip ?_
         refine goes_blk ?_
         refine goes_code ?_
         refine run_weak [(11, boxP b18 0), (15, boxP b47 0), (169, .int .i64 1), (20, .int .i64 1), (172, .int .i64 1)] [0, 1, 2, 3, 4, 5, 6] [globA, box b18 [.int .i64 r24.First, v26, .bool r24.Done, .int .i64 r32.First, v34, .bool r32.Done, .int .i64 r40.First, v42, .bool r40.Done], ro v26 20 (r24.L.map S_api_Segment.enc), ro v34 20 (r32.L.map S_api_Segment.enc), row v42 20 (r40.L.map S_api_Segment.enc), ro v46 20 (r44.1.L.map S_api_Segment.enc), box b47 [.int .i64 r44.1.First, v46, .bool r44.1.Done]] (qv5 rfl rfl rfl rfl rfl) (by decide) rfl ?_
         refine run_region' ?_
         refine oy rfl rfl (y_add rfl rfl) ?_
         refine oy rfl rfl (y_move rfl) ?_
         refine ops_nil ?_
         refine goes_times ?_
         refine run_seq ?_
         refine run_region' ?_
         refine oy rfl rfl (y_lss rfl rfl) ?_
         refine ops_nil ?_
         refine goes_code ?_
         refine run_seq ?_
         refine run_cond_t rfl ?_
         refine run_skip ?_
         refine goes_code ?_
         refine run_seq ?_
         refine run_block ?_
         refine run_seq ?_
         refine run_region' ?_
         refine oy rfl rfl (y_move rfl) ?_
         refine oy rfl rfl (y_assign rfl) ?_
         refine ops_nil ?_
         refine goes_code ?_
         refine run_seq ?_
         refine run_drawany [globA, box b18 [.int .i64 r24.First, v26, .bool r24.Done, .int .i64 r32.First, v34, .bool r32.Done, .int .i64 r40.First, v42, .bool r40.Done], ro v26 20 (r24.L.map S_api_Segment.enc), ro v34 20 (r32.L.map S_api_Segment.enc), row v42 20 (r40.L.map S_api_Segment.enc), ro v46 20 (r44.1.L.map S_api_Segment.enc), box b47 [.int .i64 r44.1.First, v46, .bool r44.1.Done]] (by kernel_rfl) ?_
         refine any_y 0 rfl (by kernel_rfl) (by kernel_rfl) (by kernel_rfl) (ss (ss (ss (ss (ss (ss (ss (sn)))))))) (wn rfl) rfl (y_move rfl) ?_
         refine any_y 1 rfl (by kernel_rfl) (by kernel_rfl) (by kernel_rfl) (ss (ss (ss (ss (ss (ss (ss (sn)))))))) (wn rfl) rfl (y_indexAddr_box (n := 1) Tryd.runUnderlying28 Tryd.sizeOf27 rfl rfl (by decide)) ?_
         refine any_y 2 rfl (by kernel_rfl) (by kernel_rfl) (by kernel_rfl) (ss (ss (ss (ss (ss (ss (ss (sn)))))))) (wn rfl) rfl (y_load_boxagg (c := [.int .i64 r32.First, v34, .bool r32.Done]) 1 Tryd.isAgg27 Tryd.sizeOf27 rfl rfl rfl) ?_
         refine any_y 4 rfl (by kernel_rfl) (by kernel_rfl) (by kernel_rfl) (ss (ss (ss (ss (ss (ss (ss (sn)))))))) (wn rfl) rfl (y_move rfl) ?_
         refine any_y 5 rfl (by kernel_rfl) (by kernel_rfl) (by kernel_rfl) (ss (ss (ss (ss (ss (ss (ss (sn)))))))) (wn rfl) rfl (y_indexAddr_box (n := 2) Tryd.runUnderlying28 Tryd.sizeOf27 rfl rfl (by decide)) ?_
         refine any_y 6 rfl (by kernel_rfl) (by kernel_rfl) (by kernel_rfl) (ss (ss (ss (ss (ss (ss (ss (sn)))))))) (wn rfl) rfl (y_fieldAddr_box (sz := 0) Tryd.runUnderlying27 rfl Tryd.sizeOf3 rfl) ?_
         refine any_y 7 rfl (by kernel_rfl) (by kernel_rfl) (by kernel_rfl) (ss (ss (ss (ss (ss (ss (ss (sn)))))))) (wn rfl) rfl (y_load_box 1 Tryd.isAgg3 rfl rfl rfl) ?_
         refine any_all [3] (by kernel_rfl) rfl (anyo_cons ?_ anyo_nil)
         obtain ⟨r134, hr135, h⟩ := obind_some h
         refine any_t rfl (wn rfl) rfl (t_callx (vs := [.agg #[.int .i64 r32.First, v34, .bool r32.Done]]) (cs := []) [(3, 0)] rfl Tryd.call13 rfl (playlist_Next_ok r32 v34 hr135) (showsX_view 3 rfl views_ro showsX_nil) rfl (.inl rfl)) ?_
         rintro _ _ ⟨_, ⟨rfl, rfl⟩, rfl⟩
         refine ⟨(ss (ss (ss (ss (ss (ss (ss (sn)))))))), ?_⟩
         refine any_y 8 rfl (by kernel_rfl) (by kernel_rfl) (by kernel_rfl) (ss (ss (ss (ss (ss (ss (ss (sn)))))))) (wn rfl) rfl (y_lss rfl rfl) ?_
         refine any_nil (by kernel_rfl) ?_
         refine goes_code ?_
         refine run_cond (decide (r134 < r40.First)) rfl (fun hc136 => ?_) (fun hc136 => ?_)
         ·replace h := cond_t h hc136
          refine run_seq ?_
          refine run_weak [] [0] [globA] vnil (by decide) rfl ?_
          refine run_region' ?_
          obtain ⟨r137, hr138, h⟩ := obind_some h
          refine ot rfl rfl (t_callx (vs := []) (cs := []) [(0, 0)] rfl Tryd.call8 rfl (law43_sanity_ok n   hr138) (showsX_view 0 rfl views_glob showsX_nil) rfl (.inl rfl)) ?_
          rintro _ _ ⟨_, ⟨rfl, rfl⟩, rfl⟩
          refine oy rfl rfl (y_assign rfl) ?_
          refine ops_nil ?_
          refine goes_code ?_
          refine run_ret ?_
          obtain rfl := some_eq h
          refine fin_slots [10] [.bool r137] [] [] Tryd.results3 rfl (by decide) rfl ?_
          exact ⟨rfl, rfl⟩
         ·replace h := cond_f h hc136
          refine run_skip ?_
          refine goes_blk ?_
          refine goes_code ?_
          refine run_weak [(11, boxP b18 0), (15, boxP b47 0), (169, .int .i64 1), (20, .int .i64 1), (172, .int .i64 2)] [0, 1, 2, 3, 4, 5, 6] [globA, box b18 [.int .i64 r24.First, v26, .bool r24.Done, .int .i64 r32.First, v34, .bool r32.Done, .int .i64 r40.First, v42, .bool r40.Done], ro v26 20 (r24.L.map S_api_Segment.enc), ro v34 20 (r32.L.map S_api_Segment.enc), row v42 20 (r40.L.map S_api_Segment.enc), ro v46 20 (r44.1.L.map S_api_Segment.enc), box b47 [.int .i64 r44.1.First, v46, .bool r44.1.Done]] (qv5 rfl rfl rfl rfl rfl) (by decide) rfl ?_
          refine run_region' ?_
          refine oy rfl rfl (y_add rfl rfl) ?_
          refine oy rfl rfl (y_move rfl) ?_
          refine ops_nil ?_
          refine goes_times ?_
          refine run_seq ?_
          refine run_region' ?_
          refine oy rfl rfl (y_lss rfl rfl) ?_
          refine ops_nil ?_
          refine goes_code ?_
          refine run_seq ?_
          refine run_cond_f rfl ?_
          refine run_exit _ rfl ?_
          refine goes_blk ?_
          refine goes_code ?_
          refine run_region' ?_
          refine oy rfl rfl (y_add rfl rfl) ?_
          refine oy rfl rfl (y_move rfl) ?_
          refine ops_nil ?_
          refine goes_times ?_
          refine run_seq ?_
          refine run_region' ?_
          refine oy rfl rfl (y_lss rfl rfl) ?_
          refine ops_nil ?_
          refine goes_code ?_
          refine run_seq ?_
          refine run_cond_t rfl ?_
          refine run_skip ?_
          refine goes_code ?_
          refine run_seq ?_
          refine run_block ?_
          refine run_seq ?_
          refine run_region' ?_
          refine oy rfl rfl (y_move rfl) ?_
          refine oy rfl rfl (y_assign rfl) ?_
          refine ops_nil ?_
          refine goes_code ?_
          refine run_seq ?_
          refine run_weak [(11, boxP b18 0), (15, boxP b47 0), (169, .int .i64 2), (20, .int .i64 2)] [0, 1, 2, 3, 4, 5, 6] [globA, box b18 [.int .i64 r24.First, v26, .bool r24.Done, .int .i64 r32.First, v34, .bool r32.Done, .int .i64 r40.First, v42, .bool r40.Done], ro v26 20 (r24.L.map S_api_Segment.enc), ro v34 20 (r32.L.map S_api_Segment.enc), row v42 20 (r40.L.map S_api_Segment.enc), ro v46 20 (r44.1.L.map S_api_Segment.enc), box b47 [.int .i64 r44.1.First, v46, .bool r44.1.Done]] (qv4 rfl rfl rfl rfl) (by decide) rfl ?_
          refine run_region' ?_
          refine oy rfl rfl (y_move rfl) ?_
          refine ops_nil ?_
          refine goes_code ?_
          refine run_block ?_
          refine run_times 60 ?_
          refine run_seq ?_
          refine run_region' ?_
          refine oy rfl rfl (y_lss rfl rfl) ?_
          refine ops_nil ?_
          refine goes_code ?_
          refine run_seq ?_
          refine run_cond_t rfl ?_
          refine run_skip ?_
          refine goes_code ?_
          refine run_seq ?_
          refine run_block ?_
          refine run_seq ?_
          refine run_region' ?_
          refine oy rfl rfl (y_move rfl) ?_
          refine oy rfl rfl (y_assign rfl) ?_
          refine ops_nil ?_
          refine goes_code ?_
          refine run_seq ?_
          refine run_drawany [globA, box b18 [.int .i64 r24.First, v26, .bool r24.Done, .int .i64 r32.First, v34, .bool r32.Done, .int .i64 r40.First, v42, .bool r40.Done], ro v26 20 (r24.L.map S_api_Segment.enc), ro v34 20 (r32.L.map S_api_Segment.enc), row v42 20 (r40.L.map S_api_Segment.enc), ro v46 20 (r44.1.L.map S_api_Segment.enc), box b47 [.int .i64 r44.1.First, v46, .bool r44.1.Done]] (by kernel_rfl) ?_
          refine any_y 0 rfl (by kernel_rfl) (by kernel_rfl) (by kernel_rfl) (ss (ss (ss (ss (ss (ss (ss (sn)))))))) (wn rfl) rfl (y_move rfl) ?_
          refine any_y 1 rfl (by kernel_rfl) (by kernel_rfl) (by kernel_rfl) (ss (ss (ss (ss (ss (ss (ss (sn)))))))) (wn rfl) rfl (y_indexAddr_box (n := 2) Tryd.runUnderlying28 Tryd.sizeOf27 rfl rfl (by decide)) ?_
          refine any_y 2 rfl (by kernel_rfl) (by kernel_rfl) (by kernel_rfl) (ss (ss (ss (ss (ss (ss (ss (sn)))))))) (wn rfl) rfl (y_load_boxagg (c := [.int .i64 r40.First, v42, .bool r40.Done]) 1 Tryd.isAgg27 Tryd.sizeOf27 rfl rfl rfl) ?_
          refine any_y 4 rfl (by kernel_rfl) (by kernel_rfl) (by kernel_rfl) (ss (ss (ss (ss (ss (ss (ss (sn)))))))) (wn rfl) rfl (y_move rfl) ?_
          refine any_y 5 rfl (by kernel_rfl) (by kernel_rfl) (by kernel_rfl) (ss (ss (ss (ss (ss (ss (ss (sn)))))))) (wn rfl) rfl (y_indexAddr_box (n := 0) Tryd.runUnderlying28 Tryd.sizeOf27 rfl rfl (by decide)) ?_
          refine any_y 6 rfl (by kernel_rfl) (by kernel_rfl) (by kernel_rfl) (ss (ss (ss (ss (ss (ss (ss (sn)))))))) (wn rfl) rfl (y_fieldAddr_box (sz := 0) Tryd.runUnderlying27 rfl Tryd.sizeOf3 rfl) ?_
          refine any_y 7 rfl (by kernel_rfl) (by kernel_rfl) (by kernel_rfl) (ss (ss (ss (ss (ss (ss (ss (sn)))))))) (wn rfl) rfl (y_load_box 1 Tryd.isAgg3 rfl rfl rfl) ?_
          refine any_all [3] (by kernel_rfl) rfl (anyo_cons ?_ anyo_nil)
          obtain ⟨r139, hr140, h⟩ := obind_some h
          refine any_t rfl (wn rfl) rfl (t_callx (vs := [.agg #[.int .i64 r40.First, v42, .bool r40.Done]]) (cs := []) [(4, 1)] rfl Tryd.call13 rfl (playlist_Next_ok r40 v42 hr140) (showsX_look 4 rfl views_row showsX_nil) rfl (.inr (by rintro _ _ ⟨rfl, rfl⟩ g hg; first | (cases hg; done) | (simp only [List.mem_cons, List.not_mem_nil, or_false] at hg; first | (subst hg; first | exact strict_row | exact strict_box) | (rcases hg with rfl | rfl <;> first | exact strict_row | exact strict_box) | (rcases hg with rfl | rfl | rfl <;> first | exact strict_row | exact strict_box))))) ?_
          rintro _ _ ⟨_, ⟨rfl, rfl⟩, rfl⟩
          refine ⟨(ss (ss (ss (ss (ss (ss (ss (sn)))))))), ?_⟩
          refine any_y 8 rfl (by kernel_rfl) (by kernel_rfl) (by kernel_rfl) (ss (ss (ss (ss (ss (ss (ss (sn)))))))) (wn rfl) rfl (y_lss rfl rfl) ?_
          refine any_nil (by kernel_rfl) ?_
          refine goes_code ?_
          refine run_cond (decide (r139 < r24.First)) rfl (fun hc141 => ?_) (fun hc141 => ?_)
          ·replace h := cond_t h hc141
           refine run_seq ?_
           refine run_weak [] [0] [globA] vnil (by decide) rfl ?_
           refine run_region' ?_
           obtain ⟨r142, hr143, h⟩ := obind_some h
           refine ot rfl rfl (t_callx (vs := []) (cs := []) [(0, 0)] rfl Tryd.call8 rfl (law43_sanity_ok n   hr143) (showsX_view 0 rfl views_glob showsX_nil) rfl (.inl rfl)) ?_
           rintro _ _ ⟨_, ⟨rfl, rfl⟩, rfl⟩
           refine oy rfl rfl (y_assign rfl) ?_
           refine ops_nil ?_
           refine goes_code ?_
           refine run_ret ?_
           obtain rfl := some_eq h
           refine fin_slots [10] [.bool r142] [] [] Tryd.results3 rfl (by decide) rfl ?_
           exact ⟨rfl, rfl⟩
          ·replace h := cond_f h hc141
           refine run_skip ?_
           refine goes_blk ?_
           refine goes_code ?_
           refine run_weak [(11, boxP b18 0), (15, boxP b47 0), (169, .int .i64 2), (20, .int .i64 2), (172, .int .i64 0)] [0, 1, 2, 3, 4, 5, 6] [globA, box b18 [.int .i64 r24.First, v26, .bool r24.Done, .int .i64 r32.First, v34, .bool r32.Done, .int .i64 r40.First, v42, .bool r40.Done], ro v26 20 (r24.L.map S_api_Segment.enc), ro v34 20 (r32.L.map S_api_Segment.enc), row v42 20 (r40.L.map S_api_Segment.enc), ro v46 20 (r44.1.L.map S_api_Segment.enc), box b47 [.int .i64 r44.1.First, v46, .bool r44.1.Done]] (qv5 rfl rfl rfl rfl rfl) (by decide) rfl ?_
           refine run_region' ?_
           refine oy rfl rfl (y_add rfl rfl) ?_
           refine oy rfl rfl (y_move rfl) ?_
           refine ops_nil ?_
           refine goes_times ?_
           refine run_seq ?_
           refine run_region' ?_
           refine oy rfl rfl (y_lss rfl rfl) ?_
           refine ops_nil ?_
           refine goes_code ?_
           refine run_seq ?_
           refine run_cond_t rfl ?_
           refine run_skip ?_
           refine goes_code ?_
           refine run_seq ?_
           refine run_block ?_
           refine run_seq ?_
           refine run_region' ?_
           refine oy rfl rfl (y_move rfl) ?_
           refine oy rfl rfl (y_assign rfl) ?_
           refine ops_nil ?_
           refine goes_code ?_
           refine run_seq ?_
           refine run_drawany [globA, box b18 [.int .i64 r24.First, v26, .bool r24.Done, .int .i64 r32.First, v34, .bool r32.Done, .int .i64 r40.First, v42, .bool r40.Done], ro v26 20 (r24.L.map S_api_Segment.enc), ro v34 20 (r32.L.map S_api_Segment.enc), row v42 20 (r40.L.map S_api_Segment.enc), ro v46 20 (r44.1.L.map S_api_Segment.enc), box b47 [.int .i64 r44.1.First, v46, .bool r44.1.Done]] (by kernel_rfl) ?_
           refine any_y 0 rfl (by kernel_rfl) (by kernel_rfl) (by kernel_rfl) (ss (ss (ss (ss (ss (ss (ss (sn)))))))) (wn rfl) rfl (y_move rfl) ?_
           refine any_y 1 rfl (by kernel_rfl) (by kernel_rfl) (by kernel_rfl) (ss (ss (ss (ss (ss (ss (ss (sn)))))))) (wn rfl) rfl (y_indexAddr_box (n := 2) Tryd.runUnderlying28 Tryd.sizeOf27 rfl rfl (by decide)) ?_
           refine any_y 2 rfl (by kernel_rfl) (by kernel_rfl) (by kernel_rfl) (ss (ss (ss (ss (ss (ss (ss (sn)))))))) (wn rfl) rfl (y_load_boxagg (c := [.int .i64 r40.First, v42, .bool r40.Done]) 1 Tryd.isAgg27 Tryd.sizeOf27 rfl rfl rfl) ?_
           refine any_y 4 rfl (by kernel_rfl) (by kernel_rfl) (by kernel_rfl) (ss (ss (ss (ss (ss (ss (ss (sn)))))))) (wn rfl) rfl (y_move rfl) ?_
           refine any_y 5 rfl (by kernel_rfl) (by kernel_rfl) (by kernel_rfl) (ss (ss (ss (ss (ss (ss (ss (sn)))))))) (wn rfl) rfl (y_indexAddr_box (n := 1) Tryd.runUnderlying28 Tryd.sizeOf27 rfl rfl (by decide)) ?_
           refine any_y 6 rfl (by kernel_rfl) (by kernel_rfl) (by kernel_rfl) (ss (ss (ss (ss (ss (ss (ss (sn)))))))) (wn rfl) rfl (y_fieldAddr_box (sz := 0) Tryd.runUnderlying27 rfl Tryd.sizeOf3 rfl) ?_
           refine any_y 7 rfl (by kernel_rfl) (by kernel_rfl) (by kernel_rfl) (ss (ss (ss (ss (ss (ss (ss (sn)))))))) (wn rfl) rfl (y_load_box 1 Tryd.isAgg3 rfl rfl rfl) ?_
           refine any_all [3] (by kernel_rfl) rfl (anyo_cons ?_ anyo_nil)
           obtain ⟨r144, hr145, h⟩ := obind_some h
           refine any_t rfl (wn rfl) rfl (t_callx (vs := [.agg #[.int .i64 r40.First, v42, .bool r40.Done]]) (cs := []) [(4, 1)] rfl Tryd.call13 rfl (playlist_Next_ok r40 v42 hr145) (showsX_look 4 rfl views_row showsX_nil) rfl (.inr (by rintro _ _ ⟨rfl, rfl⟩ g hg; first | (cases hg; done) | (simp only [List.mem_cons, List.not_mem_nil, or_false] at hg; first | (subst hg; first | exact strict_row | exact strict_box) | (rcases hg with rfl | rfl <;> first | exact strict_row | exact strict_box) | (rcases hg with rfl | rfl | rfl <;> first | exact strict_row | exact strict_box))))) ?_
           rintro _ _ ⟨_, ⟨rfl, rfl⟩, rfl⟩
           refine ⟨(ss (ss (ss (ss (ss (ss (ss (sn)))))))), ?_⟩
           refine any_y 8 rfl (by kernel_rfl) (by kernel_rfl) (by kernel_rfl) (ss (ss (ss (ss (ss (ss (ss (sn)))))))) (wn rfl) rfl (y_lss rfl rfl) ?_
           refine any_nil (by kernel_rfl) ?_
           refine goes_code ?_
           refine run_cond (decide (r144 < r32.First)) rfl (fun hc146 => ?_) (fun hc146 => ?_)
           ·replace h := cond_t h hc146
            refine run_seq ?_
            refine run_weak [] [0] [globA] vnil (by decide) rfl ?_
            refine run_region' ?_
            obtain ⟨r147, hr148, h⟩ := obind_some h
            refine ot rfl rfl (t_callx (vs := []) (cs := []) [(0, 0)] rfl Tryd.call8 rfl (law43_sanity_ok n   hr148) (showsX_view 0 rfl views_glob showsX_nil) rfl (.inl rfl)) ?_
            rintro _ _ ⟨_, ⟨rfl, rfl⟩, rfl⟩
            refine oy rfl rfl (y_assign rfl) ?_
            refine ops_nil ?_
            refine goes_code ?_
            refine run_ret ?_
            obtain rfl := some_eq h
            refine fin_slots [10] [.bool r147] [] [] Tryd.results3 rfl (by decide) rfl ?_
            exact ⟨rfl, rfl⟩
           ·replace h := cond_f h hc146
            refine run_skip ?_
            refine goes_blk ?_
            refine goes_code ?_
            refine run_weak [(11, boxP b18 0), (15, boxP b47 0), (169, .int .i64 2), (20, .int .i64 2), (172, .int .i64 1)] [0, 1, 2, 3, 4, 5, 6] [globA, box b18 [.int .i64 r24.First, v26, .bool r24.Done, .int .i64 r32.First, v34, .bool r32.Done, .int .i64 r40.First, v42, .bool r40.Done], ro v26 20 (r24.L.map S_api_Segment.enc), ro v34 20 (r32.L.map S_api_Segment.enc), row v42 20 (r40.L.map S_api_Segment.enc), ro v46 20 (r44.1.L.map S_api_Segment.enc), box b47 [.int .i64 r44.1.First, v46, .bool r44.1.Done]] (qv5 rfl rfl rfl rfl rfl) (by decide) rfl ?_
            refine run_region' ?_
            refine oy rfl rfl (y_add rfl rfl) ?_
            refine oy rfl rfl (y_move rfl) ?_
            refine ops_nil ?_
            refine goes_times ?_
            refine run_seq ?_
            refine run_region' ?_
            refine oy rfl rfl (y_lss rfl rfl) ?_
            refine ops_nil ?_
            refine goes_code ?_
            refine run_seq ?_
            refine run_cond_t rfl ?_
            refine run_skip ?_
            refine goes_code ?_
            refine run_seq ?_
            refine run_block ?_
            refine run_seq ?_
            refine run_region' ?_
            refine oy rfl rfl (y_move rfl) ?_
            refine oy rfl rfl (y_assign rfl) ?_
            refine ops_nil ?_
            refine goes_code ?_
            refine run_seq ?_
            refine run_drawany [globA, box b18 [.int .i64 r24.First, v26, .bool r24.Done, .int .i64 r32.First, v34, .bool r32.Done, .int .i64 r40.First, v42, .bool r40.Done], ro v26 20 (r24.L.map S_api_Segment.enc), ro v34 20 (r32.L.map S_api_Segment.enc), row v42 20 (r40.L.map S_api_Segment.enc), ro v46 20 (r44.1.L.map S_api_Segment.enc), box b47 [.int .i64 r44.1.First, v46, .bool r44.1.Done]] (by kernel_rfl) ?_
            refine any_y 0 rfl (by kernel_rfl) (by kernel_rfl) (by kernel_rfl) (ss (ss (ss (ss (ss (ss (ss (sn)))))))) (wn rfl) rfl (y_move rfl) ?_
            refine any_y 1 rfl (by kernel_rfl) (by kernel_rfl) (by kernel_rfl) (ss (ss (ss (ss (ss (ss (ss (sn)))))))) (wn rfl) rfl (y_indexAddr_box (n := 2) Tryd.runUnderlying28 Tryd.sizeOf27 rfl rfl (by decide)) ?_
            refine any_y 2 rfl (by kernel_rfl) (by kernel_rfl) (by kernel_rfl) (ss (ss (ss (ss (ss (ss (ss (sn)))))))) (wn rfl) rfl (y_load_boxagg (c := [.int .i64 r40.First, v42, .bool r40.Done]) 1 Tryd.isAgg27 Tryd.sizeOf27 rfl rfl rfl) ?_
            refine any_y 4 rfl (by kernel_rfl) (by kernel_rfl) (by kernel_rfl) (ss (ss (ss (ss (ss (ss (ss (sn)))))))) (wn rfl) rfl (y_move rfl) ?_
            refine any_y 5 rfl (by kernel_rfl) (by kernel_rfl) (by kernel_rfl) (ss (ss (ss (ss (ss (ss (ss (sn)))))))) (wn rfl) rfl (y_indexAddr_box (n := 2) Tryd.runUnderlying28 Tryd.sizeOf27 rfl rfl (by decide)) ?_
            refine any_y 6 rfl (by kernel_rfl) (by kernel_rfl) (by kernel_rfl) (ss (ss (ss (ss (ss (ss (ss (sn)))))))) (wn rfl) rfl (y_fieldAddr_box (sz := 0) Tryd.runUnderlying27 rfl Tryd.sizeOf3 rfl) ?_
            refine any_y 7 rfl (by kernel_rfl) (by kernel_rfl) (by kernel_rfl) (ss (ss (ss (ss (ss (ss (ss (sn)))))))) (wn rfl) rfl (y_load_box 1 Tryd.isAgg3 rfl rfl rfl) ?_
            refine any_all [3] (by kernel_rfl) rfl (anyo_cons ?_ anyo_nil)
            obtain ⟨r149, hr150, h⟩ := obind_some h
            refine any_t rfl (wn rfl) rfl (t_callx (vs := [.agg #[.int .i64 r40.First, v42, .bool r40.Done]]) (cs := []) [(4, 1)] rfl Tryd.call13 rfl (playlist_Next_ok r40 v42 hr150) (showsX_look 4 rfl views_row showsX_nil) rfl (.inr (by rintro _ _ ⟨rfl, rfl⟩ g hg; first | (cases hg; done) | (simp only [List.mem_cons, List.not_mem_nil, or_false] at hg; first | (subst hg; first | exact strict_row | exact strict_box) | (rcases hg with rfl | rfl <;> first | exact strict_row | exact strict_box) | (rcases hg with rfl | rfl | rfl <;> first | exact strict_row | exact strict_box))))) ?_
            rintro _ _ ⟨_, ⟨rfl, rfl⟩, rfl⟩
            refine ⟨(ss (ss (ss (ss (ss (ss (ss (sn)))))))), ?_⟩
            refine any_y 8 rfl (by kernel_rfl) (by kernel_rfl) (by kernel_rfl) (ss (ss (ss (ss (ss (ss (ss (sn)))))))) (wn rfl) rfl (y_lss rfl rfl) ?_
            refine any_nil (by kernel_rfl) ?_
            refine goes_code ?_
            refine run_cond (decide (r149 < r40.First)) rfl (fun hc151 => ?_) (fun hc151 => ?_)
            ·replace h := cond_t h hc151
             refine run_seq ?_
             refine run_weak [] [0] [globA] vnil (by decide) rfl ?_
             refine run_region' ?_
             obtain ⟨r152, hr153, h⟩ := obind_some h
             refine ot rfl rfl (t_callx (vs := []) (cs := []) [(0, 0)] rfl Tryd.call8 rfl (law43_sanity_ok n   hr153) (showsX_view 0 rfl views_glob showsX_nil) rfl (.inl rfl)) ?_
             rintro _ _ ⟨_, ⟨rfl, rfl⟩, rfl⟩
             refine oy rfl rfl (y_assign rfl) ?_
             refine ops_nil ?_
             refine goes_code ?_
             refine run_ret ?_
             obtain rfl := some_eq h
             refine fin_slots [10] [.bool r152] [] [] Tryd.results3 rfl (by decide) rfl ?_
             exact ⟨rfl, rfl⟩
            ·replace h := cond_f h hc151
             refine run_skip ?_
             refine goes_blk ?_
             refine goes_code ?_
             refine run_weak [(11, boxP b18 0), (15, boxP b47 0), (169, .int .i64 2), (20, .int .i64 2), (172, .int .i64 2)] [0, 1, 2, 3, 4, 5, 6] [globA, box b18 [.int .i64 r24.First, v26, .bool r24.Done, .int .i64 r32.First, v34, .bool r32.Done, .int .i64 r40.First, v42, .bool r40.Done], ro v26 20 (r24.L.map S_api_Segment.enc), ro v34 20 (r32.L.map S_api_Segment.enc), row v42 20 (r40.L.map S_api_Segment.enc), ro v46 20 (r44.1.L.map S_api_Segment.enc), box b47 [.int .i64 r44.1.First, v46, .bool r44.1.Done]] (qv5 rfl rfl rfl rfl rfl) (by decide) rfl ?_
             refine run_region' ?_
             refine oy rfl rfl (y_add rfl rfl) ?_
             refine oy rfl rfl (y_move rfl) ?_
             refine ops_nil ?_
             refine goes_times ?_
             refine run_seq ?_
             refine run_region' ?_
             refine oy rfl rfl (y_lss rfl rfl) ?_
             refine ops_nil ?_
             refine goes_code ?_
             refine run_seq ?_
             refine run_cond_f rfl ?_
             refine run_exit _ rfl ?_
             refine goes_blk ?_
             refine goes_code ?_
             refine run_region' ?_
             refine oy rfl rfl (y_add rfl rfl) ?_
             refine oy rfl rfl (y_move rfl) ?_
             refine ops_nil ?_
             refine goes_times ?_
             refine run_seq ?_
             refine run_region' ?_
             refine oy rfl rfl (y_lss rfl rfl) ?_
             refine ops_nil ?_
             refine goes_code ?_
             refine run_seq ?_
             refine run_cond_f rfl ?_
             refine run_exit _ rfl ?_
             refine goes_code ?_
             refine run_seq ?_
             refine run_region' ?_
             refine oy rfl rfl (y_load_boxagg (c := [.int .i64 r44.1.First, v46, .bool r44.1.Done]) 6 Tryd.isAgg27 Tryd.sizeOf27 rfl rfl rfl) ?_
             refine oy rfl rfl (y_indexAddr_box (n := 2) Tryd.runUnderlying28 Tryd.sizeOf27 rfl rfl (by decide)) ?_
             refine oy rfl rfl (y_load_boxagg (c := [.int .i64 r40.First, v42, .bool r40.Done]) 1 Tryd.isAgg27 Tryd.sizeOf27 rfl rfl rfl) ?_
             refine ops_turn (Go.Abs.freeze 4 rfl) ?_
             obtain ⟨r154, hr155, h⟩ := obind_some h
             refine ot rfl rfl (t_callx (vs := [.agg #[.int .i64 r44.1.First, v46, .bool r44.1.Done], .agg #[.int .i64 r40.First, v42, .bool r40.Done], .int .i64 100]) (cs := []) [(5, 0), (4, 0)] rfl Tryd.call10 rfl (playlist_Merge_ok n r44.1 r40 100 v46 v42 hr155) (showsX_view 5 rfl views_ro (showsX_view 4 rfl views_ro showsX_nil)) rfl (.inl rfl)) ?_
             rintro _ _ ⟨_, ⟨v156, rfl, rfl⟩, rfl⟩
             refine oy rfl rfl (y_move rfl) ?_
             refine oy rfl rfl (y_extract rfl rfl) ?_
             refine oy rfl rfl (y_extract rfl rfl) ?_
             refine ot rfl rfl (t_alloc Tryd.zeroValue27) ?_
             rintro _ _ ⟨b157, rfl, rfl⟩
             refine ops_slc 7 rfl reads_ro (fun hs158 hs158o => ?_)
             refine ot rfl rfl (t_store 8 Tryd.sizeOf27 rfl rfl rfl rfl (by simp [Value.cells, boxP]) (allL_cons rfl (allL_cons hs158o (allL_cons rfl (allL_nil))))) ?_
             rintro _ _ ⟨rfl, rfl⟩
             refine ops_turn (retell 8 (g := box b157 [.int .i64 r154.1.First, v156, .bool r154.1.Done]) rfl rfl) ?_
             refine oy rfl rfl (y_assign rfl) ?_
             refine ops_nil ?_
             refine goes_code ?_
             refine run_seq ?_
             refine run_weak [(11, boxP b18 0), (22, boxP b157 0), (23, .int .i64 r154.2)] [0, 1, 2, 3, 4, 7, 8] [globA, box b18 [.int .i64 r24.First, v26, .bool r24.Done, .int .i64 r32.First, v34, .bool r32.Done, .int .i64 r40.First, v42, .bool r40.Done], ro v26 20 (r24.L.map S_api_Segment.enc), ro v34 20 (r32.L.map S_api_Segment.enc), ro v42 20 (r40.L.map S_api_Segment.enc), ro v156 20 (r154.1.L.map S_api_Segment.enc), box b157 [.int .i64 r154.1.First, v156, .bool r154.1.Done]] (qv3 rfl rfl rfl) (by decide) rfl ?_
             refine run_region' ?_
             refine oy rfl rfl (y_indexAddr_box (n := 1) Tryd.runUnderlying28 Tryd.sizeOf27 rfl rfl (by decide)) ?_
             refine oy rfl rfl (y_load_boxagg (c := [.int .i64 r32.First, v34, .bool r32.Done]) 1 Tryd.isAgg27 Tryd.sizeOf27 rfl rfl rfl) ?_
             refine oy rfl rfl (y_indexAddr_box (n := 2) Tryd.runUnderlying28 Tryd.sizeOf27 rfl rfl (by decide)) ?_
             refine oy rfl rfl (y_load_boxagg (c := [.int .i64 r40.First, v42, .bool r40.Done]) 1 Tryd.isAgg27 Tryd.sizeOf27 rfl rfl rfl) ?_
             obtain ⟨r159, hr160, h⟩ := obind_some h
             refine ot rfl rfl (t_callx (vs := [.agg #[.int .i64 r32.First, v34, .bool r32.Done], .agg #[.int .i64 r40.First, v42, .bool r40.Done], .int .i64 100]) (cs := []) [(3, 0), (4, 0)] rfl Tryd.call10 rfl (playlist_Merge_ok n r32 r40 100 v34 v42 hr160) (showsX_view 3 rfl views_ro (showsX_view 4 rfl views_ro showsX_nil)) rfl (.inl rfl)) ?_
             rintro _ _ ⟨_, ⟨v161, rfl, rfl⟩, rfl⟩
             refine oy rfl rfl (y_move rfl) ?_
             refine oy rfl rfl (y_extract rfl rfl) ?_
             refine oy rfl rfl (y_extract rfl rfl) ?_
             refine ot rfl rfl (t_alloc Tryd.zeroValue27) ?_
             rintro _ _ ⟨b162, rfl, rfl⟩
             refine ops_slc 7 rfl reads_ro (fun hs163 hs163o => ?_)
             refine ot rfl rfl (t_store 8 Tryd.sizeOf27 rfl rfl rfl rfl (by simp [Value.cells, boxP]) (allL_cons rfl (allL_cons hs163o (allL_cons rfl (allL_nil))))) ?_
             rintro _ _ ⟨rfl, rfl⟩
             refine ops_turn (retell 8 (g := box b162 [.int .i64 r159.1.First, v161, .bool r159.1.Done]) rfl rfl) ?_
             refine oy rfl rfl (y_assign rfl) ?_
             refine ops_nil ?_
             refine goes_code ?_
             refine run_seq ?_
             refine run_weak [(11, boxP b18 0), (22, boxP b157 0), (23, .int .i64 r154.2), (24, boxP b162 0), (25, .int .i64 r159.2)] [0, 1, 2, 3, 4, 5, 6, 7, 8] [globA, box b18 [.int .i64 r24.First, v26, .bool r24.Done, .int .i64 r32.First, v34, .bool r32.Done, .int .i64 r40.First, v42, .bool r40.Done], ro v26 20 (r24.L.map S_api_Segment.enc), ro v34 20 (r32.L.map S_api_Segment.enc), ro v42 20 (r40.L.map S_api_Segment.enc), ro v156 20 (r154.1.L.map S_api_Segment.enc), box b157 [.int .i64 r154.1.First, v156, .bool r154.1.Done], ro v161 20 (r159.1.L.map S_api_Segment.enc), box b162 [.int .i64 r159.1.First, v161, .bool r159.1.Done]] (qv5 rfl rfl rfl rfl rfl) (by decide) rfl ?_
             refine run_region' ?_
             refine oy rfl rfl (y_load_boxagg (c := [.int .i64 r159.1.First, v161, .bool r159.1.Done]) 8 Tryd.isAgg27 Tryd.sizeOf27 rfl rfl rfl) ?_
             refine oy rfl rfl (y_indexAddr_box (n := 0) Tryd.runUnderlying28 Tryd.sizeOf27 rfl rfl (by decide)) ?_
             refine oy rfl rfl (y_load_boxagg (c := [.int .i64 r24.First, v26, .bool r24.Done]) 1 Tryd.isAgg27 Tryd.sizeOf27 rfl rfl rfl) ?_
             obtain ⟨r164, hr165, h⟩ := obind_some h
             refine ot rfl rfl (t_callx (vs := [.agg #[.int .i64 r159.1.First, v161, .bool r159.1.Done], .agg #[.int .i64 r24.First, v26, .bool r24.Done], .int .i64 100]) (cs := []) [(7, 0), (2, 0)] rfl Tryd.call10 rfl (playlist_Merge_ok n r159.1 r24 100 v161 v26 hr165) (showsX_view 7 rfl views_ro (showsX_view 2 rfl views_ro showsX_nil)) rfl (.inl rfl)) ?_
             rintro _ _ ⟨_, ⟨v166, rfl, rfl⟩, rfl⟩
             refine oy rfl rfl (y_move rfl) ?_
             refine oy rfl rfl (y_extract rfl rfl) ?_
             refine oy rfl rfl (y_extract rfl rfl) ?_
             refine ot rfl rfl (t_alloc Tryd.zeroValue27) ?_
             rintro _ _ ⟨b167, rfl, rfl⟩
             refine ops_slc 9 rfl reads_ro (fun hs168 hs168o => ?_)
             refine ot rfl rfl (t_store 10 Tryd.sizeOf27 rfl rfl rfl rfl (by simp [Value.cells, boxP]) (allL_cons rfl (allL_cons hs168o (allL_cons rfl (allL_nil))))) ?_
             rintro _ _ ⟨rfl, rfl⟩
             refine ops_turn (retell 10 (g := box b167 [.int .i64 r164.1.First, v166, .bool r164.1.Done]) rfl rfl) ?_
             refine oy rfl rfl (y_assign rfl) ?_
             refine ops_nil ?_
             refine goes_code ?_
             refine run_seq ?_
             refine run_weak [(22, boxP b157 0), (23, .int .i64 r154.2), (25, .int .i64 r159.2), (26, boxP b167 0), (27, .int .i64 r164.2)] [0, 5, 6, 9, 10] [globA, ro v156 20 (r154.1.L.map S_api_Segment.enc), box b157 [.int .i64 r154.1.First, v156, .bool r154.1.Done], ro v166 20 (r164.1.L.map S_api_Segment.enc), box b167 [.int .i64 r164.1.First, v166, .bool r164.1.Done]] (qv5 rfl rfl rfl rfl rfl) (by decide) rfl ?_
             refine run_region' ?_
             obtain ⟨r169, hr170, h⟩ := obind_some h
             refine ot rfl rfl (t_callx (vs := []) (cs := []) [(0, 0)] rfl Tryd.call8 rfl (law43_sanity_ok n   hr170) (showsX_view 0 rfl views_glob showsX_nil) rfl (.inl rfl)) ?_
             rintro _ _ ⟨_, ⟨rfl, rfl⟩, rfl⟩
             refine oy rfl rfl (y_move rfl) ?_
             refine ops_cut 3 (Bool) (fun σ => [(22, boxP b157 0), (25, .int .i64 r159.2), (26, boxP b167 0), (27, .int .i64 r164.2), (213, .bool σ)]) (fun σ => [globA, ro v156 20 (r154.1.L.map S_api_Segment.enc), box b157 [.int .i64 r154.1.First, v156, .bool r154.1.Done], ro v166 20 (r164.1.L.map S_api_Segment.enc), box b167 [.int .i64 r164.1.First, v166, .bool r164.1.Done]]) (fun σ => σ = (r169 && decide (r154.2 = 0))) (fun L171 hL172 => ?_) ?_
             ·refine ops_split 210 r169 rfl (fun hg173 => ?_) (fun hg173 => ?_)
              ·skip
               refine ops_y (wg 1 true 210 rfl rfl rfl rfl) rfl (y_move rfl) ?_
               refine ops_y (wg 1 true 210 rfl rfl rfl rfl) rfl (y_eql rfl rfl) ?_
               refine oy rfl rfl (y_pick (b := true) rfl rfl) ?_
               refine ops_nil ?_
               exact goes_cut hL172 (decide (r154.2 = 0)) [0, 1, 2, 3, 4] (qv5 rfl rfl rfl rfl rfl) (by decide) rfl (by rw [hg173]; simp)
              ·skip
               refine ops_no 1 true 210 rfl rfl rfl rfl rfl ?_
               refine ops_no 1 true 210 rfl rfl rfl rfl rfl ?_
               refine oy rfl rfl (y_pick (b := false) rfl rfl) ?_
               refine ops_nil ?_
               exact goes_cut hL172 false [0, 1, 2, 3, 4] (qv5 rfl rfl rfl rfl rfl) (by decide) rfl (by rw [hg173]; simp)
             rintro _ rfl
             refine oy rfl rfl (y_move rfl) ?_
             refine ops_cut 3 (Bool) (fun σ => [(22, boxP b157 0), (26, boxP b167 0), (27, .int .i64 r164.2), (217, .bool σ)]) (fun σ => [globA, ro v156 20 (r154.1.L.map S_api_Segment.enc), box b157 [.int .i64 r154.1.First, v156, .bool r154.1.Done], ro v166 20 (r164.1.L.map S_api_Segment.enc), box b167 [.int .i64 r164.1.First, v166, .bool r164.1.Done]]) (fun σ => σ = ((r169 && decide (r154.2 = 0)) && decide (r159.2 = 0))) (fun L174 hL175 => ?_) ?_
             ·refine ops_split 214 (r169 && decide (r154.2 = 0)) rfl (fun hg176 => ?_) (fun hg176 => ?_)
              ·skip
               refine ops_y (wg 5 true 214 rfl rfl rfl rfl) rfl (y_move rfl) ?_
               refine ops_y (wg 5 true 214 rfl rfl rfl rfl) rfl (y_eql rfl rfl) ?_
               refine oy rfl rfl (y_pick (b := true) rfl rfl) ?_
               refine ops_nil ?_
               exact goes_cut hL175 (decide (r159.2 = 0)) [0, 1, 2, 3, 4] (qv4 rfl rfl rfl rfl) (by decide) rfl (by rw [hg176]; simp)
              ·skip
               refine ops_no 5 true 214 rfl rfl rfl rfl rfl ?_
               refine ops_no 5 true 214 rfl rfl rfl rfl rfl ?_
               refine oy rfl rfl (y_pick (b := false) rfl rfl) ?_
               refine ops_nil ?_
               exact goes_cut hL175 false [0, 1, 2, 3, 4] (qv4 rfl rfl rfl rfl) (by decide) rfl (by rw [hg176]; simp)
             rintro _ rfl
             refine oy rfl rfl (y_move rfl) ?_
             refine ops_cut 3 (Bool) (fun σ => [(22, boxP b157 0), (26, boxP b167 0), (221, .bool σ)]) (fun σ => [globA, ro v156 20 (r154.1.L.map S_api_Segment.enc), box b157 [.int .i64 r154.1.First, v156, .bool r154.1.Done], ro v166 20 (r164.1.L.map S_api_Segment.enc), box b167 [.int .i64 r164.1.First, v166, .bool r164.1.Done]]) (fun σ => σ = (((r169 && decide (r154.2 = 0)) && decide (r159.2 = 0)) && decide (r164.2 = 0))) (fun L177 hL178 => ?_) ?_
             ·refine ops_split 218 ((r169 && decide (r154.2 = 0)) && decide (r159.2 = 0)) rfl (fun hg179 => ?_) (fun hg179 => ?_)
              ·skip
               refine ops_y (wg 9 true 218 rfl rfl rfl rfl) rfl (y_move rfl) ?_
               refine ops_y (wg 9 true 218 rfl rfl rfl rfl) rfl (y_eql rfl rfl) ?_
               refine oy rfl rfl (y_pick (b := true) rfl rfl) ?_
               refine ops_nil ?_
               exact goes_cut hL178 (decide (r164.2 = 0)) [0, 1, 2, 3, 4] (qv3 rfl rfl rfl) (by decide) rfl (by rw [hg179]; simp)
              ·skip
               refine ops_no 9 true 218 rfl rfl rfl rfl rfl ?_
               refine ops_no 9 true 218 rfl rfl rfl rfl rfl ?_
               refine oy rfl rfl (y_pick (b := false) rfl rfl) ?_
               refine ops_nil ?_
               exact goes_cut hL178 false [0, 1, 2, 3, 4] (qv3 rfl rfl rfl) (by decide) rfl (by rw [hg179]; simp)
             rintro _ rfl
             refine oy rfl rfl (y_move rfl) ?_
             obtain ⟨o181, h, ho182⟩ := bindJ_some h
             refine ops_cut 4 (Bool) (fun σ => [(226, .bool σ)]) (fun σ => [globA]) (fun σ => o181 = .go σ) (fun L183 hL184 => ?_) ?_
             ·refine ops_split 222 (((r169 && decide (r154.2 = 0)) && decide (r159.2 = 0)) && decide (r164.2 = 0)) rfl (fun hg185 => ?_) (fun hg185 => ?_)
              ·replace h := cond_t h hg185
               refine ops_y (wg 13 true 222 rfl rfl rfl rfl) rfl (y_load_boxagg (c := [.int .i64 r154.1.First, v156, .bool r154.1.Done]) 2 Tryd.isAgg27 Tryd.sizeOf27 rfl rfl rfl) ?_
               refine ops_y (wg 13 true 222 rfl rfl rfl rfl) rfl (y_load_boxagg (c := [.int .i64 r164.1.First, v166, .bool r164.1.Done]) 4 Tryd.isAgg27 Tryd.sizeOf27 rfl rfl rfl) ?_
               obtain ⟨r186, hr187, h⟩ := obind_some h
               refine ops_t (wg 13 true 222 rfl rfl rfl rfl) rfl (t_callx (vs := [.agg #[.int .i64 r154.1.First, v156, .bool r154.1.Done], .agg #[.int .i64 r164.1.First, v166, .bool r164.1.Done]]) (cs := []) [(1, 0), (3, 0)] rfl Tryd.call11 rfl (ref43_Same_ok n r154.1 r164.1 v156 v166 hr187) (showsX_view 1 rfl views_ro (showsX_view 3 rfl views_ro showsX_nil)) rfl (.inl rfl)) ?_
               rintro _ _ ⟨_, ⟨rfl, rfl⟩, rfl⟩
               refine oy rfl rfl (y_pick (b := true) rfl rfl) ?_
               refine ops_nil ?_
               obtain rfl := some_eq h
               exact goes_cut hL184 r186 [0] (qv1 rfl) (by decide) rfl rfl
              ·replace h := cond_f h hg185
               refine ops_no 13 true 222 rfl rfl rfl rfl rfl ?_
               refine ops_no 13 true 222 rfl rfl rfl rfl rfl ?_
               refine ops_no 13 true 222 rfl rfl rfl rfl rfl ?_
               refine oy rfl rfl (y_pick (b := false) rfl rfl) ?_
               refine ops_nil ?_
               obtain rfl := some_eq h
               exact goes_cut hL184 false [0] (qv1 rfl) (by decide) rfl rfl
             rintro b180 hj
             obtain rfl : o181 = _ := hj
             replace h := after_go ho182
             clear ho182
             refine oy rfl rfl (y_assign rfl) ?_
             refine ops_nil ?_
             refine goes_code ?_
             refine run_ret ?_
             obtain rfl := some_eq h
             refine fin_slots [10] [.bool b180] [] [] Tryd.results3 rfl (by decide) rfl ?_
             exact ⟨rfl, rfl⟩

end Go.Proofs.YtbgpojdmdnkeaaaDoor
