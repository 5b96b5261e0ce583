/-
  Functions of the program, lifted: part 5.
-/
import Derived.Test.YtbgpojdmdnkeaaaGreatDoorFd
namespace Go.Proofs.YtbgpojdmdnkeaaaGreatDoor
open Go.Abs
set_option linter.unusedVariables false
set_option linter.unusedSimpArgs false
set_option maxRecDepth 20000
set_option maxHeartbeats 4000000

def law43_sanity_L1 (r1 : (List S_api_Segment)) : (Int × Int × (List S_api_Segment) × Bool) → Option (Lp (Int × Int × (List S_api_Segment) × Bool) (Lp (Int × (List S_api_Segment) × Bool) (Bool))) :=
 fun (s_13, x_14, x_15, x_16) =>
  cond (decide (s_13 < (r1.length : Int)))
   (idx r1 s_13 fun x23 =>
   obind (playlist_Push_v1 (S_api_Playlist.mk x_14 x_15 x_16) x23 3) fun r25 =>
   cond (decide (r25.2 ≠ 0))
    (some (.stop (.stop false)))
    (some (.go ((IntKind.i64.wrap (s_13 + 1)), r25.1.First, r25.1.L, r25.1.Done))))
   (some (.stop (.go (x_14, x_15, x_16))))
def law43_sanity (n : Nat) : Option (Bool) :=
 obind (law43_segments n 4) fun r1 =>
 bindJ (S := Int × (List S_api_Segment) × Bool)
  (iter (law43_sanity_L1 r1) n (0, 4, ([] : List S_api_Segment), false))
 (fun (x_5, x_6, x_7) =>
  obind (ref43_Part r1 1 4 false) fun r32 =>
  obind (ref43_Same n (S_api_Playlist.mk x_5 x_6 x_7) r32) fun r37 =>
  bindJ (S := Bool)
   (cond r37
    (obind (playlist_Next (S_api_Playlist.mk x_5 x_6 x_7)) fun r45 =>
    some (.go (decide (r45 = 8))))
    (some (.go false)))
  (fun b39 =>
   bindJ (S := Bool)
    (cond b39
     (obind (playlist_Edge (S_api_Playlist.mk x_5 x_6 x_7)) fun r53 =>
     some (.go (decide (r53 = 140))))
     (some (.go false)))
   (fun b47 =>
    bindJ (S := Bool)
     (cond b47
      (obind (playlist_Valid n (S_api_Playlist.mk x_5 x_6 x_7)) fun r61 =>
      some (.go r61))
      (some (.go false)))
    (fun b55 =>
     obind (ref43_Part r1 0 2 false) fun r63 =>
     obind (playlist_Merge n r63 r32 3) fun r66 =>
     obind (ref43_Part r1 0 2 false) fun r78 =>
     obind (playlist_Merge n r78 r32 4) fun r81 =>
     obind (ref43_Part r1 0 2 false) fun r93 =>
     obind (ref43_Part r1 3 4 false) fun r96 =>
     obind (playlist_Merge n r93 r96 3) fun r99 =>
     bindJ (S := Bool)
      (cond ((decide (r66.2 = 0) && decide (r81.2 = 0)) && decide (r99.2 = 0))
       (obind (ref43_Same n r66.1 r32) fun r116 =>
       some (.go r116))
       (some (.go false)))
     (fun b110 =>
      bindJ (S := Bool)
       (cond b110
        (obind (ref43_Part r1 0 4 false) fun r124 =>
        obind (ref43_Same n r81.1 r124) fun r127 =>
        some (.go r127))
        (some (.go false)))
      (fun b118 =>
       bindJ (S := Bool)
        (cond b118
         (obind (ref43_Part r1 3 4 false) fun r135 =>
         obind (ref43_Same n r99.1 r135) fun r138 =>
         some (.go r138))
         (some (.go false)))
       (fun b129 =>
        need (0 ≤ (0 : Int) ∧ (0 : Int) ≤ 2 ∧ 2 ≤ (r1.length : Int)) (
        obind (playlist_Spread n (r1.take ((2 : Int).toNat)) ([0, 0, 1] : List Int) ([[], ([3, 3] : List Int), ([3, 3] : List Int)] : List (List Int))) fun r147 =>
        bindJ (S := Bool)
         (cond (decide (r147.2 = 0))
          (obind (ref43_SameTimes n r147.1 ([([110, 120] : List Int), ([113, 123] : List Int), ([116, 126] : List Int)] : List (List Int))) fun r163 =>
          some (.go r163))
          (some (.go false)))
        (fun b150 =>
         obind (playlist_Text n r32) fun r165 =>
         obind (playlist_Parse n r165.1) fun r167 =>
         bindJ (S := Bool)
          (cond ((((b55 && b129) && b150) && decide (r165.2 = 0)) && decide (r167.2 = 0))
           (obind (ref43_Same n r167.1 r32) fun r190 =>
           some (.go r190))
           (some (.go false)))
         (fun b184 =>
          bindJ (S := Bool)
           (cond b184
            (obind (playlist_Lag 2 3 10) fun r198 =>
            some (.go (decide (r198 = 16))))
            (some (.go false)))
          (fun b192 =>
           bindJ (S := Bool)
            (cond b192
             (obind (playlist_Gap 2 3 10) fun r206 =>
             some (.go (decide (r206 = 1))))
             (some (.go false)))
           (fun b200 =>
            bindJ (S := Bool)
             (cond b200
              (need (0 ≤ (0 : Int) ∧ (0 : Int) ≤ 2 ∧ 2 ≤ (r1.length : Int)) (
              obind (playlist_Seen n (r1.take ((2 : Int).toNat)) ([116, 126] : List Int) 125 3) fun r216 =>
              obind (ref43_Part r1 0 1 false) fun r219 =>
              obind (ref43_Same n r216 r219) fun r222 =>
              some (.go r222)))
              (some (.go false)))
            (fun b208 =>
             some b208)))))))))))))
theorem law43_sanity_ok (n : Nat)  {r : Bool} (h : law43_sanity n = some r) :
  Meets Tryz.prog 8 [] [globA] (fun v G => v = .bool r ∧ G = []) := by
 refine fn_of_run Tryz.func8 rfl Tryz.ntmps8 rfl (fun w0 o0 => ?_)
 refine run_seq ?_
 refine run_region' ?_
 refine oy rfl rfl (y_assign rfl) ?_
 refine ops_nil ?_
 refine goes_code ?_
 refine run_seq ?_
 refine run_region' ?_
 obtain ⟨r1, hr2, h⟩ := obind_some h
 refine ot rfl rfl (t_callx (vs := [.int .i64 4]) (cs := []) [] rfl Tryz.call36 rfl (law43_segments_ok n 4  hr2) showsX_nil rfl (.inl rfl)) ?_
 rintro v3 _ ⟨_, ⟨_, rfl, rfl⟩, rfl⟩
 refine oy rfl rfl (y_assign rfl) ?_
 refine ops_nil ?_
 refine goes_code ?_
 refine run_seq ?_
 refine run_region' ?_
 refine oy rfl rfl (y_build_struct (cells := #[.int .i64 4, .slice none 0 0, .bool false]) [(0, .int .i64 4)] [(0, [.int .i64 4])] Tryz.zeroValue24 Tryz.runUnderlying24 (fs_cons Tryz.sizeOf3 (fs_cons Tryz.sizeOf22 (fs_cons Tryz.sizeOf4 fs_nil))) rfl rfl rfl) ?_
 refine ot rfl rfl (t_alloc Tryz.zeroValue24) ?_
 rintro _ _ ⟨b4, rfl, rfl⟩
 refine ot rfl rfl (t_store 2 Tryz.sizeOf24 rfl rfl rfl rfl (by simp [Value.cells, boxP]) (by simp [Value.cells, Value.oneCell', boxP])) ?_
 rintro _ _ ⟨rfl, rfl⟩
 refine ops_turn (retell 2 (g := box b4 [.int .i64 4, .slice none 0 0, .bool false]) rfl rfl) ?_
 refine ops_nil ?_
 refine goes_code ?_
 obtain ⟨o9, h, ho10⟩ := bindJ_some h
 refine run_cut ((Int × (List S_api_Segment) × Bool) × (Value)) (fun σ => [(1, v3), (2, boxP b4 0)]) (fun σ => [row v3 20 (r1.map S_api_Segment.enc), box b4 [.int .i64 σ.1.1, σ.2, .bool σ.1.2.2], ro σ.2 20 (σ.1.2.1.map S_api_Segment.enc), globA]) (fun σ => o9 = .go σ.1) (fun L12 hL11 => ?_) ?_
 ·
  refine run_seq ?_
  refine run_region' ?_
  refine oy rfl rfl (y_move rfl) ?_
  refine oy rfl rfl ((y_len 1 rfl Tryz.runUnderlying22 rfl rfl reads_row).to (v_len S_api_Segment.enc _)) ?_
  refine oy rfl rfl (y_move rfl) ?_
  refine ops_nil ?_
  refine goes_code ?_
  refine run_block ?_
  refine run_turn (nilro 20) ?_
  refine run_turn (retell 3 (g := ro (.slice none 0 0) 20 (([] : List S_api_Segment).map S_api_Segment.enc)) rfl rfl) ?_
  refine run_iter (step := law43_sanity_L1 r1) (n := n) (s0 := (0, 4, ([] : List S_api_Segment), false)) h (G := Value) (.slice none 0 0) (fun σ γ => [(27, .int .i64 σ.1), (1, v3), (2, boxP b4 0), (25, v3), (26, .int .i64 (r1.length : Int))]) (fun σ γ => [row v3 20 (r1.map S_api_Segment.enc), box b4 [.int .i64 σ.2.1, γ, .bool σ.2.2.2], ro γ 20 (σ.2.2.1.map S_api_Segment.enc), globA]) [1, 2, 3, 0] (qv5 rfl rfl rfl rfl rfl) (by decide) rfl ?_
  rintro ⟨s_13, x_14, x_15, x_16⟩ v17 o18 h L21 hgo19 hstop20
  change Run _ _ _ (VF.of [(27, .int .i64 s_13), (1, v3), (2, boxP b4 0), (25, v3), (26, .int .i64 (r1.length : Int))]) [row v3 20 (r1.map S_api_Segment.enc), box b4 [.int .i64 x_14, v17, .bool x_16], ro v17 20 (x_15.map S_api_Segment.enc), globA]
  refine run_seq ?_
  refine run_region' ?_
  refine oy rfl rfl (y_lss rfl rfl) ?_
  refine ops_nil ?_
  refine goes_code ?_
  refine run_seq ?_
  refine run_cond (decide (s_13 < (r1.length : Int))) rfl (fun hc22 => ?_) (fun hc22 => ?_)
  ·replace h := cond_t h hc22
   refine run_skip ?_
   refine goes_code ?_
   refine run_seq ?_
   refine run_block ?_
   refine run_seq ?_
   refine run_region' ?_
   obtain ⟨x23, hzx23, hlx23, hxx23, h⟩ := idx_some h
   refine oy rfl rfl (y_indexAddrI (kd := .i64) (i := s_13) 0 Tryz.runUnderlying22 Tryz.sizeOf57 rfl rfl rfl reads_row hzx23 (map_lt hlx23)) ?_
   refine oy rfl rfl (y_load_agg (i := s_13.toNat) (c := [.int .i64 x23.Num, .int .i64 x23.Begin, .int .i64 x23.Len, .int .u8 x23.Body.a0_, .int .u8 x23.Body.a1_, .int .u8 x23.Body.a2_, .int .u8 x23.Body.a3_, .int .u8 x23.Body.a4_, .int .u8 x23.Body.a5_, .int .u8 x23.Body.a6_, .int .u8 x23.Body.a7_, .int .u8 x23.Body.a8_, .int .u8 x23.Body.a9_, .int .u8 x23.Body.a10_, .int .u8 x23.Body.a11_, .int .u8 x23.Body.a12_, .int .u8 x23.Body.a13_, .int .u8 x23.Body.a14_, .int .u8 x23.Body.a15_, .int .i64 x23.Size]) 0 Tryz.isAgg57 Tryz.sizeOf57 rfl rfl reads_row (map_get hxx23)) ?_
   refine ot rfl rfl (t_alloc Tryz.zeroValue57) ?_
   rintro _ _ ⟨b24, rfl, rfl⟩
   refine ot rfl rfl (t_store 4 Tryz.sizeOf57 rfl rfl rfl rfl (by simp [Value.cells, boxP]) (by simp [Value.cells, Value.oneCell', boxP])) ?_
   rintro _ _ ⟨rfl, rfl⟩
   refine ops_turn (retell 4 (g := box b24 [.int .i64 x23.Num, .int .i64 x23.Begin, .int .i64 x23.Len, .int .u8 x23.Body.a0_, .int .u8 x23.Body.a1_, .int .u8 x23.Body.a2_, .int .u8 x23.Body.a3_, .int .u8 x23.Body.a4_, .int .u8 x23.Body.a5_, .int .u8 x23.Body.a6_, .int .u8 x23.Body.a7_, .int .u8 x23.Body.a8_, .int .u8 x23.Body.a9_, .int .u8 x23.Body.a10_, .int .u8 x23.Body.a11_, .int .u8 x23.Body.a12_, .int .u8 x23.Body.a13_, .int .u8 x23.Body.a14_, .int .u8 x23.Body.a15_, .int .i64 x23.Size]) rfl (by kernel_rfl)) ?_
   refine ops_nil ?_
   refine goes_code ?_
   refine run_seq ?_
   refine run_region' ?_
   refine oy rfl rfl (y_load_boxagg (c := [.int .i64 x_14, v17, .bool x_16]) 1 Tryz.isAgg24 Tryz.sizeOf24 rfl rfl rfl) ?_
   refine oy rfl rfl (y_load_boxagg (c := [.int .i64 x23.Num, .int .i64 x23.Begin, .int .i64 x23.Len, .int .u8 x23.Body.a0_, .int .u8 x23.Body.a1_, .int .u8 x23.Body.a2_, .int .u8 x23.Body.a3_, .int .u8 x23.Body.a4_, .int .u8 x23.Body.a5_, .int .u8 x23.Body.a6_, .int .u8 x23.Body.a7_, .int .u8 x23.Body.a8_, .int .u8 x23.Body.a9_, .int .u8 x23.Body.a10_, .int .u8 x23.Body.a11_, .int .u8 x23.Body.a12_, .int .u8 x23.Body.a13_, .int .u8 x23.Body.a14_, .int .u8 x23.Body.a15_, .int .i64 x23.Size]) 4 Tryz.isAgg57 Tryz.sizeOf57 rfl rfl rfl) ?_
   obtain ⟨r25, hr26, h⟩ := obind_some h
   refine ot rfl rfl (t_callx (vs := [.agg #[.int .i64 x_14, v17, .bool x_16], .agg #[.int .i64 x23.Num, .int .i64 x23.Begin, .int .i64 x23.Len, .int .u8 x23.Body.a0_, .int .u8 x23.Body.a1_, .int .u8 x23.Body.a2_, .int .u8 x23.Body.a3_, .int .u8 x23.Body.a4_, .int .u8 x23.Body.a5_, .int .u8 x23.Body.a6_, .int .u8 x23.Body.a7_, .int .u8 x23.Body.a8_, .int .u8 x23.Body.a9_, .int .u8 x23.Body.a10_, .int .u8 x23.Body.a11_, .int .u8 x23.Body.a12_, .int .u8 x23.Body.a13_, .int .u8 x23.Body.a14_, .int .u8 x23.Body.a15_, .int .i64 x23.Size], .int .i64 3]) (cs := []) [(2, 0)] rfl Tryz.call33 rfl (playlist_Push_v1_ok (S_api_Playlist.mk x_14 x_15 x_16) x23 3 v17 hr26) (showsX_view 2 rfl views_ro showsX_nil) rfl (.inl rfl)) ?_
   rintro _ _ ⟨_, ⟨v27, rfl, rfl⟩, rfl⟩
   refine oy rfl rfl (y_move rfl) ?_
   refine oy rfl rfl (y_extract rfl rfl) ?_
   refine oy rfl rfl (y_extract rfl rfl) ?_
   refine ot rfl rfl (t_alloc Tryz.zeroValue24) ?_
   rintro _ _ ⟨b28, rfl, rfl⟩
   refine ops_slc 5 rfl reads_ro (fun hs29 hs29o => ?_)
   refine ot rfl rfl (t_store 6 Tryz.sizeOf24 rfl rfl rfl rfl (by simp [Value.cells, boxP]) (allL_cons rfl (allL_cons hs29o (allL_cons rfl (allL_nil))))) ?_
   rintro _ _ ⟨rfl, rfl⟩
   refine ops_turn (retell 6 (g := box b28 [.int .i64 r25.1.First, v27, .bool r25.1.Done]) rfl rfl) ?_
   refine oy rfl rfl (y_assign rfl) ?_
   refine ops_nil ?_
   refine goes_code ?_
   refine run_seq ?_
   refine run_seq ?_
   refine run_weak [(27, .int .i64 s_13), (1, v3), (2, boxP b4 0), (25, v3), (26, .int .i64 (r1.length : Int)), (5, boxP b28 0), (6, .int .i64 r25.2)] [0, 1, 2, 3, 5, 6] [row v3 20 (r1.map S_api_Segment.enc), box b4 [.int .i64 x_14, v17, .bool x_16], ro v17 20 (x_15.map S_api_Segment.enc), globA, ro v27 20 (r25.1.L.map S_api_Segment.enc), box b28 [.int .i64 r25.1.First, v27, .bool r25.1.Done]] (qv7 rfl rfl rfl rfl rfl rfl rfl) (by decide) rfl ?_
   refine run_region' ?_
   refine oy rfl rfl (y_move rfl) ?_
   refine oy rfl rfl (y_neq rfl rfl) ?_
   refine ops_nil ?_
   refine goes_code ?_
   refine run_cond (decide (r25.2 ≠ 0)) rfl (fun hc30 => ?_) (fun hc30 => ?_)
   ·replace h := cond_t h hc30
    refine run_seq ?_
    refine run_region' ?_
    refine oy rfl rfl (y_assign rfl) ?_
    refine ops_nil ?_
    refine goes_code ?_
    refine run_ret ?_
    obtain rfl := some_eq h
    obtain rfl := hstop20 _ rfl
    skip
    obtain rfl := after_stop ho10
    refine fin_slots [0] [.bool false] [] [] Tryz.results8 rfl (by decide) rfl ?_
    exact ⟨rfl, rfl⟩
   ·replace h := cond_f h hc30
    refine run_skip ?_
    refine goes_code ?_
    refine run_region' ?_
    refine oy rfl rfl (y_load_boxagg (c := [.int .i64 r25.1.First, v27, .bool r25.1.Done]) 5 Tryz.isAgg24 Tryz.sizeOf24 rfl rfl rfl) ?_
    refine ops_slc 4 rfl reads_ro (fun hs31 hs31o => ?_)
    refine ot rfl rfl (t_store 1 Tryz.sizeOf24 rfl rfl rfl rfl (by simp [Value.cells, boxP]) (allL_cons rfl (allL_cons hs31o (allL_cons rfl (allL_nil))))) ?_
    rintro _ _ ⟨rfl, rfl⟩
    refine ops_turn (retell 1 (g := box b4 [.int .i64 r25.1.First, v27, .bool r25.1.Done]) rfl rfl) ?_
    refine ops_nil ?_
    refine goes_blk ?_
    refine goes_code ?_
    refine run_region' ?_
    refine oy rfl rfl (y_add rfl rfl) ?_
    refine oy rfl rfl (y_move rfl) ?_
    refine ops_nil ?_
    obtain rfl := some_eq h
    exact goes_iter hgo19 ((IntKind.i64.wrap (s_13 + 1)), r25.1.First, r25.1.L, r25.1.Done) v27 [0, 1, 4, 3] rfl (qv5 rfl rfl rfl rfl rfl) (by decide) rfl
  ·replace h := cond_f h hc22
   refine run_exit _ rfl ?_
   obtain rfl := some_eq h
   obtain rfl := hstop20 _ rfl
   exact goes_cut hL11 ((x_14, x_15, x_16), v17) [0, 1, 2, 3] (qv2 rfl rfl) (by decide) rfl rfl
 rintro ⟨⟨x_5, x_6, x_7⟩, v8⟩ hj
 obtain rfl : o9 = _ := hj
 replace h := after_go ho10
 clear ho10
 change Run _ _ _ (VF.of [(1, v3), (2, boxP b4 0)]) [row v3 20 (r1.map S_api_Segment.enc), box b4 [.int .i64 x_5, v8, .bool x_7], ro v8 20 (x_6.map S_api_Segment.enc), globA]
 refine run_seq ?_
 refine run_region' ?_
 refine oy rfl rfl (y_move rfl) ?_
 obtain ⟨r32, hr33, h⟩ := obind_some h
 refine ot rfl rfl (t_callx (vs := [v3, .int .i64 1, .int .i64 4, .bool false]) (cs := []) [(0, 1)] rfl Tryz.call37 rfl (ref43_Part_ok r1 1 4 false v3 hr33) (showsX_look 0 rfl views_row showsX_nil) rfl (.inr (by rintro _ _ ⟨_, rfl, rfl⟩ g hg; first | (cases hg; done) | (simp only [List.mem_cons, List.not_mem_nil, or_false] at hg; first | (subst hg; first | exact strict_row | exact strict_box) | (rcases hg with rfl | rfl <;> first | exact strict_row | exact strict_box) | (rcases hg with rfl | rfl | rfl <;> first | exact strict_row | exact strict_box))))) ?_
 rintro _ _ ⟨_, ⟨v34, rfl, rfl⟩, rfl⟩
 refine ot rfl rfl (t_alloc Tryz.zeroValue24) ?_
 rintro _ _ ⟨b35, rfl, rfl⟩
 refine ops_slc 4 rfl reads_row (fun hs36 hs36o => ?_)
 refine ot rfl rfl (t_store 5 Tryz.sizeOf24 rfl rfl rfl rfl (by simp [Value.cells, boxP]) (allL_cons rfl (allL_cons hs36o (allL_cons rfl (allL_nil))))) ?_
 rintro _ _ ⟨rfl, rfl⟩
 refine ops_turn (retell 5 (g := box b35 [.int .i64 r32.First, v34, .bool r32.Done]) rfl rfl) ?_
 refine ops_nil ?_
 refine goes_code ?_
 refine run_seq ?_
 refine run_region' ?_
 refine oy rfl rfl (y_load_boxagg (c := [.int .i64 x_5, v8, .bool x_7]) 1 Tryz.isAgg24 Tryz.sizeOf24 rfl rfl rfl) ?_
 refine oy rfl rfl (y_load_boxagg (c := [.int .i64 r32.First, v34, .bool r32.Done]) 5 Tryz.isAgg24 Tryz.sizeOf24 rfl rfl rfl) ?_
 obtain ⟨r37, hr38, h⟩ := obind_some h
 refine ot rfl rfl (t_callx (vs := [.agg #[.int .i64 x_5, v8, .bool x_7], .agg #[.int .i64 r32.First, v34, .bool r32.Done]]) (cs := []) [(2, 0), (4, 1)] rfl Tryz.call11 rfl (ref43_Same_ok n (S_api_Playlist.mk x_5 x_6 x_7) r32 v8 v34 hr38) (showsX_view 2 rfl views_ro (showsX_look 4 rfl views_row showsX_nil)) rfl (.inr (by rintro _ _ ⟨rfl, rfl⟩ g hg; first | (cases hg; done) | (simp only [List.mem_cons, List.not_mem_nil, or_false] at hg; first | (subst hg; first | exact strict_row | exact strict_box) | (rcases hg with rfl | rfl <;> first | exact strict_row | exact strict_box) | (rcases hg with rfl | rfl | rfl <;> first | exact strict_row | exact strict_box))))) ?_
 rintro _ _ ⟨_, ⟨rfl, rfl⟩, rfl⟩
 refine oy rfl rfl (y_move rfl) ?_
 obtain ⟨o40, h, ho41⟩ := bindJ_some h
 refine ops_cut 4 (Bool) (fun σ => [(1, v3), (2, boxP b4 0), (7, boxP b35 0), (50, .bool σ)]) (fun σ => [row v3 20 (r1.map S_api_Segment.enc), box b4 [.int .i64 x_5, v8, .bool x_7], ro v8 20 (x_6.map S_api_Segment.enc), globA, row v34 20 (r32.L.map S_api_Segment.enc), box b35 [.int .i64 r32.First, v34, .bool r32.Done]]) (fun σ => o40 = .go σ) (fun L42 hL43 => ?_) ?_
 ·refine ops_split 46 r37 rfl (fun hg44 => ?_) (fun hg44 => ?_)
  ·replace h := cond_t h hg44
   refine ops_y (wg 3 true 46 rfl rfl rfl rfl) rfl (y_load_boxagg (c := [.int .i64 x_5, v8, .bool x_7]) 1 Tryz.isAgg24 Tryz.sizeOf24 rfl rfl rfl) ?_
   obtain ⟨r45, hr46, h⟩ := obind_some h
   refine ops_t (wg 3 true 46 rfl rfl rfl rfl) rfl (t_callx (vs := [.agg #[.int .i64 x_5, v8, .bool x_7]]) (cs := []) [(2, 0)] rfl Tryz.call27 rfl (playlist_Next_ok (S_api_Playlist.mk x_5 x_6 x_7) v8 hr46) (showsX_view 2 rfl views_ro showsX_nil) rfl (.inl rfl)) ?_
   rintro _ _ ⟨_, ⟨rfl, rfl⟩, rfl⟩
   refine ops_y (wg 3 true 46 rfl rfl rfl rfl) rfl (y_eql rfl rfl) ?_
   refine oy rfl rfl (y_pick (b := true) rfl rfl) ?_
   refine ops_nil ?_
   obtain rfl := some_eq h
   exact goes_cut hL43 (decide (r45 = 8)) [0, 1, 2, 3, 4, 5] (qv4 rfl rfl rfl rfl) (by decide) rfl rfl
  ·replace h := cond_f h hg44
   refine ops_no 3 true 46 rfl rfl rfl rfl rfl ?_
   refine ops_no 3 true 46 rfl rfl rfl rfl rfl ?_
   refine ops_no 3 true 46 rfl rfl rfl rfl rfl ?_
   refine oy rfl rfl (y_pick (b := false) rfl rfl) ?_
   refine ops_nil ?_
   obtain rfl := some_eq h
   exact goes_cut hL43 false [0, 1, 2, 3, 4, 5] (qv4 rfl rfl rfl rfl) (by decide) rfl rfl
 rintro b39 hj
 obtain rfl : o40 = _ := hj
 replace h := after_go ho41
 clear ho41
 refine oy rfl rfl (y_move rfl) ?_
 obtain ⟨o48, h, ho49⟩ := bindJ_some h
 refine ops_cut 4 (Bool) (fun σ => [(1, v3), (2, boxP b4 0), (7, boxP b35 0), (55, .bool σ)]) (fun σ => [row v3 20 (r1.map S_api_Segment.enc), box b4 [.int .i64 x_5, v8, .bool x_7], ro v8 20 (x_6.map S_api_Segment.enc), globA, row v34 20 (r32.L.map S_api_Segment.enc), box b35 [.int .i64 r32.First, v34, .bool r32.Done]]) (fun σ => o48 = .go σ) (fun L50 hL51 => ?_) ?_
 ·refine ops_split 51 b39 rfl (fun hg52 => ?_) (fun hg52 => ?_)
  ·replace h := cond_t h hg52
   refine ops_y (wg 8 true 51 rfl rfl rfl rfl) rfl (y_load_boxagg (c := [.int .i64 x_5, v8, .bool x_7]) 1 Tryz.isAgg24 Tryz.sizeOf24 rfl rfl rfl) ?_
   obtain ⟨r53, hr54, h⟩ := obind_some h
   refine ops_t (wg 8 true 51 rfl rfl rfl rfl) rfl (t_callx (vs := [.agg #[.int .i64 x_5, v8, .bool x_7]]) (cs := []) [(2, 0)] rfl Tryz.call29 rfl (playlist_Edge_ok (S_api_Playlist.mk x_5 x_6 x_7) v8 hr54) (showsX_view 2 rfl views_ro showsX_nil) rfl (.inl rfl)) ?_
   rintro _ _ ⟨_, ⟨rfl, rfl⟩, rfl⟩
   refine ops_y (wg 8 true 51 rfl rfl rfl rfl) rfl (y_eql rfl rfl) ?_
   refine oy rfl rfl (y_pick (b := true) rfl rfl) ?_
   refine ops_nil ?_
   obtain rfl := some_eq h
   exact goes_cut hL51 (decide (r53 = 140)) [0, 1, 2, 3, 4, 5] (qv4 rfl rfl rfl rfl) (by decide) rfl rfl
  ·replace h := cond_f h hg52
   refine ops_no 8 true 51 rfl rfl rfl rfl rfl ?_
   refine ops_no 8 true 51 rfl rfl rfl rfl rfl ?_
   refine ops_no 8 true 51 rfl rfl rfl rfl rfl ?_
   refine oy rfl rfl (y_pick (b := false) rfl rfl) ?_
   refine ops_nil ?_
   obtain rfl := some_eq h
   exact goes_cut hL51 false [0, 1, 2, 3, 4, 5] (qv4 rfl rfl rfl rfl) (by decide) rfl rfl
 rintro b47 hj
 obtain rfl : o48 = _ := hj
 replace h := after_go ho49
 clear ho49
 refine oy rfl rfl (y_move rfl) ?_
 obtain ⟨o56, h, ho57⟩ := bindJ_some h
 refine ops_cut 3 (Bool) (fun σ => [(1, v3), (7, boxP b35 0), (59, .bool σ)]) (fun σ => [row v3 20 (r1.map S_api_Segment.enc), globA, row v34 20 (r32.L.map S_api_Segment.enc), box b35 [.int .i64 r32.First, v34, .bool r32.Done]]) (fun σ => o56 = .go σ) (fun L58 hL59 => ?_) ?_
 ·refine ops_split 56 b47 rfl (fun hg60 => ?_) (fun hg60 => ?_)
  ·replace h := cond_t h hg60
   refine ops_y (wg 13 true 56 rfl rfl rfl rfl) rfl (y_load_boxagg (c := [.int .i64 x_5, v8, .bool x_7]) 1 Tryz.isAgg24 Tryz.sizeOf24 rfl rfl rfl) ?_
   obtain ⟨r61, hr62, h⟩ := obind_some h
   refine ops_t (wg 13 true 56 rfl rfl rfl rfl) rfl (t_callx (vs := [.agg #[.int .i64 x_5, v8, .bool x_7]]) (cs := []) [(2, 0)] rfl Tryz.call22 rfl (playlist_Valid_ok n (S_api_Playlist.mk x_5 x_6 x_7) v8 hr62) (showsX_view 2 rfl views_ro showsX_nil) rfl (.inl rfl)) ?_
   rintro _ _ ⟨_, ⟨rfl, rfl⟩, rfl⟩
   refine oy rfl rfl (y_pick (b := true) rfl rfl) ?_
   refine ops_nil ?_
   obtain rfl := some_eq h
   exact goes_cut hL59 r61 [0, 3, 4, 5] (qv3 rfl rfl rfl) (by decide) rfl rfl
  ·replace h := cond_f h hg60
   refine ops_no 13 true 56 rfl rfl rfl rfl rfl ?_
   refine ops_no 13 true 56 rfl rfl rfl rfl rfl ?_
   refine oy rfl rfl (y_pick (b := false) rfl rfl) ?_
   refine ops_nil ?_
   obtain rfl := some_eq h
   exact goes_cut hL59 false [0, 3, 4, 5] (qv3 rfl rfl rfl) (by decide) rfl rfl
 rintro b55 hj
 obtain rfl : o56 = _ := hj
 replace h := after_go ho57
 clear ho57
 refine oy rfl rfl (y_assign rfl) ?_
 refine ops_nil ?_
 refine goes_code ?_
 refine run_seq ?_
 obtain ⟨r63, hr64, h⟩ := obind_some h
 obtain ⟨r66, hr67, h⟩ := obind_some h
 refine run_drawany [row v3 20 (r1.map S_api_Segment.enc), globA, HA.emp, box b35 [.int .i64 r32.First, v34, .bool r32.Done]] (by kernel_rfl) ?_
 refine any_y 0 rfl (by kernel_rfl) (by kernel_rfl) (by kernel_rfl) (ss (ss (se (ss (sn))))) (wn rfl) rfl (y_move rfl) ?_
 refine any_y 2 rfl (by kernel_rfl) (by kernel_rfl) (by kernel_rfl) (ss (ss (se (ss (sn))))) (wn rfl) rfl (y_load_boxagg (c := [.int .i64 r32.First, v34, .bool r32.Done]) 3 Tryz.isAgg24 Tryz.sizeOf24 rfl rfl rfl) ?_
 refine any_cut2 #[true, true, true, true, true, true, true, true, true, true] 0 (Nat × Value × Value) (fun σ => [(1, v3), (7, boxP b35 0), (8, .bool b55), (9, boxP σ.1 0), (10, .int .i64 r66.2)]) (fun σ => [row v3 20 (r1.map S_api_Segment.enc), globA, ro v34 20 (r32.L.map S_api_Segment.enc), box b35 [.int .i64 r32.First, v34, .bool r32.Done], ro σ.2.1 20 (r63.L.map S_api_Segment.enc), ro σ.2.2 20 (r66.1.L.map S_api_Segment.enc), box σ.1 [.int .i64 r66.1.First, σ.2.2, .bool r66.1.Done]]) ?_ (fun hK77 => ?_)
 ·rintro ⟨b75, v71, v73⟩
  change AnyL _ _ _ _ _ (VF.of [(1, v3), (7, boxP b35 0), (8, .bool b55), (9, boxP b75 0), (10, .int .i64 r66.2)]) [row v3 20 (r1.map S_api_Segment.enc), globA, ro v34 20 (r32.L.map S_api_Segment.enc), box b35 [.int .i64 r32.First, v34, .bool r32.Done], ro v71 20 (r63.L.map S_api_Segment.enc), ro v73 20 (r66.1.L.map S_api_Segment.enc), box b75 [.int .i64 r66.1.First, v73, .bool r66.1.Done]] _
  refine any_nil (by kernel_rfl) ?_
  refine goes_code ?_
  refine run_seq ?_
  obtain ⟨r78, hr79, h⟩ := obind_some h
  obtain ⟨r81, hr82, h⟩ := obind_some h
  refine run_drawany [row v3 20 (r1.map S_api_Segment.enc), globA, ro v34 20 (r32.L.map S_api_Segment.enc), box b35 [.int .i64 r32.First, v34, .bool r32.Done], ro v71 20 (r63.L.map S_api_Segment.enc), ro v73 20 (r66.1.L.map S_api_Segment.enc), box b75 [.int .i64 r66.1.First, v73, .bool r66.1.Done]] (by kernel_rfl) ?_
  refine any_y 0 rfl (by kernel_rfl) (by kernel_rfl) (by kernel_rfl) (ss (ss (ss (ss (ss (ss (ss (sn)))))))) (wn rfl) rfl (y_move rfl) ?_
  refine any_y 2 rfl (by kernel_rfl) (by kernel_rfl) (by kernel_rfl) (ss (ss (ss (ss (ss (ss (ss (sn)))))))) (wn rfl) rfl (y_load_boxagg (c := [.int .i64 r32.First, v34, .bool r32.Done]) 3 Tryz.isAgg24 Tryz.sizeOf24 rfl rfl rfl) ?_
  refine any_cut2 #[true, true, true, true, true, true, true, true, true, true] 0 (Nat × Value × Value) (fun σ => [(1, v3), (7, boxP b35 0), (8, .bool b55), (9, boxP b75 0), (10, .int .i64 r66.2), (11, boxP σ.1 0), (12, .int .i64 r81.2)]) (fun σ => [row v3 20 (r1.map S_api_Segment.enc), globA, ro v34 20 (r32.L.map S_api_Segment.enc), box b35 [.int .i64 r32.First, v34, .bool r32.Done], ro v71 20 (r63.L.map S_api_Segment.enc), ro v73 20 (r66.1.L.map S_api_Segment.enc), box b75 [.int .i64 r66.1.First, v73, .bool r66.1.Done], ro σ.2.1 20 (r78.L.map S_api_Segment.enc), ro σ.2.2 20 (r81.1.L.map S_api_Segment.enc), box σ.1 [.int .i64 r81.1.First, σ.2.2, .bool r81.1.Done]]) ?_ (fun hK92 => ?_)
  ·rintro ⟨b90, v86, v88⟩
   change AnyL _ _ _ _ _ (VF.of [(1, v3), (7, boxP b35 0), (8, .bool b55), (9, boxP b75 0), (10, .int .i64 r66.2), (11, boxP b90 0), (12, .int .i64 r81.2)]) [row v3 20 (r1.map S_api_Segment.enc), globA, ro v34 20 (r32.L.map S_api_Segment.enc), box b35 [.int .i64 r32.First, v34, .bool r32.Done], ro v71 20 (r63.L.map S_api_Segment.enc), ro v73 20 (r66.1.L.map S_api_Segment.enc), box b75 [.int .i64 r66.1.First, v73, .bool r66.1.Done], ro v86 20 (r78.L.map S_api_Segment.enc), ro v88 20 (r81.1.L.map S_api_Segment.enc), box b90 [.int .i64 r81.1.First, v88, .bool r81.1.Done]] _
   refine any_nil (by kernel_rfl) ?_
   refine goes_code ?_
   refine run_seq ?_
   refine run_region' ?_
   refine oy rfl rfl (y_move rfl) ?_
   obtain ⟨r93, hr94, h⟩ := obind_some h
   refine ot rfl rfl (t_callx (vs := [v3, .int .i64 0, .int .i64 2, .bool false]) (cs := []) [(0, 1)] rfl Tryz.call37 rfl (ref43_Part_ok r1 0 2 false v3 hr94) (showsX_look 0 rfl views_row showsX_nil) rfl (.inr (by rintro _ _ ⟨_, rfl, rfl⟩ g hg; first | (cases hg; done) | (simp only [List.mem_cons, List.not_mem_nil, or_false] at hg; first | (subst hg; first | exact strict_row | exact strict_box) | (rcases hg with rfl | rfl <;> first | exact strict_row | exact strict_box) | (rcases hg with rfl | rfl | rfl <;> first | exact strict_row | exact strict_box))))) ?_
   rintro _ _ ⟨_, ⟨v95, rfl, rfl⟩, rfl⟩
   refine oy rfl rfl (y_move rfl) ?_
   obtain ⟨r96, hr97, h⟩ := obind_some h
   refine ot rfl rfl (t_callx (vs := [v3, .int .i64 3, .int .i64 4, .bool false]) (cs := []) [(0, 1)] rfl Tryz.call37 rfl (ref43_Part_ok r1 3 4 false v3 hr97) (showsX_look 0 rfl views_row showsX_nil) rfl (.inr (by rintro _ _ ⟨_, rfl, rfl⟩ g hg; first | (cases hg; done) | (simp only [List.mem_cons, List.not_mem_nil, or_false] at hg; first | (subst hg; first | exact strict_row | exact strict_box) | (rcases hg with rfl | rfl <;> first | exact strict_row | exact strict_box) | (rcases hg with rfl | rfl | rfl <;> first | exact strict_row | exact strict_box))))) ?_
   rintro _ _ ⟨_, ⟨v98, rfl, rfl⟩, rfl⟩
   refine ops_turn (Go.Abs.freeze 10 rfl) ?_
   refine ops_turn (Go.Abs.freeze 11 rfl) ?_
   obtain ⟨r99, hr100, h⟩ := obind_some h
   refine ot rfl rfl (t_callx (vs := [.agg #[.int .i64 r93.First, v95, .bool r93.Done], .agg #[.int .i64 r96.First, v98, .bool r96.Done], .int .i64 3]) (cs := []) [(10, 0), (11, 0)] rfl Tryz.call9 rfl (playlist_Merge_ok n r93 r96 3 v95 v98 hr100) (showsX_view 10 rfl views_ro (showsX_view 11 rfl views_ro showsX_nil)) rfl (.inl rfl)) ?_
   rintro _ _ ⟨_, ⟨v101, rfl, rfl⟩, rfl⟩
   refine oy rfl rfl (y_move rfl) ?_
   refine oy rfl rfl (y_extract rfl rfl) ?_
   refine oy rfl rfl (y_extract rfl rfl) ?_
   refine ot rfl rfl (t_alloc Tryz.zeroValue24) ?_
   rintro _ _ ⟨b102, rfl, rfl⟩
   refine ops_slc 12 rfl reads_ro (fun hs103 hs103o => ?_)
   refine ot rfl rfl (t_store 13 Tryz.sizeOf24 rfl rfl rfl rfl (by simp [Value.cells, boxP]) (allL_cons rfl (allL_cons hs103o (allL_cons rfl (allL_nil))))) ?_
   rintro _ _ ⟨rfl, rfl⟩
   refine ops_turn (retell 13 (g := box b102 [.int .i64 r99.1.First, v101, .bool r99.1.Done]) rfl rfl) ?_
   refine oy rfl rfl (y_assign rfl) ?_
   refine ops_nil ?_
   refine goes_code ?_
   refine run_seq ?_
   refine run_weak [(1, v3), (7, boxP b35 0), (8, .bool b55), (9, boxP b75 0), (10, .int .i64 r66.2), (11, boxP b90 0), (12, .int .i64 r81.2), (13, boxP b102 0), (14, .int .i64 r99.2)] [0, 1, 2, 3, 5, 6, 8, 9, 12, 13] [row v3 20 (r1.map S_api_Segment.enc), globA, ro v34 20 (r32.L.map S_api_Segment.enc), box b35 [.int .i64 r32.First, v34, .bool r32.Done], ro v73 20 (r66.1.L.map S_api_Segment.enc), box b75 [.int .i64 r66.1.First, v73, .bool r66.1.Done], ro v88 20 (r81.1.L.map S_api_Segment.enc), box b90 [.int .i64 r81.1.First, v88, .bool r81.1.Done], ro v101 20 (r99.1.L.map S_api_Segment.enc), box b102 [.int .i64 r99.1.First, v101, .bool r99.1.Done]] (qv9 rfl rfl rfl rfl rfl rfl rfl rfl rfl) (by decide) rfl ?_
   refine run_drawany [row v3 20 (r1.map S_api_Segment.enc), globA, ro v34 20 (r32.L.map S_api_Segment.enc), box b35 [.int .i64 r32.First, v34, .bool r32.Done], ro v73 20 (r66.1.L.map S_api_Segment.enc), box b75 [.int .i64 r66.1.First, v73, .bool r66.1.Done], ro v88 20 (r81.1.L.map S_api_Segment.enc), box b90 [.int .i64 r81.1.First, v88, .bool r81.1.Done], ro v101 20 (r99.1.L.map S_api_Segment.enc), box b102 [.int .i64 r99.1.First, v101, .bool r99.1.Done]] (by kernel_rfl) ?_
   refine any_y 0 rfl (by kernel_rfl) (by kernel_rfl) (by kernel_rfl) (ss (ss (ss (ss (ss (ss (ss (ss (ss (ss (sn))))))))))) (wn rfl) rfl (y_move rfl) ?_
   refine any_y 1 rfl (by kernel_rfl) (by kernel_rfl) (by kernel_rfl) (ss (ss (ss (ss (ss (ss (ss (ss (ss (ss (sn))))))))))) (wn rfl) rfl (y_eql rfl rfl) ?_
   refine any_y 2 rfl (by kernel_rfl) (by kernel_rfl) (by kernel_rfl) (ss (ss (ss (ss (ss (ss (ss (ss (ss (ss (sn))))))))))) (wn rfl) rfl (y_move rfl) ?_
   refine any_cut #[true, true, true, true, true, true, false, false, false, false, false, false, false, false, false, false, false, false, false, false, false, false, false, false, false, false, false, false] 22 Bool (fun σ => [(1, v3), (7, boxP b35 0), (8, .bool b55), (9, boxP b75 0), (11, boxP b90 0), (13, boxP b102 0), (14, .int .i64 r99.2), (87, .bool σ)]) (fun σ => [row v3 20 (r1.map S_api_Segment.enc), globA, ro v34 20 (r32.L.map S_api_Segment.enc), box b35 [.int .i64 r32.First, v34, .bool r32.Done], ro v73 20 (r66.1.L.map S_api_Segment.enc), box b75 [.int .i64 r66.1.First, v73, .bool r66.1.Done], ro v88 20 (r81.1.L.map S_api_Segment.enc), box b90 [.int .i64 r81.1.First, v88, .bool r81.1.Done], ro v101 20 (r99.1.L.map S_api_Segment.enc), box b102 [.int .i64 r99.1.First, v101, .bool r99.1.Done]]) (fun σ => σ = (decide (r66.2 = 0) && decide (r81.2 = 0))) (fun hL105 => ?_) ?_
   ·refine any_split 84 (decide (r66.2 = 0)) rfl (fun hg106 => ?_) (fun hg106 => ?_)
    ·skip
     refine any_y 3 rfl (by kernel_rfl) (by kernel_rfl) (by kernel_rfl) (ss (ss (ss (ss (ss (ss (ss (ss (ss (ss (sn))))))))))) (wg 2 true 84 rfl rfl rfl rfl) rfl (y_move rfl) ?_
     refine any_y 4 rfl (by kernel_rfl) (by kernel_rfl) (by kernel_rfl) (ss (ss (ss (ss (ss (ss (ss (ss (ss (ss (sn))))))))))) (wg 2 true 84 rfl rfl rfl rfl) rfl (y_eql rfl rfl) ?_
     refine any_y 5 rfl (by kernel_rfl) (by kernel_rfl) (by kernel_rfl) (ss (ss (ss (ss (ss (ss (ss (ss (ss (ss (sn))))))))))) (wn rfl) rfl (y_pick (b := true) rfl rfl) ?_
     exact any_weak [(1, v3), (7, boxP b35 0), (8, .bool b55), (9, boxP b75 0), (11, boxP b90 0), (13, boxP b102 0), (14, .int .i64 r99.2), (87, .bool (decide (r81.2 = 0)))] [0, 1, 2, 3, 4, 5, 6, 7, 8, 9] [row v3 20 (r1.map S_api_Segment.enc), globA, ro v34 20 (r32.L.map S_api_Segment.enc), box b35 [.int .i64 r32.First, v34, .bool r32.Done], ro v73 20 (r66.1.L.map S_api_Segment.enc), box b75 [.int .i64 r66.1.First, v73, .bool r66.1.Done], ro v88 20 (r81.1.L.map S_api_Segment.enc), box b90 [.int .i64 r81.1.First, v88, .bool r81.1.Done], ro v101 20 (r99.1.L.map S_api_Segment.enc), box b102 [.int .i64 r99.1.First, v101, .bool r99.1.Done]] (by kernel_rfl) (qv8 rfl rfl rfl rfl rfl rfl rfl rfl) (by decide) rfl (hL105 (decide (r81.2 = 0)) (by rw [hg106]; simp))
    ·skip
     refine any_no 3 rfl (by kernel_rfl) (by kernel_rfl) (by kernel_rfl) (ss (ss (ss (ss (ss (ss (ss (ss (ss (ss (sn))))))))))) 2 true 84 rfl rfl rfl rfl rfl ?_
     refine any_no 4 rfl (by kernel_rfl) (by kernel_rfl) (by kernel_rfl) (ss (ss (ss (ss (ss (ss (ss (ss (ss (ss (sn))))))))))) 2 true 84 rfl rfl rfl rfl rfl ?_
     refine any_y 5 rfl (by kernel_rfl) (by kernel_rfl) (by kernel_rfl) (ss (ss (ss (ss (ss (ss (ss (ss (ss (ss (sn))))))))))) (wn rfl) rfl (y_pick (b := false) rfl rfl) ?_
     exact any_weak [(1, v3), (7, boxP b35 0), (8, .bool b55), (9, boxP b75 0), (11, boxP b90 0), (13, boxP b102 0), (14, .int .i64 r99.2), (87, .bool false)] [0, 1, 2, 3, 4, 5, 6, 7, 8, 9] [row v3 20 (r1.map S_api_Segment.enc), globA, ro v34 20 (r32.L.map S_api_Segment.enc), box b35 [.int .i64 r32.First, v34, .bool r32.Done], ro v73 20 (r66.1.L.map S_api_Segment.enc), box b75 [.int .i64 r66.1.First, v73, .bool r66.1.Done], ro v88 20 (r81.1.L.map S_api_Segment.enc), box b90 [.int .i64 r81.1.First, v88, .bool r81.1.Done], ro v101 20 (r99.1.L.map S_api_Segment.enc), box b102 [.int .i64 r99.1.First, v101, .bool r99.1.Done]] (by kernel_rfl) (qv8 rfl rfl rfl rfl rfl rfl rfl rfl) (by decide) rfl (hL105 false (by rw [hg106]; simp))
   rintro _ rfl
   refine any_y 6 rfl (by kernel_rfl) (by kernel_rfl) (by kernel_rfl) (ss (ss (ss (ss (ss (ss (ss (ss (ss (ss (sn))))))))))) (wn rfl) rfl (y_move rfl) ?_
   refine any_cut #[true, true, true, true, true, true, true, true, true, true, false, false, false, false, false, false, false, false, false, false, false, false, false, false, false, false, false, false] 18 Bool (fun σ => [(1, v3), (7, boxP b35 0), (8, .bool b55), (9, boxP b75 0), (11, boxP b90 0), (13, boxP b102 0), (91, .bool σ)]) (fun σ => [row v3 20 (r1.map S_api_Segment.enc), globA, ro v34 20 (r32.L.map S_api_Segment.enc), box b35 [.int .i64 r32.First, v34, .bool r32.Done], ro v73 20 (r66.1.L.map S_api_Segment.enc), box b75 [.int .i64 r66.1.First, v73, .bool r66.1.Done], ro v88 20 (r81.1.L.map S_api_Segment.enc), box b90 [.int .i64 r81.1.First, v88, .bool r81.1.Done], ro v101 20 (r99.1.L.map S_api_Segment.enc), box b102 [.int .i64 r99.1.First, v101, .bool r99.1.Done]]) (fun σ => σ = ((decide (r66.2 = 0) && decide (r81.2 = 0)) && decide (r99.2 = 0))) (fun hL108 => ?_) ?_
   ·refine any_split 88 (decide (r66.2 = 0) && decide (r81.2 = 0)) rfl (fun hg109 => ?_) (fun hg109 => ?_)
    ·skip
     refine any_y 7 rfl (by kernel_rfl) (by kernel_rfl) (by kernel_rfl) (ss (ss (ss (ss (ss (ss (ss (ss (ss (ss (sn))))))))))) (wg 6 true 88 rfl rfl rfl rfl) rfl (y_move rfl) ?_
     refine any_y 8 rfl (by kernel_rfl) (by kernel_rfl) (by kernel_rfl) (ss (ss (ss (ss (ss (ss (ss (ss (ss (ss (sn))))))))))) (wg 6 true 88 rfl rfl rfl rfl) rfl (y_eql rfl rfl) ?_
     refine any_y 9 rfl (by kernel_rfl) (by kernel_rfl) (by kernel_rfl) (ss (ss (ss (ss (ss (ss (ss (ss (ss (ss (sn))))))))))) (wn rfl) rfl (y_pick (b := true) rfl rfl) ?_
     exact any_weak [(1, v3), (7, boxP b35 0), (8, .bool b55), (9, boxP b75 0), (11, boxP b90 0), (13, boxP b102 0), (91, .bool (decide (r99.2 = 0)))] [0, 1, 2, 3, 4, 5, 6, 7, 8, 9] [row v3 20 (r1.map S_api_Segment.enc), globA, ro v34 20 (r32.L.map S_api_Segment.enc), box b35 [.int .i64 r32.First, v34, .bool r32.Done], ro v73 20 (r66.1.L.map S_api_Segment.enc), box b75 [.int .i64 r66.1.First, v73, .bool r66.1.Done], ro v88 20 (r81.1.L.map S_api_Segment.enc), box b90 [.int .i64 r81.1.First, v88, .bool r81.1.Done], ro v101 20 (r99.1.L.map S_api_Segment.enc), box b102 [.int .i64 r99.1.First, v101, .bool r99.1.Done]] (by kernel_rfl) (qv7 rfl rfl rfl rfl rfl rfl rfl) (by decide) rfl (hL108 (decide (r99.2 = 0)) (by rw [hg109]; simp))
    ·skip
     refine any_no 7 rfl (by kernel_rfl) (by kernel_rfl) (by kernel_rfl) (ss (ss (ss (ss (ss (ss (ss (ss (ss (ss (sn))))))))))) 6 true 88 rfl rfl rfl rfl rfl ?_
     refine any_no 8 rfl (by kernel_rfl) (by kernel_rfl) (by kernel_rfl) (ss (ss (ss (ss (ss (ss (ss (ss (ss (ss (sn))))))))))) 6 true 88 rfl rfl rfl rfl rfl ?_
     refine any_y 9 rfl (by kernel_rfl) (by kernel_rfl) (by kernel_rfl) (ss (ss (ss (ss (ss (ss (ss (ss (ss (ss (sn))))))))))) (wn rfl) rfl (y_pick (b := false) rfl rfl) ?_
     exact any_weak [(1, v3), (7, boxP b35 0), (8, .bool b55), (9, boxP b75 0), (11, boxP b90 0), (13, boxP b102 0), (91, .bool false)] [0, 1, 2, 3, 4, 5, 6, 7, 8, 9] [row v3 20 (r1.map S_api_Segment.enc), globA, ro v34 20 (r32.L.map S_api_Segment.enc), box b35 [.int .i64 r32.First, v34, .bool r32.Done], ro v73 20 (r66.1.L.map S_api_Segment.enc), box b75 [.int .i64 r66.1.First, v73, .bool r66.1.Done], ro v88 20 (r81.1.L.map S_api_Segment.enc), box b90 [.int .i64 r81.1.First, v88, .bool r81.1.Done], ro v101 20 (r99.1.L.map S_api_Segment.enc), box b102 [.int .i64 r99.1.First, v101, .bool r99.1.Done]] (by kernel_rfl) (qv7 rfl rfl rfl rfl rfl rfl rfl) (by decide) rfl (hL108 false (by rw [hg109]; simp))
   rintro _ rfl
   refine any_y 10 rfl (by kernel_rfl) (by kernel_rfl) (by kernel_rfl) (ss (ss (ss (ss (ss (ss (ss (ss (ss (ss (sn))))))))))) (wn rfl) rfl (y_move rfl) ?_
   obtain ⟨o111, h, ho112⟩ := bindJ_some h
   refine any_cut #[true, true, true, true, true, true, true, true, true, true, true, true, true, true, true, false, false, false, false, false, false, false, false, false, false, false, false, false] 13 Bool (fun σ => [(1, v3), (7, boxP b35 0), (8, .bool b55), (11, boxP b90 0), (13, boxP b102 0), (96, .bool σ)]) (fun σ => [row v3 20 (r1.map S_api_Segment.enc), globA, ro v34 20 (r32.L.map S_api_Segment.enc), box b35 [.int .i64 r32.First, v34, .bool r32.Done], ro v73 20 (r66.1.L.map S_api_Segment.enc), box b75 [.int .i64 r66.1.First, v73, .bool r66.1.Done], ro v88 20 (r81.1.L.map S_api_Segment.enc), box b90 [.int .i64 r81.1.First, v88, .bool r81.1.Done], ro v101 20 (r99.1.L.map S_api_Segment.enc), box b102 [.int .i64 r99.1.First, v101, .bool r99.1.Done]]) (fun σ => o111 = .go σ) (fun hL114 => ?_) ?_
   ·refine any_split 92 ((decide (r66.2 = 0) && decide (r81.2 = 0)) && decide (r99.2 = 0)) rfl (fun hg115 => ?_) (fun hg115 => ?_)
    ·replace h := cond_t h hg115
     refine any_y 11 rfl (by kernel_rfl) (by kernel_rfl) (by kernel_rfl) (ss (ss (ss (ss (ss (ss (ss (ss (ss (ss (sn))))))))))) (wg 10 true 92 rfl rfl rfl rfl) rfl (y_load_boxagg (c := [.int .i64 r66.1.First, v73, .bool r66.1.Done]) 5 Tryz.isAgg24 Tryz.sizeOf24 rfl rfl rfl) ?_
     refine any_y 12 rfl (by kernel_rfl) (by kernel_rfl) (by kernel_rfl) (ss (ss (ss (ss (ss (ss (ss (ss (ss (ss (sn))))))))))) (wg 10 true 92 rfl rfl rfl rfl) rfl (y_load_boxagg (c := [.int .i64 r32.First, v34, .bool r32.Done]) 3 Tryz.isAgg24 Tryz.sizeOf24 rfl rfl rfl) ?_
     refine any_all [13] (by kernel_rfl) rfl (anyo_cons ?_ anyo_nil)
     obtain ⟨r116, hr117, h⟩ := obind_some h
     refine any_t rfl (wg 10 true 92 rfl rfl rfl rfl) rfl (t_callx (vs := [.agg #[.int .i64 r66.1.First, v73, .bool r66.1.Done], .agg #[.int .i64 r32.First, v34, .bool r32.Done]]) (cs := []) [(4, 0), (2, 0)] rfl Tryz.call11 rfl (ref43_Same_ok n r66.1 r32 v73 v34 hr117) (showsX_view 4 rfl views_ro (showsX_view 2 rfl views_ro showsX_nil)) rfl (.inl rfl)) ?_
     rintro _ _ ⟨_, ⟨rfl, rfl⟩, rfl⟩
     refine ⟨(ss (ss (ss (ss (ss (ss (ss (ss (ss (ss (sn))))))))))), ?_⟩
     refine any_y 14 rfl (by kernel_rfl) (by kernel_rfl) (by kernel_rfl) (ss (ss (ss (ss (ss (ss (ss (ss (ss (ss (sn))))))))))) (wn rfl) rfl (y_pick (b := true) rfl rfl) ?_
     obtain rfl := some_eq h
     exact any_weak [(1, v3), (7, boxP b35 0), (8, .bool b55), (11, boxP b90 0), (13, boxP b102 0), (96, .bool r116)] [0, 1, 2, 3, 4, 5, 6, 7, 8, 9] [row v3 20 (r1.map S_api_Segment.enc), globA, ro v34 20 (r32.L.map S_api_Segment.enc), box b35 [.int .i64 r32.First, v34, .bool r32.Done], ro v73 20 (r66.1.L.map S_api_Segment.enc), box b75 [.int .i64 r66.1.First, v73, .bool r66.1.Done], ro v88 20 (r81.1.L.map S_api_Segment.enc), box b90 [.int .i64 r81.1.First, v88, .bool r81.1.Done], ro v101 20 (r99.1.L.map S_api_Segment.enc), box b102 [.int .i64 r99.1.First, v101, .bool r99.1.Done]] (by kernel_rfl) (qv6 rfl rfl rfl rfl rfl rfl) (by decide) rfl (hL114 r116 rfl)
    ·replace h := cond_f h hg115
     refine any_no 11 rfl (by kernel_rfl) (by kernel_rfl) (by kernel_rfl) (ss (ss (ss (ss (ss (ss (ss (ss (ss (ss (sn))))))))))) 10 true 92 rfl rfl rfl rfl rfl ?_
     refine any_no 12 rfl (by kernel_rfl) (by kernel_rfl) (by kernel_rfl) (ss (ss (ss (ss (ss (ss (ss (ss (ss (ss (sn))))))))))) 10 true 92 rfl rfl rfl rfl rfl ?_
     refine any_no 13 rfl (by kernel_rfl) (by kernel_rfl) (by kernel_rfl) (ss (ss (ss (ss (ss (ss (ss (ss (ss (ss (sn))))))))))) 10 true 92 rfl rfl rfl rfl rfl ?_
     refine any_y 14 rfl (by kernel_rfl) (by kernel_rfl) (by kernel_rfl) (ss (ss (ss (ss (ss (ss (ss (ss (ss (ss (sn))))))))))) (wn rfl) rfl (y_pick (b := false) rfl rfl) ?_
     obtain rfl := some_eq h
     exact any_weak [(1, v3), (7, boxP b35 0), (8, .bool b55), (11, boxP b90 0), (13, boxP b102 0), (96, .bool false)] [0, 1, 2, 3, 4, 5, 6, 7, 8, 9] [row v3 20 (r1.map S_api_Segment.enc), globA, ro v34 20 (r32.L.map S_api_Segment.enc), box b35 [.int .i64 r32.First, v34, .bool r32.Done], ro v73 20 (r66.1.L.map S_api_Segment.enc), box b75 [.int .i64 r66.1.First, v73, .bool r66.1.Done], ro v88 20 (r81.1.L.map S_api_Segment.enc), box b90 [.int .i64 r81.1.First, v88, .bool r81.1.Done], ro v101 20 (r99.1.L.map S_api_Segment.enc), box b102 [.int .i64 r99.1.First, v101, .bool r99.1.Done]] (by kernel_rfl) (qv6 rfl rfl rfl rfl rfl rfl) (by decide) rfl (hL114 false rfl)
   rintro b110 hj
   obtain rfl : o111 = _ := hj
   replace h := after_go ho112
   clear ho112
   refine any_y 15 rfl (by kernel_rfl) (by kernel_rfl) (by kernel_rfl) (ss (ss (ss (ss (ss (ss (ss (ss (ss (ss (sn))))))))))) (wn rfl) rfl (y_move rfl) ?_
   obtain ⟨o119, h, ho120⟩ := bindJ_some h
   refine any_cut #[true, true, true, true, true, true, true, true, true, true, true, true, true, true, true, true, true, true, true, true, true, false, false, false, false, false, false, false] 7 Bool (fun σ => [(1, v3), (7, boxP b35 0), (8, .bool b55), (13, boxP b102 0), (102, .bool σ)]) (fun σ => [row v3 20 (r1.map S_api_Segment.enc), globA, ro v34 20 (r32.L.map S_api_Segment.enc), box b35 [.int .i64 r32.First, v34, .bool r32.Done], ro v73 20 (r66.1.L.map S_api_Segment.enc), box b75 [.int .i64 r66.1.First, v73, .bool r66.1.Done], ro v88 20 (r81.1.L.map S_api_Segment.enc), box b90 [.int .i64 r81.1.First, v88, .bool r81.1.Done], ro v101 20 (r99.1.L.map S_api_Segment.enc), box b102 [.int .i64 r99.1.First, v101, .bool r99.1.Done]]) (fun σ => o119 = .go σ) (fun hL122 => ?_) ?_
   ·refine any_split 97 b110 rfl (fun hg123 => ?_) (fun hg123 => ?_)
    ·replace h := cond_t h hg123
     refine any_y 16 rfl (by kernel_rfl) (by kernel_rfl) (by kernel_rfl) (ss (ss (ss (ss (ss (ss (ss (ss (ss (ss (sn))))))))))) (wg 15 true 97 rfl rfl rfl rfl) rfl (y_load_boxagg (c := [.int .i64 r81.1.First, v88, .bool r81.1.Done]) 7 Tryz.isAgg24 Tryz.sizeOf24 rfl rfl rfl) ?_
     refine any_y 17 rfl (by kernel_rfl) (by kernel_rfl) (by kernel_rfl) (ss (ss (ss (ss (ss (ss (ss (ss (ss (ss (sn))))))))))) (wg 15 true 97 rfl rfl rfl rfl) rfl (y_move rfl) ?_
     refine any_all [18] (by kernel_rfl) rfl (anyo_cons ?_ anyo_nil)
     obtain ⟨r124, hr125, h⟩ := obind_some h
     refine any_t rfl (wg 15 true 97 rfl rfl rfl rfl) rfl (t_callx (vs := [v3, .int .i64 0, .int .i64 4, .bool false]) (cs := []) [(0, 1)] rfl Tryz.call37 rfl (ref43_Part_ok r1 0 4 false v3 hr125) (showsX_look 0 rfl views_row showsX_nil) rfl (.inr (by rintro _ _ ⟨_, rfl, rfl⟩ g hg; first | (cases hg; done) | (simp only [List.mem_cons, List.not_mem_nil, or_false] at hg; first | (subst hg; first | exact strict_row | exact strict_box) | (rcases hg with rfl | rfl <;> first | exact strict_row | exact strict_box) | (rcases hg with rfl | rfl | rfl <;> first | exact strict_row | exact strict_box))))) ?_
     rintro _ _ ⟨_, ⟨v126, rfl, rfl⟩, rfl⟩
     refine ⟨(ss (ss (ss (ss (ss (ss (ss (ss (ss (ss (sn))))))))))), ?_⟩
     refine any_all [19] (by kernel_rfl) rfl (anyo_cons ?_ anyo_nil)
     obtain ⟨r127, hr128, h⟩ := obind_some h
     refine any_t rfl (wg 15 true 97 rfl rfl rfl rfl) rfl (t_callx (vs := [.agg #[.int .i64 r81.1.First, v88, .bool r81.1.Done], .agg #[.int .i64 r124.First, v126, .bool r124.Done]]) (cs := []) [(6, 0), (10, 1)] rfl Tryz.call11 rfl (ref43_Same_ok n r81.1 r124 v88 v126 hr128) (showsX_view 6 rfl views_ro (showsX_look 10 rfl views_row showsX_nil)) rfl (.inr (by rintro _ _ ⟨rfl, rfl⟩ g hg; first | (cases hg; done) | (simp only [List.mem_cons, List.not_mem_nil, or_false] at hg; first | (subst hg; first | exact strict_row | exact strict_box) | (rcases hg with rfl | rfl <;> first | exact strict_row | exact strict_box) | (rcases hg with rfl | rfl | rfl <;> first | exact strict_row | exact strict_box))))) ?_
     rintro _ _ ⟨_, ⟨rfl, rfl⟩, rfl⟩
     refine ⟨(ss (ss (ss (ss (ss (ss (ss (ss (ss (ss (sn))))))))))), ?_⟩
     refine any_y 20 rfl (by kernel_rfl) (by kernel_rfl) (by kernel_rfl) (ss (ss (ss (ss (ss (ss (ss (ss (ss (ss (sn))))))))))) (wn rfl) rfl (y_pick (b := true) rfl rfl) ?_
     obtain rfl := some_eq h
     exact any_weak [(1, v3), (7, boxP b35 0), (8, .bool b55), (13, boxP b102 0), (102, .bool r127)] [0, 1, 2, 3, 4, 5, 6, 7, 8, 9] [row v3 20 (r1.map S_api_Segment.enc), globA, ro v34 20 (r32.L.map S_api_Segment.enc), box b35 [.int .i64 r32.First, v34, .bool r32.Done], ro v73 20 (r66.1.L.map S_api_Segment.enc), box b75 [.int .i64 r66.1.First, v73, .bool r66.1.Done], ro v88 20 (r81.1.L.map S_api_Segment.enc), box b90 [.int .i64 r81.1.First, v88, .bool r81.1.Done], ro v101 20 (r99.1.L.map S_api_Segment.enc), box b102 [.int .i64 r99.1.First, v101, .bool r99.1.Done]] (by kernel_rfl) (qv5 rfl rfl rfl rfl rfl) (by decide) rfl (hL122 r127 rfl)
    ·replace h := cond_f h hg123
     refine any_no 16 rfl (by kernel_rfl) (by kernel_rfl) (by kernel_rfl) (ss (ss (ss (ss (ss (ss (ss (ss (ss (ss (sn))))))))))) 15 true 97 rfl rfl rfl rfl rfl ?_
     refine any_no 17 rfl (by kernel_rfl) (by kernel_rfl) (by kernel_rfl) (ss (ss (ss (ss (ss (ss (ss (ss (ss (ss (sn))))))))))) 15 true 97 rfl rfl rfl rfl rfl ?_
     refine any_no 18 rfl (by kernel_rfl) (by kernel_rfl) (by kernel_rfl) (ss (ss (ss (ss (ss (ss (ss (ss (ss (ss (sn))))))))))) 15 true 97 rfl rfl rfl rfl rfl ?_
     refine any_no 19 rfl (by kernel_rfl) (by kernel_rfl) (by kernel_rfl) (ss (ss (ss (ss (ss (ss (ss (ss (ss (ss (sn))))))))))) 15 true 97 rfl rfl rfl rfl rfl ?_
     refine any_y 20 rfl (by kernel_rfl) (by kernel_rfl) (by kernel_rfl) (ss (ss (ss (ss (ss (ss (ss (ss (ss (ss (sn))))))))))) (wn rfl) rfl (y_pick (b := false) rfl rfl) ?_
     obtain rfl := some_eq h
     exact any_weak [(1, v3), (7, boxP b35 0), (8, .bool b55), (13, boxP b102 0), (102, .bool false)] [0, 1, 2, 3, 4, 5, 6, 7, 8, 9] [row v3 20 (r1.map S_api_Segment.enc), globA, ro v34 20 (r32.L.map S_api_Segment.enc), box b35 [.int .i64 r32.First, v34, .bool r32.Done], ro v73 20 (r66.1.L.map S_api_Segment.enc), box b75 [.int .i64 r66.1.First, v73, .bool r66.1.Done], ro v88 20 (r81.1.L.map S_api_Segment.enc), box b90 [.int .i64 r81.1.First, v88, .bool r81.1.Done], ro v101 20 (r99.1.L.map S_api_Segment.enc), box b102 [.int .i64 r99.1.First, v101, .bool r99.1.Done]] (by kernel_rfl) (qv5 rfl rfl rfl rfl rfl) (by decide) rfl (hL122 false rfl)
   rintro b118 hj
   obtain rfl : o119 = _ := hj
   replace h := after_go ho120
   clear ho120
   refine any_y 21 rfl (by kernel_rfl) (by kernel_rfl) (by kernel_rfl) (ss (ss (ss (ss (ss (ss (ss (ss (ss (ss (sn))))))))))) (wn rfl) rfl (y_move rfl) ?_
   obtain ⟨o130, h, ho131⟩ := bindJ_some h
   refine any_cut #[true, true, true, true, true, true, true, true, true, true, true, true, true, true, true, true, true, true, true, true, true, true, true, true, true, true, true, false] 1 Bool (fun σ => [(1, v3), (7, boxP b35 0), (8, .bool b55), (108, .bool σ)]) (fun σ => [row v3 20 (r1.map S_api_Segment.enc), globA, ro v34 20 (r32.L.map S_api_Segment.enc), box b35 [.int .i64 r32.First, v34, .bool r32.Done], ro v73 20 (r66.1.L.map S_api_Segment.enc), box b75 [.int .i64 r66.1.First, v73, .bool r66.1.Done], ro v88 20 (r81.1.L.map S_api_Segment.enc), box b90 [.int .i64 r81.1.First, v88, .bool r81.1.Done], ro v101 20 (r99.1.L.map S_api_Segment.enc), box b102 [.int .i64 r99.1.First, v101, .bool r99.1.Done]]) (fun σ => o130 = .go σ) (fun hL133 => ?_) ?_
   ·refine any_split 103 b118 rfl (fun hg134 => ?_) (fun hg134 => ?_)
    ·replace h := cond_t h hg134
     refine any_y 22 rfl (by kernel_rfl) (by kernel_rfl) (by kernel_rfl) (ss (ss (ss (ss (ss (ss (ss (ss (ss (ss (sn))))))))))) (wg 21 true 103 rfl rfl rfl rfl) rfl (y_load_boxagg (c := [.int .i64 r99.1.First, v101, .bool r99.1.Done]) 9 Tryz.isAgg24 Tryz.sizeOf24 rfl rfl rfl) ?_
     refine any_y 23 rfl (by kernel_rfl) (by kernel_rfl) (by kernel_rfl) (ss (ss (ss (ss (ss (ss (ss (ss (ss (ss (sn))))))))))) (wg 21 true 103 rfl rfl rfl rfl) rfl (y_move rfl) ?_
     refine any_all [24] (by kernel_rfl) rfl (anyo_cons ?_ anyo_nil)
     obtain ⟨r135, hr136, h⟩ := obind_some h
     refine any_t rfl (wg 21 true 103 rfl rfl rfl rfl) rfl (t_callx (vs := [v3, .int .i64 3, .int .i64 4, .bool false]) (cs := []) [(0, 1)] rfl Tryz.call37 rfl (ref43_Part_ok r1 3 4 false v3 hr136) (showsX_look 0 rfl views_row showsX_nil) rfl (.inr (by rintro _ _ ⟨_, rfl, rfl⟩ g hg; first | (cases hg; done) | (simp only [List.mem_cons, List.not_mem_nil, or_false] at hg; first | (subst hg; first | exact strict_row | exact strict_box) | (rcases hg with rfl | rfl <;> first | exact strict_row | exact strict_box) | (rcases hg with rfl | rfl | rfl <;> first | exact strict_row | exact strict_box))))) ?_
     rintro _ _ ⟨_, ⟨v137, rfl, rfl⟩, rfl⟩
     refine ⟨(ss (ss (ss (ss (ss (ss (ss (ss (ss (ss (sn))))))))))), ?_⟩
     refine any_all [25] (by kernel_rfl) rfl (anyo_cons ?_ anyo_nil)
     obtain ⟨r138, hr139, h⟩ := obind_some h
     refine any_t rfl (wg 21 true 103 rfl rfl rfl rfl) rfl (t_callx (vs := [.agg #[.int .i64 r99.1.First, v101, .bool r99.1.Done], .agg #[.int .i64 r135.First, v137, .bool r135.Done]]) (cs := []) [(8, 0), (10, 1)] rfl Tryz.call11 rfl (ref43_Same_ok n r99.1 r135 v101 v137 hr139) (showsX_view 8 rfl views_ro (showsX_look 10 rfl views_row showsX_nil)) rfl (.inr (by rintro _ _ ⟨rfl, rfl⟩ g hg; first | (cases hg; done) | (simp only [List.mem_cons, List.not_mem_nil, or_false] at hg; first | (subst hg; first | exact strict_row | exact strict_box) | (rcases hg with rfl | rfl <;> first | exact strict_row | exact strict_box) | (rcases hg with rfl | rfl | rfl <;> first | exact strict_row | exact strict_box))))) ?_
     rintro _ _ ⟨_, ⟨rfl, rfl⟩, rfl⟩
     refine ⟨(ss (ss (ss (ss (ss (ss (ss (ss (ss (ss (sn))))))))))), ?_⟩
     refine any_y 26 rfl (by kernel_rfl) (by kernel_rfl) (by kernel_rfl) (ss (ss (ss (ss (ss (ss (ss (ss (ss (ss (sn))))))))))) (wn rfl) rfl (y_pick (b := true) rfl rfl) ?_
     obtain rfl := some_eq h
     exact any_weak [(1, v3), (7, boxP b35 0), (8, .bool b55), (108, .bool r138)] [0, 1, 2, 3, 4, 5, 6, 7, 8, 9] [row v3 20 (r1.map S_api_Segment.enc), globA, ro v34 20 (r32.L.map S_api_Segment.enc), box b35 [.int .i64 r32.First, v34, .bool r32.Done], ro v73 20 (r66.1.L.map S_api_Segment.enc), box b75 [.int .i64 r66.1.First, v73, .bool r66.1.Done], ro v88 20 (r81.1.L.map S_api_Segment.enc), box b90 [.int .i64 r81.1.First, v88, .bool r81.1.Done], ro v101 20 (r99.1.L.map S_api_Segment.enc), box b102 [.int .i64 r99.1.First, v101, .bool r99.1.Done]] (by kernel_rfl) (qv4 rfl rfl rfl rfl) (by decide) rfl (hL133 r138 rfl)
    ·replace h := cond_f h hg134
     refine any_no 22 rfl (by kernel_rfl) (by kernel_rfl) (by kernel_rfl) (ss (ss (ss (ss (ss (ss (ss (ss (ss (ss (sn))))))))))) 21 true 103 rfl rfl rfl rfl rfl ?_
     refine any_no 23 rfl (by kernel_rfl) (by kernel_rfl) (by kernel_rfl) (ss (ss (ss (ss (ss (ss (ss (ss (ss (ss (sn))))))))))) 21 true 103 rfl rfl rfl rfl rfl ?_
     refine any_no 24 rfl (by kernel_rfl) (by kernel_rfl) (by kernel_rfl) (ss (ss (ss (ss (ss (ss (ss (ss (ss (ss (sn))))))))))) 21 true 103 rfl rfl rfl rfl rfl ?_
     refine any_no 25 rfl (by kernel_rfl) (by kernel_rfl) (by kernel_rfl) (ss (ss (ss (ss (ss (ss (ss (ss (ss (ss (sn))))))))))) 21 true 103 rfl rfl rfl rfl rfl ?_
     refine any_y 26 rfl (by kernel_rfl) (by kernel_rfl) (by kernel_rfl) (ss (ss (ss (ss (ss (ss (ss (ss (ss (ss (sn))))))))))) (wn rfl) rfl (y_pick (b := false) rfl rfl) ?_
     obtain rfl := some_eq h
     exact any_weak [(1, v3), (7, boxP b35 0), (8, .bool b55), (108, .bool false)] [0, 1, 2, 3, 4, 5, 6, 7, 8, 9] [row v3 20 (r1.map S_api_Segment.enc), globA, ro v34 20 (r32.L.map S_api_Segment.enc), box b35 [.int .i64 r32.First, v34, .bool r32.Done], ro v73 20 (r66.1.L.map S_api_Segment.enc), box b75 [.int .i64 r66.1.First, v73, .bool r66.1.Done], ro v88 20 (r81.1.L.map S_api_Segment.enc), box b90 [.int .i64 r81.1.First, v88, .bool r81.1.Done], ro v101 20 (r99.1.L.map S_api_Segment.enc), box b102 [.int .i64 r99.1.First, v101, .bool r99.1.Done]] (by kernel_rfl) (qv4 rfl rfl rfl rfl) (by decide) rfl (hL133 false rfl)
   rintro b129 hj
   obtain rfl : o130 = _ := hj
   replace h := after_go ho131
   clear ho131
   refine any_y 27 rfl (by kernel_rfl) (by kernel_rfl) (by kernel_rfl) (ss (ss (ss (ss (ss (ss (ss (ss (ss (ss (sn))))))))))) (wn rfl) rfl (y_assign rfl) ?_
   refine any_nil (by kernel_rfl) ?_
   refine goes_code ?_
   refine run_seq ?_
   refine run_region' ?_
   refine oy rfl rfl (y_move rfl) ?_
   obtain ⟨hb140, h⟩ := need_some h
   refine ops_turn (Go.Abs.freeze 0 rfl) ?_
   refine oy rfl rfl (y_slice (l := 0) (r := 2) 0 Tryz.runUnderlying22 Tryz.sizeOf57 rfl rfl reads_ro bi0 (bi1 (kd := .i64) rfl) hb140.1 hb140.2.1 (map_len_le hb140.2.2)) ?_
   refine ops_turn (turn_sub (l := (0 : Int).toNat) (r := (2 : Int).toNat) 0 rfl (by omega) (map_toNat_le hb140.2.2)) ?_
   refine ops_turn (retell 10 (g := ro (subS v3 20 ((0 : Int).toNat) ((2 : Int).toNat)) 20 ((r1.take ((2 : Int).toNat)).map S_api_Segment.enc)) rfl (congrArg (ro _ _) (sub_hi _ _ _))) ?_
   refine ot rfl rfl (t_lit [.int .i64 0, .int .i64 0, .int .i64 1] Tryz.runUnderlying43 Tryz.sizeOf3 Tryz.zeroValue3 rfl (by decide) (by decide) rfl (by simp [Value.cells, boxP])) ?_
   rintro v141 _ ⟨rfl, _⟩
   refine ops_turn (retell 11 (g := row v141 1 (([0, 0, 1] : List Int).map (eInt .i64))) rfl rfl) ?_
   refine ot rfl rfl (t_lit [.int .i64 3, .int .i64 3] Tryz.runUnderlying43 Tryz.sizeOf3 Tryz.zeroValue3 rfl (by decide) (by decide) rfl (by simp [Value.cells, boxP])) ?_
   rintro v142 _ ⟨rfl, _⟩
   refine ops_turn (retell 12 (g := row v142 1 (([3, 3] : List Int).map (eInt .i64))) rfl rfl) ?_
   refine ot rfl rfl (t_lit [.int .i64 3, .int .i64 3] Tryz.runUnderlying43 Tryz.sizeOf3 Tryz.zeroValue3 rfl (by decide) (by decide) rfl (by simp [Value.cells, boxP])) ?_
   rintro v143 _ ⟨rfl, _⟩
   refine ops_turn (retell 13 (g := row v143 1 (([3, 3] : List Int).map (eInt .i64))) rfl rfl) ?_
   refine ops_turn (Go.Abs.freeze 12 rfl) ?_
   refine ops_turn (Go.Abs.freeze 13 rfl) ?_
   refine ops_slc 12 rfl reads_ro (fun hs145 hs145o => ?_)
   refine ops_slc 13 rfl reads_ro (fun hs146 hs146o => ?_)
   refine ot rfl rfl (t_lit [.slice none 0 0, v142, v143] Tryz.runUnderlying44 Tryz.sizeOf43 Tryz.zeroValue43 rfl (by decide) (by decide) rfl (by intro q hq; simp only [List.mem_cons, List.not_mem_nil, or_false] at hq; rcases hq with rfl | rfl | rfl <;> first | rfl | (rw [hs145]; rfl) | (rw [hs146]; rfl))) ?_
   rintro v144 _ ⟨rfl, _⟩
   refine ops_turn (turn_closeR (C := NC_L_int_43) (l := ([[], ([3, 3] : List Int), ([3, 3] : List Int)] : List (List Int))) 14 [([], (.slice none 0 0)), (([3, 3] : List Int), v142), (([3, 3] : List Int), v143)] rfl (by simp only [List.map_cons, List.map_nil, hs145, hs146]; rfl) rfl (hasall_cons (has_true nil_ro_any has_nil) (hasall_cons (has_cons 12 rfl has_nil) (hasall_cons (has_cons 13 rfl has_nil) hasall_nil)))) ?_
   refine ops_turn (Go.Abs.freeze 11 rfl) ?_
   refine ops_turn (freezeN 14 rfl) ?_
   obtain ⟨r147, hr148, h⟩ := obind_some h
   refine ot rfl rfl (t_callx (vs := [(subS v3 20 ((0 : Int).toNat) ((2 : Int).toNat)), v141, v144]) (cs := []) [(10, 0), (11, 0), (14, 0)] rfl Tryz.call17 rfl (playlist_Spread_ok n (r1.take ((2 : Int).toNat)) ([0, 0, 1] : List Int) ([[], ([3, 3] : List Int), ([3, 3] : List Int)] : List (List Int)) (subS v3 20 ((0 : Int).toNat) ((2 : Int).toNat)) v141 v144 hr148) (showsX_view 10 rfl views_ro (showsX_view 11 rfl views_ro (showsX_view 14 rfl views_nro showsX_nil))) rfl (.inl rfl)) ?_
   rintro _ _ ⟨_, ⟨v149, rfl, rfl⟩, rfl⟩
   refine oy rfl rfl (y_move rfl) ?_
   refine oy rfl rfl (y_extract rfl rfl) ?_
   refine oy rfl rfl (y_extract rfl rfl) ?_
   refine oy rfl rfl (y_assign rfl) ?_
   refine oy rfl rfl (y_assign rfl) ?_
   refine ops_nil ?_
   refine goes_code ?_
   refine run_seq ?_
   refine run_weak [(1, v3), (7, boxP b35 0), (8, .bool b55), (15, .bool b129), (16, v149), (17, .int .i64 r147.2)] [0, 1, 2, 3, 15] [ro v3 20 (r1.map S_api_Segment.enc), globA, ro v34 20 (r32.L.map S_api_Segment.enc), box b35 [.int .i64 r32.First, v34, .bool r32.Done], nrow v149 NC_L_int_43 r147.1] (qv6 rfl rfl rfl rfl rfl rfl) (by decide) rfl ?_
   refine run_region' ?_
   refine oy rfl rfl (y_move rfl) ?_
   refine oy rfl rfl (y_eql rfl rfl) ?_
   refine oy rfl rfl (y_move rfl) ?_
   obtain ⟨o151, h, ho152⟩ := bindJ_some h
   refine ops_cut 7 (Bool) (fun σ => [(1, v3), (7, boxP b35 0), (8, .bool b55), (15, .bool b129), (128, .bool σ)]) (fun σ => [ro v3 20 (r1.map S_api_Segment.enc), globA, ro v34 20 (r32.L.map S_api_Segment.enc), box b35 [.int .i64 r32.First, v34, .bool r32.Done]]) (fun σ => o151 = .go σ) (fun L153 hL154 => ?_) ?_
   ·refine ops_split 121 (decide (r147.2 = 0)) rfl (fun hg155 => ?_) (fun hg155 => ?_)
    ·replace h := cond_t h hg155
     refine ops_y (wg 2 true 121 rfl rfl rfl rfl) rfl (y_move rfl) ?_
     refine ops_t (wg 2 true 121 rfl rfl rfl rfl) rfl (t_lit [.int .i64 110, .int .i64 120] Tryz.runUnderlying43 Tryz.sizeOf3 Tryz.zeroValue3 rfl (by decide) (by decide) rfl (by simp [Value.cells, boxP])) ?_
     rintro v156 _ ⟨rfl, _⟩
     refine ops_turn (retell 5 (g := row v156 1 (([110, 120] : List Int).map (eInt .i64))) rfl rfl) ?_
     refine ops_t (wg 2 true 121 rfl rfl rfl rfl) rfl (t_lit [.int .i64 113, .int .i64 123] Tryz.runUnderlying43 Tryz.sizeOf3 Tryz.zeroValue3 rfl (by decide) (by decide) rfl (by simp [Value.cells, boxP])) ?_
     rintro v157 _ ⟨rfl, _⟩
     refine ops_turn (retell 6 (g := row v157 1 (([113, 123] : List Int).map (eInt .i64))) rfl rfl) ?_
     refine ops_t (wg 2 true 121 rfl rfl rfl rfl) rfl (t_lit [.int .i64 116, .int .i64 126] Tryz.runUnderlying43 Tryz.sizeOf3 Tryz.zeroValue3 rfl (by decide) (by decide) rfl (by simp [Value.cells, boxP])) ?_
     rintro v158 _ ⟨rfl, _⟩
     refine ops_turn (retell 7 (g := row v158 1 (([116, 126] : List Int).map (eInt .i64))) rfl rfl) ?_
     refine ops_turn (Go.Abs.freeze 5 rfl) ?_
     refine ops_turn (Go.Abs.freeze 6 rfl) ?_
     refine ops_turn (Go.Abs.freeze 7 rfl) ?_
     refine ops_slc 5 rfl reads_ro (fun hs160 hs160o => ?_)
     refine ops_slc 6 rfl reads_ro (fun hs161 hs161o => ?_)
     refine ops_slc 7 rfl reads_ro (fun hs162 hs162o => ?_)
     refine ops_t (wg 2 true 121 rfl rfl rfl rfl) rfl (t_lit [v156, v157, v158] Tryz.runUnderlying44 Tryz.sizeOf43 Tryz.zeroValue43 rfl (by decide) (by decide) rfl (by intro q hq; simp only [List.mem_cons, List.not_mem_nil, or_false] at hq; rcases hq with rfl | rfl | rfl <;> first | rfl | (rw [hs160]; rfl) | (rw [hs161]; rfl) | (rw [hs162]; rfl))) ?_
     rintro v159 _ ⟨rfl, _⟩
     refine ops_turn (turn_closeR (C := NC_L_int_43) (l := ([([110, 120] : List Int), ([113, 123] : List Int), ([116, 126] : List Int)] : List (List Int))) 8 [(([110, 120] : List Int), v156), (([113, 123] : List Int), v157), (([116, 126] : List Int), v158)] rfl (by simp only [List.map_cons, List.map_nil, hs160, hs161, hs162]; rfl) rfl (hasall_cons (has_cons 5 rfl has_nil) (hasall_cons (has_cons 6 rfl has_nil) (hasall_cons (has_cons 7 rfl has_nil) hasall_nil)))) ?_
     obtain ⟨r163, hr164, h⟩ := obind_some h
     refine ops_t (wg 2 true 121 rfl rfl rfl rfl) rfl (t_callx (vs := [v149, v159]) (cs := []) [(4, 1), (8, 1)] rfl Tryz.call19 rfl (ref43_SameTimes_ok n r147.1 ([([110, 120] : List Int), ([113, 123] : List Int), ([116, 126] : List Int)] : List (List Int)) v149 v159 hr164) (showsX_look 4 rfl views_nrow (showsX_look 8 rfl views_nrow showsX_nil)) rfl (.inr (by rintro _ _ ⟨rfl, rfl⟩ g hg; first | (cases hg; done) | (simp only [List.mem_cons, List.not_mem_nil, or_false] at hg; first | (subst hg; first | exact strict_row | exact strict_box) | (rcases hg with rfl | rfl <;> first | exact strict_row | exact strict_box) | (rcases hg with rfl | rfl | rfl <;> first | exact strict_row | exact strict_box))))) ?_
     rintro _ _ ⟨_, ⟨rfl, rfl⟩, rfl⟩
     refine oy rfl rfl (y_pick (b := true) rfl rfl) ?_
     refine ops_nil ?_
     obtain rfl := some_eq h
     exact goes_cut hL154 r163 [0, 1, 2, 3] (qv5 rfl rfl rfl rfl rfl) (by decide) rfl rfl
    ·replace h := cond_f h hg155
     refine ops_no 2 true 121 rfl rfl rfl rfl rfl ?_
     refine ops_no 2 true 121 rfl rfl rfl rfl rfl ?_
     refine ops_no 2 true 121 rfl rfl rfl rfl rfl ?_
     refine ops_no 2 true 121 rfl rfl rfl rfl rfl ?_
     refine ops_no 2 true 121 rfl rfl rfl rfl rfl ?_
     refine ops_no 2 true 121 rfl rfl rfl rfl rfl ?_
     refine oy rfl rfl (y_pick (b := false) rfl rfl) ?_
     refine ops_nil ?_
     obtain rfl := some_eq h
     exact goes_cut hL154 false [0, 1, 2, 3] (qv5 rfl rfl rfl rfl rfl) (by decide) rfl rfl
   rintro b150 hj
   obtain rfl : o151 = _ := hj
   replace h := after_go ho152
   clear ho152
   refine oy rfl rfl (y_assign rfl) ?_
   refine ops_nil ?_
   refine goes_code ?_
   refine run_seq ?_
   refine run_region' ?_
   refine oy rfl rfl (y_load_boxagg (c := [.int .i64 r32.First, v34, .bool r32.Done]) 3 Tryz.isAgg24 Tryz.sizeOf24 rfl rfl rfl) ?_
   obtain ⟨r165, hr166, h⟩ := obind_some h
   refine ot rfl rfl (t_callx (vs := [.agg #[.int .i64 r32.First, v34, .bool r32.Done]]) (cs := []) [(2, 0), (1, 0)] rfl Tryz.call12 rfl (playlist_Text_ok n r32 v34 hr166) (showsX_view 2 rfl views_ro (showsX_view 1 rfl views_glob showsX_nil)) rfl (.inl rfl)) ?_
   rintro _ _ ⟨_, ⟨rfl, rfl⟩, rfl⟩
   refine oy rfl rfl (y_move rfl) ?_
   refine oy rfl rfl (y_extract rfl rfl) ?_
   refine oy rfl rfl (y_extract rfl rfl) ?_
   refine oy rfl rfl (y_assign rfl) ?_
   refine oy rfl rfl (y_assign rfl) ?_
   refine ops_nil ?_
   refine goes_code ?_
   refine run_seq ?_
   refine run_weak [(1, v3), (7, boxP b35 0), (8, .bool b55), (15, .bool b129), (18, .bool b150), (19, .string (bs r165.1)), (20, .int .i64 r165.2)] [0, 1, 2, 3] [ro v3 20 (r1.map S_api_Segment.enc), globA, ro v34 20 (r32.L.map S_api_Segment.enc), box b35 [.int .i64 r32.First, v34, .bool r32.Done]] (qv7 rfl rfl rfl rfl rfl rfl rfl) (by decide) rfl ?_
   refine run_region' ?_
   refine oy rfl rfl (y_move rfl) ?_
   obtain ⟨r167, hr168, h⟩ := obind_some h
   refine ot rfl rfl (t_callx (vs := [.string (bs r165.1)]) (cs := []) [(1, 0)] rfl Tryz.call14 rfl (playlist_Parse_ok n r165.1  hr168) (showsX_view 1 rfl views_glob showsX_nil) rfl (.inl rfl)) ?_
   rintro _ _ ⟨_, ⟨v169, rfl, rfl⟩, rfl⟩
   refine oy rfl rfl (y_move rfl) ?_
   refine oy rfl rfl (y_extract rfl rfl) ?_
   refine oy rfl rfl (y_extract rfl rfl) ?_
   refine ot rfl rfl (t_alloc Tryz.zeroValue24) ?_
   rintro _ _ ⟨b170, rfl, rfl⟩
   refine ops_slc 4 rfl reads_row (fun hs171 hs171o => ?_)
   refine ot rfl rfl (t_store 5 Tryz.sizeOf24 rfl rfl rfl rfl (by simp [Value.cells, boxP]) (allL_cons rfl (allL_cons hs171o (allL_cons rfl (allL_nil))))) ?_
   rintro _ _ ⟨rfl, rfl⟩
   refine ops_turn (retell 5 (g := box b170 [.int .i64 r167.1.First, v169, .bool r167.1.Done]) rfl rfl) ?_
   refine oy rfl rfl (y_assign rfl) ?_
   refine ops_nil ?_
   refine goes_code ?_
   refine run_seq ?_
   refine run_weak [(1, v3), (7, boxP b35 0), (8, .bool b55), (15, .bool b129), (18, .bool b150), (20, .int .i64 r165.2), (21, boxP b170 0), (22, .int .i64 r167.2)] [0, 1, 2, 3, 4, 5] [ro v3 20 (r1.map S_api_Segment.enc), globA, ro v34 20 (r32.L.map S_api_Segment.enc), box b35 [.int .i64 r32.First, v34, .bool r32.Done], row v169 20 (r167.1.L.map S_api_Segment.enc), box b170 [.int .i64 r167.1.First, v169, .bool r167.1.Done]] (qv8 rfl rfl rfl rfl rfl rfl rfl rfl) (by decide) rfl ?_
   refine run_region' ?_
   refine oy rfl rfl (y_move rfl) ?_
   refine oy rfl rfl (y_move rfl) ?_
   refine ops_cut 2 (Bool) (fun σ => [(1, v3), (7, boxP b35 0), (18, .bool b150), (20, .int .i64 r165.2), (21, boxP b170 0), (22, .int .i64 r167.2), (142, .bool σ)]) (fun σ => [ro v3 20 (r1.map S_api_Segment.enc), globA, ro v34 20 (r32.L.map S_api_Segment.enc), box b35 [.int .i64 r32.First, v34, .bool r32.Done], row v169 20 (r167.1.L.map S_api_Segment.enc), box b170 [.int .i64 r167.1.First, v169, .bool r167.1.Done]]) (fun σ => σ = (b55 && b129)) (fun L172 hL173 => ?_) ?_
   ·refine ops_split 140 b55 rfl (fun hg174 => ?_) (fun hg174 => ?_)
    ·skip
     refine ops_y (wg 1 true 140 rfl rfl rfl rfl) rfl (y_move rfl) ?_
     refine oy rfl rfl (y_pick (b := true) rfl rfl) ?_
     refine ops_nil ?_
     exact goes_cut hL173 b129 [0, 1, 2, 3, 4, 5] (qv7 rfl rfl rfl rfl rfl rfl rfl) (by decide) rfl (by rw [hg174]; simp)
    ·skip
     refine ops_no 1 true 140 rfl rfl rfl rfl rfl ?_
     refine oy rfl rfl (y_pick (b := false) rfl rfl) ?_
     refine ops_nil ?_
     exact goes_cut hL173 false [0, 1, 2, 3, 4, 5] (qv7 rfl rfl rfl rfl rfl rfl rfl) (by decide) rfl (by rw [hg174]; simp)
   rintro _ rfl
   refine oy rfl rfl (y_move rfl) ?_
   refine ops_cut 2 (Bool) (fun σ => [(1, v3), (7, boxP b35 0), (20, .int .i64 r165.2), (21, boxP b170 0), (22, .int .i64 r167.2), (145, .bool σ)]) (fun σ => [ro v3 20 (r1.map S_api_Segment.enc), globA, ro v34 20 (r32.L.map S_api_Segment.enc), box b35 [.int .i64 r32.First, v34, .bool r32.Done], row v169 20 (r167.1.L.map S_api_Segment.enc), box b170 [.int .i64 r167.1.First, v169, .bool r167.1.Done]]) (fun σ => σ = ((b55 && b129) && b150)) (fun L175 hL176 => ?_) ?_
   ·refine ops_split 143 (b55 && b129) rfl (fun hg177 => ?_) (fun hg177 => ?_)
    ·skip
     refine ops_y (wg 4 true 143 rfl rfl rfl rfl) rfl (y_move rfl) ?_
     refine oy rfl rfl (y_pick (b := true) rfl rfl) ?_
     refine ops_nil ?_
     exact goes_cut hL176 b150 [0, 1, 2, 3, 4, 5] (qv6 rfl rfl rfl rfl rfl rfl) (by decide) rfl (by rw [hg177]; simp)
    ·skip
     refine ops_no 4 true 143 rfl rfl rfl rfl rfl ?_
     refine oy rfl rfl (y_pick (b := false) rfl rfl) ?_
     refine ops_nil ?_
     exact goes_cut hL176 false [0, 1, 2, 3, 4, 5] (qv6 rfl rfl rfl rfl rfl rfl) (by decide) rfl (by rw [hg177]; simp)
   rintro _ rfl
   refine oy rfl rfl (y_move rfl) ?_
   refine ops_cut 3 (Bool) (fun σ => [(1, v3), (7, boxP b35 0), (21, boxP b170 0), (22, .int .i64 r167.2), (149, .bool σ)]) (fun σ => [ro v3 20 (r1.map S_api_Segment.enc), globA, ro v34 20 (r32.L.map S_api_Segment.enc), box b35 [.int .i64 r32.First, v34, .bool r32.Done], row v169 20 (r167.1.L.map S_api_Segment.enc), box b170 [.int .i64 r167.1.First, v169, .bool r167.1.Done]]) (fun σ => σ = (((b55 && b129) && b150) && decide (r165.2 = 0))) (fun L178 hL179 => ?_) ?_
   ·refine ops_split 146 ((b55 && b129) && b150) rfl (fun hg180 => ?_) (fun hg180 => ?_)
    ·skip
     refine ops_y (wg 7 true 146 rfl rfl rfl rfl) rfl (y_move rfl) ?_
     refine ops_y (wg 7 true 146 rfl rfl rfl rfl) rfl (y_eql rfl rfl) ?_
     refine oy rfl rfl (y_pick (b := true) rfl rfl) ?_
     refine ops_nil ?_
     exact goes_cut hL179 (decide (r165.2 = 0)) [0, 1, 2, 3, 4, 5] (qv5 rfl rfl rfl rfl rfl) (by decide) rfl (by rw [hg180]; simp)
    ·skip
     refine ops_no 7 true 146 rfl rfl rfl rfl rfl ?_
     refine ops_no 7 true 146 rfl rfl rfl rfl rfl ?_
     refine oy rfl rfl (y_pick (b := false) rfl rfl) ?_
     refine ops_nil ?_
     exact goes_cut hL179 false [0, 1, 2, 3, 4, 5] (qv5 rfl rfl rfl rfl rfl) (by decide) rfl (by rw [hg180]; simp)
   rintro _ rfl
   refine oy rfl rfl (y_move rfl) ?_
   refine ops_cut 3 (Bool) (fun σ => [(1, v3), (7, boxP b35 0), (21, boxP b170 0), (153, .bool σ)]) (fun σ => [ro v3 20 (r1.map S_api_Segment.enc), globA, ro v34 20 (r32.L.map S_api_Segment.enc), box b35 [.int .i64 r32.First, v34, .bool r32.Done], row v169 20 (r167.1.L.map S_api_Segment.enc), box b170 [.int .i64 r167.1.First, v169, .bool r167.1.Done]]) (fun σ => σ = ((((b55 && b129) && b150) && decide (r165.2 = 0)) && decide (r167.2 = 0))) (fun L181 hL182 => ?_) ?_
   ·refine ops_split 150 (((b55 && b129) && b150) && decide (r165.2 = 0)) rfl (fun hg183 => ?_) (fun hg183 => ?_)
    ·skip
     refine ops_y (wg 11 true 150 rfl rfl rfl rfl) rfl (y_move rfl) ?_
     refine ops_y (wg 11 true 150 rfl rfl rfl rfl) rfl (y_eql rfl rfl) ?_
     refine oy rfl rfl (y_pick (b := true) rfl rfl) ?_
     refine ops_nil ?_
     exact goes_cut hL182 (decide (r167.2 = 0)) [0, 1, 2, 3, 4, 5] (qv4 rfl rfl rfl rfl) (by decide) rfl (by rw [hg183]; simp)
    ·skip
     refine ops_no 11 true 150 rfl rfl rfl rfl rfl ?_
     refine ops_no 11 true 150 rfl rfl rfl rfl rfl ?_
     refine oy rfl rfl (y_pick (b := false) rfl rfl) ?_
     refine ops_nil ?_
     exact goes_cut hL182 false [0, 1, 2, 3, 4, 5] (qv4 rfl rfl rfl rfl) (by decide) rfl (by rw [hg183]; simp)
   rintro _ rfl
   refine oy rfl rfl (y_move rfl) ?_
   obtain ⟨o185, h, ho186⟩ := bindJ_some h
   refine ops_cut 4 (Bool) (fun σ => [(1, v3), (158, .bool σ)]) (fun σ => [ro v3 20 (r1.map S_api_Segment.enc), globA]) (fun σ => o185 = .go σ) (fun L187 hL188 => ?_) ?_
   ·refine ops_split 154 ((((b55 && b129) && b150) && decide (r165.2 = 0)) && decide (r167.2 = 0)) rfl (fun hg189 => ?_) (fun hg189 => ?_)
    ·replace h := cond_t h hg189
     refine ops_y (wg 15 true 154 rfl rfl rfl rfl) rfl (y_load_boxagg (c := [.int .i64 r167.1.First, v169, .bool r167.1.Done]) 5 Tryz.isAgg24 Tryz.sizeOf24 rfl rfl rfl) ?_
     refine ops_y (wg 15 true 154 rfl rfl rfl rfl) rfl (y_load_boxagg (c := [.int .i64 r32.First, v34, .bool r32.Done]) 3 Tryz.isAgg24 Tryz.sizeOf24 rfl rfl rfl) ?_
     obtain ⟨r190, hr191, h⟩ := obind_some h
     refine ops_t (wg 15 true 154 rfl rfl rfl rfl) rfl (t_callx (vs := [.agg #[.int .i64 r167.1.First, v169, .bool r167.1.Done], .agg #[.int .i64 r32.First, v34, .bool r32.Done]]) (cs := []) [(4, 1), (2, 0)] rfl Tryz.call11 rfl (ref43_Same_ok n r167.1 r32 v169 v34 hr191) (showsX_look 4 rfl views_row (showsX_view 2 rfl views_ro showsX_nil)) rfl (.inr (by rintro _ _ ⟨rfl, rfl⟩ g hg; first | (cases hg; done) | (simp only [List.mem_cons, List.not_mem_nil, or_false] at hg; first | (subst hg; first | exact strict_row | exact strict_box) | (rcases hg with rfl | rfl <;> first | exact strict_row | exact strict_box) | (rcases hg with rfl | rfl | rfl <;> first | exact strict_row | exact strict_box))))) ?_
     rintro _ _ ⟨_, ⟨rfl, rfl⟩, rfl⟩
     refine oy rfl rfl (y_pick (b := true) rfl rfl) ?_
     refine ops_nil ?_
     obtain rfl := some_eq h
     exact goes_cut hL188 r190 [0, 1] (qv2 rfl rfl) (by decide) rfl rfl
    ·replace h := cond_f h hg189
     refine ops_no 15 true 154 rfl rfl rfl rfl rfl ?_
     refine ops_no 15 true 154 rfl rfl rfl rfl rfl ?_
     refine ops_no 15 true 154 rfl rfl rfl rfl rfl ?_
     refine oy rfl rfl (y_pick (b := false) rfl rfl) ?_
     refine ops_nil ?_
     obtain rfl := some_eq h
     exact goes_cut hL188 false [0, 1] (qv2 rfl rfl) (by decide) rfl rfl
   rintro b184 hj
   obtain rfl : o185 = _ := hj
   replace h := after_go ho186
   clear ho186
   refine oy rfl rfl (y_move rfl) ?_
   obtain ⟨o193, h, ho194⟩ := bindJ_some h
   refine ops_cut 3 (Bool) (fun σ => [(1, v3), (162, .bool σ)]) (fun σ => [ro v3 20 (r1.map S_api_Segment.enc), globA]) (fun σ => o193 = .go σ) (fun L195 hL196 => ?_) ?_
   ·refine ops_split 159 b184 rfl (fun hg197 => ?_) (fun hg197 => ?_)
    ·replace h := cond_t h hg197
     obtain ⟨r198, hr199, h⟩ := obind_some h
     refine ops_t (wg 20 true 159 rfl rfl rfl rfl) rfl (t_callx (vs := [.int .i64 2, .int .i64 3, .int .i64 10]) (cs := []) [] rfl Tryz.call38 rfl (playlist_Lag_ok 2 3 10  hr199) showsX_nil rfl (.inl rfl)) ?_
     rintro _ _ ⟨_, ⟨rfl, rfl⟩, rfl⟩
     refine ops_y (wg 20 true 159 rfl rfl rfl rfl) rfl (y_eql rfl rfl) ?_
     refine oy rfl rfl (y_pick (b := true) rfl rfl) ?_
     refine ops_nil ?_
     obtain rfl := some_eq h
     exact goes_cut hL196 (decide (r198 = 16)) [0, 1] (qv2 rfl rfl) (by decide) rfl rfl
    ·replace h := cond_f h hg197
     refine ops_no 20 true 159 rfl rfl rfl rfl rfl ?_
     refine ops_no 20 true 159 rfl rfl rfl rfl rfl ?_
     refine oy rfl rfl (y_pick (b := false) rfl rfl) ?_
     refine ops_nil ?_
     obtain rfl := some_eq h
     exact goes_cut hL196 false [0, 1] (qv2 rfl rfl) (by decide) rfl rfl
   rintro b192 hj
   obtain rfl : o193 = _ := hj
   replace h := after_go ho194
   clear ho194
   refine oy rfl rfl (y_move rfl) ?_
   obtain ⟨o201, h, ho202⟩ := bindJ_some h
   refine ops_cut 3 (Bool) (fun σ => [(1, v3), (166, .bool σ)]) (fun σ => [ro v3 20 (r1.map S_api_Segment.enc), globA]) (fun σ => o201 = .go σ) (fun L203 hL204 => ?_) ?_
   ·refine ops_split 163 b192 rfl (fun hg205 => ?_) (fun hg205 => ?_)
    ·replace h := cond_t h hg205
     obtain ⟨r206, hr207, h⟩ := obind_some h
     refine ops_t (wg 24 true 163 rfl rfl rfl rfl) rfl (t_callx (vs := [.int .i64 2, .int .i64 3, .int .i64 10]) (cs := []) [] rfl Tryz.call39 rfl (playlist_Gap_ok 2 3 10  hr207) showsX_nil rfl (.inl rfl)) ?_
     rintro _ _ ⟨_, ⟨rfl, rfl⟩, rfl⟩
     refine ops_y (wg 24 true 163 rfl rfl rfl rfl) rfl (y_eql rfl rfl) ?_
     refine oy rfl rfl (y_pick (b := true) rfl rfl) ?_
     refine ops_nil ?_
     obtain rfl := some_eq h
     exact goes_cut hL204 (decide (r206 = 1)) [0, 1] (qv2 rfl rfl) (by decide) rfl rfl
    ·replace h := cond_f h hg205
     refine ops_no 24 true 163 rfl rfl rfl rfl rfl ?_
     refine ops_no 24 true 163 rfl rfl rfl rfl rfl ?_
     refine oy rfl rfl (y_pick (b := false) rfl rfl) ?_
     refine ops_nil ?_
     obtain rfl := some_eq h
     exact goes_cut hL204 false [0, 1] (qv2 rfl rfl) (by decide) rfl rfl
   rintro b200 hj
   obtain rfl : o201 = _ := hj
   replace h := after_go ho202
   clear ho202
   refine oy rfl rfl (y_move rfl) ?_
   obtain ⟨o209, h, ho210⟩ := bindJ_some h
   refine ops_cut 8 (Bool) (fun σ => [(175, .bool σ)]) (fun σ => [globA]) (fun σ => o209 = .go σ) (fun L211 hL212 => ?_) ?_
   ·refine ops_split 167 b200 rfl (fun hg213 => ?_) (fun hg213 => ?_)
    ·replace h := cond_t h hg213
     refine ops_y (wg 28 true 167 rfl rfl rfl rfl) rfl (y_move rfl) ?_
     obtain ⟨hb214, h⟩ := need_some h
     refine ops_y (wg 28 true 167 rfl rfl rfl rfl) rfl (y_slice (l := 0) (r := 2) 0 Tryz.runUnderlying22 Tryz.sizeOf57 rfl rfl reads_ro bi0 (bi1 (kd := .i64) rfl) hb214.1 hb214.2.1 (map_len_le hb214.2.2)) ?_
     refine ops_turn (turn_sub (l := (0 : Int).toNat) (r := (2 : Int).toNat) 0 rfl (by omega) (map_toNat_le hb214.2.2)) ?_
     refine ops_turn (retell 2 (g := ro (subS v3 20 ((0 : Int).toNat) ((2 : Int).toNat)) 20 ((r1.take ((2 : Int).toNat)).map S_api_Segment.enc)) rfl (congrArg (ro _ _) (sub_hi _ _ _))) ?_
     refine ops_t (wg 28 true 167 rfl rfl rfl rfl) rfl (t_lit [.int .i64 116, .int .i64 126] Tryz.runUnderlying43 Tryz.sizeOf3 Tryz.zeroValue3 rfl (by decide) (by decide) rfl (by simp [Value.cells, boxP])) ?_
     rintro v215 _ ⟨rfl, _⟩
     refine ops_turn (retell 3 (g := row v215 1 (([116, 126] : List Int).map (eInt .i64))) rfl rfl) ?_
     refine ops_turn (Go.Abs.freeze 3 rfl) ?_
     obtain ⟨r216, hr217, h⟩ := obind_some h
     refine ops_t (wg 28 true 167 rfl rfl rfl rfl) rfl (t_callx (vs := [(subS v3 20 ((0 : Int).toNat) ((2 : Int).toNat)), v215, .int .i64 125, .int .i64 3]) (cs := []) [(2, 0), (3, 0)] rfl Tryz.call20 rfl (playlist_Seen_ok n (r1.take ((2 : Int).toNat)) ([116, 126] : List Int) 125 3 (subS v3 20 ((0 : Int).toNat) ((2 : Int).toNat)) v215 hr217) (showsX_view 2 rfl views_ro (showsX_view 3 rfl views_ro showsX_nil)) rfl (.inl rfl)) ?_
     rintro _ _ ⟨_, ⟨v218, rfl, rfl⟩, rfl⟩
     refine ops_y (wg 28 true 167 rfl rfl rfl rfl) rfl (y_move rfl) ?_
     obtain ⟨r219, hr220, h⟩ := obind_some h
     refine ops_t (wg 28 true 167 rfl rfl rfl rfl) rfl (t_callx (vs := [v3, .int .i64 0, .int .i64 1, .bool false]) (cs := []) [(0, 0)] rfl Tryz.call37 rfl (ref43_Part_ok r1 0 1 false v3 hr220) (showsX_view 0 rfl views_ro showsX_nil) rfl (.inl rfl)) ?_
     rintro _ _ ⟨_, ⟨v221, rfl, rfl⟩, rfl⟩
     obtain ⟨r222, hr223, h⟩ := obind_some h
     refine ops_t (wg 28 true 167 rfl rfl rfl rfl) rfl (t_callx (vs := [.agg #[.int .i64 r216.First, v218, .bool r216.Done], .agg #[.int .i64 r219.First, v221, .bool r219.Done]]) (cs := []) [(4, 0), (5, 1)] rfl Tryz.call11 rfl (ref43_Same_ok n r216 r219 v218 v221 hr223) (showsX_view 4 rfl views_ro (showsX_look 5 rfl views_row showsX_nil)) rfl (.inr (by rintro _ _ ⟨rfl, rfl⟩ g hg; first | (cases hg; done) | (simp only [List.mem_cons, List.not_mem_nil, or_false] at hg; first | (subst hg; first | exact strict_row | exact strict_box) | (rcases hg with rfl | rfl <;> first | exact strict_row | exact strict_box) | (rcases hg with rfl | rfl | rfl <;> first | exact strict_row | exact strict_box))))) ?_
     rintro _ _ ⟨_, ⟨rfl, rfl⟩, rfl⟩
     refine oy rfl rfl (y_pick (b := true) rfl rfl) ?_
     refine ops_nil ?_
     obtain rfl := some_eq h
     exact goes_cut hL212 r222 [1] (qv1 rfl) (by decide) rfl rfl
    ·replace h := cond_f h hg213
     refine ops_no 28 true 167 rfl rfl rfl rfl rfl ?_
     refine ops_no 28 true 167 rfl rfl rfl rfl rfl ?_
     refine ops_no 28 true 167 rfl rfl rfl rfl rfl ?_
     refine ops_no 28 true 167 rfl rfl rfl rfl rfl ?_
     refine ops_no 28 true 167 rfl rfl rfl rfl rfl ?_
     refine ops_no 28 true 167 rfl rfl rfl rfl rfl ?_
     refine ops_no 28 true 167 rfl rfl rfl rfl rfl ?_
     refine oy rfl rfl (y_pick (b := false) rfl rfl) ?_
     refine ops_nil ?_
     obtain rfl := some_eq h
     exact goes_cut hL212 false [1] (qv1 rfl) (by decide) rfl rfl
   rintro b208 hj
   obtain rfl : o209 = _ := hj
   replace h := after_go ho210
   clear ho210
   refine oy rfl rfl (y_assign rfl) ?_
   refine ops_nil ?_
   refine goes_code ?_
   refine run_ret ?_
   obtain rfl := some_eq h
   refine fin_slots [0] [.bool b208] [] [] Tryz.results8 rfl (by decide) rfl ?_
   exact ⟨rfl, rfl⟩
  refine any_cut2 #[true, true, true, true, true, true, true, true, false, false] 2 (Value × Nat × Value) (fun σ => [(1, v3), (7, boxP b35 0), (8, .bool b55), (9, boxP b75 0), (10, .int .i64 r66.2), (72, .agg #[.int .i64 r81.1.First, σ.1, .bool r81.1.Done]), (73, .int .i64 r81.2), (11, boxP σ.2.1 0)]) (fun σ => [row v3 20 (r1.map S_api_Segment.enc), globA, ro v34 20 (r32.L.map S_api_Segment.enc), box b35 [.int .i64 r32.First, v34, .bool r32.Done], ro v71 20 (r63.L.map S_api_Segment.enc), ro v73 20 (r66.1.L.map S_api_Segment.enc), box b75 [.int .i64 r66.1.First, v73, .bool r66.1.Done], ro σ.2.2 20 (r78.L.map S_api_Segment.enc), ro σ.1 20 (r81.1.L.map S_api_Segment.enc), box σ.2.1 [.int .i64 0, .slice none 0 0, .bool false]]) ?_ (fun hK224 => ?_)
  ·rintro ⟨v88, b90, v86⟩
   change AnyL _ _ _ _ _ (VF.of [(1, v3), (7, boxP b35 0), (8, .bool b55), (9, boxP b75 0), (10, .int .i64 r66.2), (72, .agg #[.int .i64 r81.1.First, v88, .bool r81.1.Done]), (73, .int .i64 r81.2), (11, boxP b90 0)]) [row v3 20 (r1.map S_api_Segment.enc), globA, ro v34 20 (r32.L.map S_api_Segment.enc), box b35 [.int .i64 r32.First, v34, .bool r32.Done], ro v71 20 (r63.L.map S_api_Segment.enc), ro v73 20 (r66.1.L.map S_api_Segment.enc), box b75 [.int .i64 r66.1.First, v73, .bool r66.1.Done], ro v86 20 (r78.L.map S_api_Segment.enc), ro v88 20 (r81.1.L.map S_api_Segment.enc), box b90 [.int .i64 0, .slice none 0 0, .bool false]] _
   refine any_all [8] (by kernel_rfl) rfl ?_
   refine anyo_cons ?_ ?_
   ·
    refine anyo_slc 8 rfl reads_ro (fun hs225 hs225o => ?_)
    refine any_t rfl (wn rfl) rfl (t_store 9 Tryz.sizeOf24 rfl rfl rfl rfl (by simp [Value.cells, boxP]) (allL_cons rfl (allL_cons hs225o (allL_cons rfl (allL_nil))))) ?_
    rintro _ _ ⟨rfl, rfl⟩
    refine ⟨(ss (ss (ss (ss (ss (ss (ss (sn)))))))), ?_⟩
    refine any_turn (retell 9 (g := box b90 [.int .i64 r81.1.First, v88, .bool r81.1.Done]) rfl rfl) ?_
    refine any_y 9 rfl (by kernel_rfl) (by kernel_rfl) (by kernel_rfl) (ss (ss (ss (ss (ss (ss (ss (sn)))))))) (wn rfl) rfl (y_assign rfl) ?_
    exact any_weak2 (hK92 (b90, v86, v88)) [0, 1, 2, 3, 4, 5, 6, 7, 8, 9] (by kernel_rfl) (qv7 rfl rfl rfl rfl rfl rfl rfl) (by decide) rfl
   exact anyo_nil
  refine any_cut2 #[true, true, true, true, true, true, true, false, false, false] 3 (Value × Value) (fun σ => [(1, v3), (7, boxP b35 0), (8, .bool b55), (9, boxP b75 0), (10, .int .i64 r66.2), (72, .agg #[.int .i64 r81.1.First, σ.1, .bool r81.1.Done]), (73, .int .i64 r81.2)]) (fun σ => [row v3 20 (r1.map S_api_Segment.enc), globA, ro v34 20 (r32.L.map S_api_Segment.enc), box b35 [.int .i64 r32.First, v34, .bool r32.Done], ro v71 20 (r63.L.map S_api_Segment.enc), ro v73 20 (r66.1.L.map S_api_Segment.enc), box b75 [.int .i64 r66.1.First, v73, .bool r66.1.Done], ro σ.2 20 (r78.L.map S_api_Segment.enc), ro σ.1 20 (r81.1.L.map S_api_Segment.enc)]) ?_ (fun hK226 => ?_)
  ·rintro ⟨v88, v86⟩
   change AnyL _ _ _ _ _ (VF.of [(1, v3), (7, boxP b35 0), (8, .bool b55), (9, boxP b75 0), (10, .int .i64 r66.2), (72, .agg #[.int .i64 r81.1.First, v88, .bool r81.1.Done]), (73, .int .i64 r81.2)]) [row v3 20 (r1.map S_api_Segment.enc), globA, ro v34 20 (r32.L.map S_api_Segment.enc), box b35 [.int .i64 r32.First, v34, .bool r32.Done], ro v71 20 (r63.L.map S_api_Segment.enc), ro v73 20 (r66.1.L.map S_api_Segment.enc), box b75 [.int .i64 r66.1.First, v73, .bool r66.1.Done], ro v86 20 (r78.L.map S_api_Segment.enc), ro v88 20 (r81.1.L.map S_api_Segment.enc)] _
   refine any_all [7] (by kernel_rfl) rfl ?_
   refine anyo_cons ?_ ?_
   ·
    refine any_t rfl (wn rfl) rfl (t_alloc Tryz.zeroValue24) ?_
    rintro _ _ ⟨b227, rfl, rfl⟩
    refine ⟨(ss (ss (ss (ss (ss (ss (ss (sn)))))))), ?_⟩
    exact any_weak2 (hK224 (v88, b227, v86)) [0, 1, 2, 3, 4, 5, 6, 7, 8, 9] (by kernel_rfl) (qv8 rfl rfl rfl rfl rfl rfl rfl rfl) (by decide) rfl
   exact anyo_nil
  refine any_cut2 #[true, true, true, false, false, false, false, true, false, false] 6 (Value × Nat) (fun σ => [(1, v3), (7, boxP b35 0), (8, .bool b55), (9, boxP b75 0), (10, .int .i64 r66.2), (70, .agg #[.int .i64 r32.First, v34, .bool r32.Done]), (69, .agg #[.int .i64 r78.First, σ.1, .bool r78.Done]), (11, boxP σ.2 0)]) (fun σ => [row v3 20 (r1.map S_api_Segment.enc), globA, ro v34 20 (r32.L.map S_api_Segment.enc), box b35 [.int .i64 r32.First, v34, .bool r32.Done], ro v71 20 (r63.L.map S_api_Segment.enc), ro v73 20 (r66.1.L.map S_api_Segment.enc), box b75 [.int .i64 r66.1.First, v73, .bool r66.1.Done], row σ.1 20 (r78.L.map S_api_Segment.enc), box σ.2 [.int .i64 0, .slice none 0 0, .bool false]]) ?_ (fun hK228 => ?_)
  ·rintro ⟨v86, b89⟩
   change AnyL _ _ _ _ _ (VF.of [(1, v3), (7, boxP b35 0), (8, .bool b55), (9, boxP b75 0), (10, .int .i64 r66.2), (70, .agg #[.int .i64 r32.First, v34, .bool r32.Done]), (69, .agg #[.int .i64 r78.First, v86, .bool r78.Done]), (11, boxP b89 0)]) [row v3 20 (r1.map S_api_Segment.enc), globA, ro v34 20 (r32.L.map S_api_Segment.enc), box b35 [.int .i64 r32.First, v34, .bool r32.Done], ro v71 20 (r63.L.map S_api_Segment.enc), ro v73 20 (r66.1.L.map S_api_Segment.enc), box b75 [.int .i64 r66.1.First, v73, .bool r66.1.Done], row v86 20 (r78.L.map S_api_Segment.enc), box b89 [.int .i64 0, .slice none 0 0, .bool false]] _
   refine any_all [3] (by kernel_rfl) rfl ?_
   refine anyo_cons ?_ ?_
   ·
    refine anyo_turn (Go.Abs.freeze 7 rfl) ?_
    refine any_t rfl (wn rfl) rfl (t_callx (vs := [.agg #[.int .i64 r78.First, v86, .bool r78.Done], .agg #[.int .i64 r32.First, v34, .bool r32.Done], .int .i64 4]) (cs := []) [(7, 0), (2, 0)] rfl Tryz.call9 rfl (playlist_Merge_ok n r78 r32 4 v86 v34 hr82) (showsX_view 7 rfl views_ro (showsX_view 2 rfl views_ro showsX_nil)) rfl (.inl rfl)) ?_
    rintro _ _ ⟨_, ⟨v229, rfl, rfl⟩, rfl⟩
    refine ⟨(ss (ss (ss (ss (ss (ss (ss (sn)))))))), ?_⟩
    refine any_y 4 rfl (by kernel_rfl) (by kernel_rfl) (by kernel_rfl) (ss (ss (ss (ss (ss (ss (ss (sn)))))))) (wn rfl) rfl (y_move rfl) ?_
    refine any_y 5 rfl (by kernel_rfl) (by kernel_rfl) (by kernel_rfl) (ss (ss (ss (ss (ss (ss (ss (sn)))))))) (wn rfl) rfl (y_extract rfl rfl) ?_
    refine any_y 6 rfl (by kernel_rfl) (by kernel_rfl) (by kernel_rfl) (ss (ss (ss (ss (ss (ss (ss (sn)))))))) (wn rfl) rfl (y_extract rfl rfl) ?_
    exact any_weak2 (hK224 (v229, b89, v86)) [0, 1, 2, 3, 4, 5, 6, 7, 9, 8] (by kernel_rfl) (qv8 rfl rfl rfl rfl rfl rfl rfl rfl) (by decide) rfl
   exact anyo_nil
  refine any_cut2 #[true, true, true, false, false, false, false, false, false, false] 7 (Value) (fun σ => [(1, v3), (7, boxP b35 0), (8, .bool b55), (9, boxP b75 0), (10, .int .i64 r66.2), (70, .agg #[.int .i64 r32.First, v34, .bool r32.Done]), (69, .agg #[.int .i64 r78.First, σ, .bool r78.Done])]) (fun σ => [row v3 20 (r1.map S_api_Segment.enc), globA, ro v34 20 (r32.L.map S_api_Segment.enc), box b35 [.int .i64 r32.First, v34, .bool r32.Done], ro v71 20 (r63.L.map S_api_Segment.enc), ro v73 20 (r66.1.L.map S_api_Segment.enc), box b75 [.int .i64 r66.1.First, v73, .bool r66.1.Done], row σ 20 (r78.L.map S_api_Segment.enc)]) ?_ (fun hK230 => ?_)
  ·rintro v86
   change AnyL _ _ _ _ _ (VF.of [(1, v3), (7, boxP b35 0), (8, .bool b55), (9, boxP b75 0), (10, .int .i64 r66.2), (70, .agg #[.int .i64 r32.First, v34, .bool r32.Done]), (69, .agg #[.int .i64 r78.First, v86, .bool r78.Done])]) [row v3 20 (r1.map S_api_Segment.enc), globA, ro v34 20 (r32.L.map S_api_Segment.enc), box b35 [.int .i64 r32.First, v34, .bool r32.Done], ro v71 20 (r63.L.map S_api_Segment.enc), ro v73 20 (r66.1.L.map S_api_Segment.enc), box b75 [.int .i64 r66.1.First, v73, .bool r66.1.Done], row v86 20 (r78.L.map S_api_Segment.enc)] _
   refine any_all [3, 7] (by kernel_rfl) rfl ?_
   refine anyo_cons ?_ ?_
   ·
    refine anyo_turn (Go.Abs.freeze 7 rfl) ?_
    refine any_t rfl (wn rfl) rfl (t_callx (vs := [.agg #[.int .i64 r78.First, v86, .bool r78.Done], .agg #[.int .i64 r32.First, v34, .bool r32.Done], .int .i64 4]) (cs := []) [(7, 0), (2, 0)] rfl Tryz.call9 rfl (playlist_Merge_ok n r78 r32 4 v86 v34 hr82) (showsX_view 7 rfl views_ro (showsX_view 2 rfl views_ro showsX_nil)) rfl (.inl rfl)) ?_
    rintro _ _ ⟨_, ⟨v231, rfl, rfl⟩, rfl⟩
    refine ⟨(ss (ss (ss (ss (ss (ss (ss (sn)))))))), ?_⟩
    refine any_y 4 rfl (by kernel_rfl) (by kernel_rfl) (by kernel_rfl) (ss (ss (ss (ss (ss (ss (ss (sn)))))))) (wn rfl) rfl (y_move rfl) ?_
    refine any_y 5 rfl (by kernel_rfl) (by kernel_rfl) (by kernel_rfl) (ss (ss (ss (ss (ss (ss (ss (sn)))))))) (wn rfl) rfl (y_extract rfl rfl) ?_
    refine any_y 6 rfl (by kernel_rfl) (by kernel_rfl) (by kernel_rfl) (ss (ss (ss (ss (ss (ss (ss (sn)))))))) (wn rfl) rfl (y_extract rfl rfl) ?_
    exact any_weak2 (hK226 (v231, v86)) [0, 1, 2, 3, 4, 5, 6, 7, 8] (by kernel_rfl) (qv7 rfl rfl rfl rfl rfl rfl rfl) (by decide) rfl
   refine anyo_cons ?_ ?_
   ·
    refine any_t rfl (wn rfl) rfl (t_alloc Tryz.zeroValue24) ?_
    rintro _ _ ⟨b232, rfl, rfl⟩
    refine ⟨(ss (ss (ss (ss (ss (ss (ss (sn)))))))), ?_⟩
    exact any_weak2 (hK228 (v86, b232)) [0, 1, 2, 3, 4, 5, 6, 7, 8] (by kernel_rfl) (qv8 rfl rfl rfl rfl rfl rfl rfl rfl) (by decide) rfl
   exact anyo_nil
  refine any_cut2 #[true, false, true, false, false, false, false, true, false, false] 7 (Nat) (fun σ => [(1, v3), (7, boxP b35 0), (8, .bool b55), (9, boxP b75 0), (10, .int .i64 r66.2), (68, v3), (70, .agg #[.int .i64 r32.First, v34, .bool r32.Done]), (11, boxP σ 0)]) (fun σ => [row v3 20 (r1.map S_api_Segment.enc), globA, ro v34 20 (r32.L.map S_api_Segment.enc), box b35 [.int .i64 r32.First, v34, .bool r32.Done], ro v71 20 (r63.L.map S_api_Segment.enc), ro v73 20 (r66.1.L.map S_api_Segment.enc), box b75 [.int .i64 r66.1.First, v73, .bool r66.1.Done], box σ [.int .i64 0, .slice none 0 0, .bool false]]) ?_ (fun hK233 => ?_)
  ·rintro b87
   change AnyL _ _ _ _ _ (VF.of [(1, v3), (7, boxP b35 0), (8, .bool b55), (9, boxP b75 0), (10, .int .i64 r66.2), (68, v3), (70, .agg #[.int .i64 r32.First, v34, .bool r32.Done]), (11, boxP b87 0)]) [row v3 20 (r1.map S_api_Segment.enc), globA, ro v34 20 (r32.L.map S_api_Segment.enc), box b35 [.int .i64 r32.First, v34, .bool r32.Done], ro v71 20 (r63.L.map S_api_Segment.enc), ro v73 20 (r66.1.L.map S_api_Segment.enc), box b75 [.int .i64 r66.1.First, v73, .bool r66.1.Done], box b87 [.int .i64 0, .slice none 0 0, .bool false]] _
   refine any_all [1] (by kernel_rfl) rfl ?_
   refine anyo_cons ?_ ?_
   ·
    refine any_t rfl (wn rfl) rfl (t_callx (vs := [v3, .int .i64 0, .int .i64 2, .bool false]) (cs := []) [(0, 1)] rfl Tryz.call37 rfl (ref43_Part_ok r1 0 2 false v3 hr79) (showsX_look 0 rfl views_row showsX_nil) rfl (.inr (by rintro _ _ ⟨_, rfl, rfl⟩ g hg; first | (cases hg; done) | (simp only [List.mem_cons, List.not_mem_nil, or_false] at hg; first | (subst hg; first | exact strict_row | exact strict_box) | (rcases hg with rfl | rfl <;> first | exact strict_row | exact strict_box) | (rcases hg with rfl | rfl | rfl <;> first | exact strict_row | exact strict_box))))) ?_
    rintro _ _ ⟨_, ⟨v234, rfl, rfl⟩, rfl⟩
    refine ⟨(ss (ss (ss (ss (ss (ss (ss (sn)))))))), ?_⟩
    exact any_weak2 (hK228 (v234, b87)) [0, 1, 2, 3, 4, 5, 6, 8, 7] (by kernel_rfl) (qv8 rfl rfl rfl rfl rfl rfl rfl rfl) (by decide) rfl
   exact anyo_nil
  refine any_all [1, 7] (by kernel_rfl) rfl ?_
  refine anyo_cons ?_ ?_
  ·
   refine any_t rfl (wn rfl) rfl (t_callx (vs := [v3, .int .i64 0, .int .i64 2, .bool false]) (cs := []) [(0, 1)] rfl Tryz.call37 rfl (ref43_Part_ok r1 0 2 false v3 hr79) (showsX_look 0 rfl views_row showsX_nil) rfl (.inr (by rintro _ _ ⟨_, rfl, rfl⟩ g hg; first | (cases hg; done) | (simp only [List.mem_cons, List.not_mem_nil, or_false] at hg; first | (subst hg; first | exact strict_row | exact strict_box) | (rcases hg with rfl | rfl <;> first | exact strict_row | exact strict_box) | (rcases hg with rfl | rfl | rfl <;> first | exact strict_row | exact strict_box))))) ?_
   rintro _ _ ⟨_, ⟨v235, rfl, rfl⟩, rfl⟩
   refine ⟨(ss (ss (ss (ss (ss (ss (ss (sn)))))))), ?_⟩
   exact any_weak2 (hK230 v235) [0, 1, 2, 3, 4, 5, 6, 7] (by kernel_rfl) (qv7 rfl rfl rfl rfl rfl rfl rfl) (by decide) rfl
  refine anyo_cons ?_ ?_
  ·
   refine any_t rfl (wn rfl) rfl (t_alloc Tryz.zeroValue24) ?_
   rintro _ _ ⟨b236, rfl, rfl⟩
   refine ⟨(ss (ss (ss (ss (ss (ss (ss (sn)))))))), ?_⟩
   exact any_weak2 (hK233 b236) [0, 1, 2, 3, 4, 5, 6, 7] (by kernel_rfl) (qv8 rfl rfl rfl rfl rfl rfl rfl rfl) (by decide) rfl
  exact anyo_nil
 refine any_cut2 #[true, true, true, true, true, true, true, true, false, false] 2 (Value × Nat × Value) (fun σ => [(1, v3), (7, boxP b35 0), (8, .bool b55), (65, .agg #[.int .i64 r66.1.First, σ.1, .bool r66.1.Done]), (66, .int .i64 r66.2), (9, boxP σ.2.1 0)]) (fun σ => [row v3 20 (r1.map S_api_Segment.enc), globA, ro v34 20 (r32.L.map S_api_Segment.enc), box b35 [.int .i64 r32.First, v34, .bool r32.Done], ro σ.2.2 20 (r63.L.map S_api_Segment.enc), ro σ.1 20 (r66.1.L.map S_api_Segment.enc), box σ.2.1 [.int .i64 0, .slice none 0 0, .bool false]]) ?_ (fun hK237 => ?_)
 ·rintro ⟨v73, b75, v71⟩
  change AnyL _ _ _ _ _ (VF.of [(1, v3), (7, boxP b35 0), (8, .bool b55), (65, .agg #[.int .i64 r66.1.First, v73, .bool r66.1.Done]), (66, .int .i64 r66.2), (9, boxP b75 0)]) [row v3 20 (r1.map S_api_Segment.enc), globA, ro v34 20 (r32.L.map S_api_Segment.enc), box b35 [.int .i64 r32.First, v34, .bool r32.Done], ro v71 20 (r63.L.map S_api_Segment.enc), ro v73 20 (r66.1.L.map S_api_Segment.enc), box b75 [.int .i64 0, .slice none 0 0, .bool false]] _
  refine any_all [8] (by kernel_rfl) rfl ?_
  refine anyo_cons ?_ ?_
  ·
   refine anyo_slc 5 rfl reads_ro (fun hs238 hs238o => ?_)
   refine any_t rfl (wn rfl) rfl (t_store 6 Tryz.sizeOf24 rfl rfl rfl rfl (by simp [Value.cells, boxP]) (allL_cons rfl (allL_cons hs238o (allL_cons rfl (allL_nil))))) ?_
   rintro _ _ ⟨rfl, rfl⟩
   refine ⟨(ss (ss (se (ss (sn))))), ?_⟩
   refine any_turn (retell 6 (g := box b75 [.int .i64 r66.1.First, v73, .bool r66.1.Done]) rfl rfl) ?_
   refine any_y 9 rfl (by kernel_rfl) (by kernel_rfl) (by kernel_rfl) (ss (ss (se (ss (sn))))) (wn rfl) rfl (y_assign rfl) ?_
   exact any_weak2 (hK77 (b75, v71, v73)) [0, 1, 2, 3, 4, 5, 6] (by kernel_rfl) (qv5 rfl rfl rfl rfl rfl) (by decide) rfl
  exact anyo_nil
 refine any_cut2 #[true, true, true, true, true, true, true, false, false, false] 3 (Value × Value) (fun σ => [(1, v3), (7, boxP b35 0), (8, .bool b55), (65, .agg #[.int .i64 r66.1.First, σ.1, .bool r66.1.Done]), (66, .int .i64 r66.2)]) (fun σ => [row v3 20 (r1.map S_api_Segment.enc), globA, ro v34 20 (r32.L.map S_api_Segment.enc), box b35 [.int .i64 r32.First, v34, .bool r32.Done], ro σ.2 20 (r63.L.map S_api_Segment.enc), ro σ.1 20 (r66.1.L.map S_api_Segment.enc)]) ?_ (fun hK239 => ?_)
 ·rintro ⟨v73, v71⟩
  change AnyL _ _ _ _ _ (VF.of [(1, v3), (7, boxP b35 0), (8, .bool b55), (65, .agg #[.int .i64 r66.1.First, v73, .bool r66.1.Done]), (66, .int .i64 r66.2)]) [row v3 20 (r1.map S_api_Segment.enc), globA, ro v34 20 (r32.L.map S_api_Segment.enc), box b35 [.int .i64 r32.First, v34, .bool r32.Done], ro v71 20 (r63.L.map S_api_Segment.enc), ro v73 20 (r66.1.L.map S_api_Segment.enc)] _
  refine any_all [7] (by kernel_rfl) rfl ?_
  refine anyo_cons ?_ ?_
  ·
   refine any_t rfl (wn rfl) rfl (t_alloc Tryz.zeroValue24) ?_
   rintro _ _ ⟨b240, rfl, rfl⟩
   refine ⟨(ss (ss (se (ss (sn))))), ?_⟩
   exact any_weak2 (hK237 (v73, b240, v71)) [0, 1, 2, 3, 4, 5, 6] (by kernel_rfl) (qv6 rfl rfl rfl rfl rfl rfl) (by decide) rfl
  exact anyo_nil
 refine any_cut2 #[true, true, true, false, false, false, false, true, false, false] 6 (Value × Nat) (fun σ => [(1, v3), (7, boxP b35 0), (8, .bool b55), (63, .agg #[.int .i64 r32.First, v34, .bool r32.Done]), (62, .agg #[.int .i64 r63.First, σ.1, .bool r63.Done]), (9, boxP σ.2 0)]) (fun σ => [row v3 20 (r1.map S_api_Segment.enc), globA, row v34 20 (r32.L.map S_api_Segment.enc), box b35 [.int .i64 r32.First, v34, .bool r32.Done], row σ.1 20 (r63.L.map S_api_Segment.enc), box σ.2 [.int .i64 0, .slice none 0 0, .bool false]]) ?_ (fun hK241 => ?_)
 ·rintro ⟨v71, b74⟩
  change AnyL _ _ _ _ _ (VF.of [(1, v3), (7, boxP b35 0), (8, .bool b55), (63, .agg #[.int .i64 r32.First, v34, .bool r32.Done]), (62, .agg #[.int .i64 r63.First, v71, .bool r63.Done]), (9, boxP b74 0)]) [row v3 20 (r1.map S_api_Segment.enc), globA, row v34 20 (r32.L.map S_api_Segment.enc), box b35 [.int .i64 r32.First, v34, .bool r32.Done], row v71 20 (r63.L.map S_api_Segment.enc), box b74 [.int .i64 0, .slice none 0 0, .bool false]] _
  refine any_all [3] (by kernel_rfl) rfl ?_
  refine anyo_cons ?_ ?_
  ·
   refine anyo_turn (Go.Abs.freeze 4 rfl) ?_
   refine anyo_turn (Go.Abs.freeze 2 rfl) ?_
   refine any_t rfl (wn rfl) rfl (t_callx (vs := [.agg #[.int .i64 r63.First, v71, .bool r63.Done], .agg #[.int .i64 r32.First, v34, .bool r32.Done], .int .i64 3]) (cs := []) [(4, 0), (2, 0)] rfl Tryz.call9 rfl (playlist_Merge_ok n r63 r32 3 v71 v34 hr67) (showsX_view 4 rfl views_ro (showsX_view 2 rfl views_ro showsX_nil)) rfl (.inl rfl)) ?_
   rintro _ _ ⟨_, ⟨v242, rfl, rfl⟩, rfl⟩
   refine ⟨(ss (ss (se (ss (sn))))), ?_⟩
   refine any_y 4 rfl (by kernel_rfl) (by kernel_rfl) (by kernel_rfl) (ss (ss (se (ss (sn))))) (wn rfl) rfl (y_move rfl) ?_
   refine any_y 5 rfl (by kernel_rfl) (by kernel_rfl) (by kernel_rfl) (ss (ss (se (ss (sn))))) (wn rfl) rfl (y_extract rfl rfl) ?_
   refine any_y 6 rfl (by kernel_rfl) (by kernel_rfl) (by kernel_rfl) (ss (ss (se (ss (sn))))) (wn rfl) rfl (y_extract rfl rfl) ?_
   exact any_weak2 (hK237 (v242, b74, v71)) [0, 1, 2, 3, 4, 6, 5] (by kernel_rfl) (qv6 rfl rfl rfl rfl rfl rfl) (by decide) rfl
  exact anyo_nil
 refine any_cut2 #[true, true, true, false, false, false, false, false, false, false] 7 (Value) (fun σ => [(1, v3), (7, boxP b35 0), (8, .bool b55), (63, .agg #[.int .i64 r32.First, v34, .bool r32.Done]), (62, .agg #[.int .i64 r63.First, σ, .bool r63.Done])]) (fun σ => [row v3 20 (r1.map S_api_Segment.enc), globA, row v34 20 (r32.L.map S_api_Segment.enc), box b35 [.int .i64 r32.First, v34, .bool r32.Done], row σ 20 (r63.L.map S_api_Segment.enc)]) ?_ (fun hK243 => ?_)
 ·rintro v71
  change AnyL _ _ _ _ _ (VF.of [(1, v3), (7, boxP b35 0), (8, .bool b55), (63, .agg #[.int .i64 r32.First, v34, .bool r32.Done]), (62, .agg #[.int .i64 r63.First, v71, .bool r63.Done])]) [row v3 20 (r1.map S_api_Segment.enc), globA, row v34 20 (r32.L.map S_api_Segment.enc), box b35 [.int .i64 r32.First, v34, .bool r32.Done], row v71 20 (r63.L.map S_api_Segment.enc)] _
  refine any_all [3, 7] (by kernel_rfl) rfl ?_
  refine anyo_cons ?_ ?_
  ·
   refine anyo_turn (Go.Abs.freeze 4 rfl) ?_
   refine anyo_turn (Go.Abs.freeze 2 rfl) ?_
   refine any_t rfl (wn rfl) rfl (t_callx (vs := [.agg #[.int .i64 r63.First, v71, .bool r63.Done], .agg #[.int .i64 r32.First, v34, .bool r32.Done], .int .i64 3]) (cs := []) [(4, 0), (2, 0)] rfl Tryz.call9 rfl (playlist_Merge_ok n r63 r32 3 v71 v34 hr67) (showsX_view 4 rfl views_ro (showsX_view 2 rfl views_ro showsX_nil)) rfl (.inl rfl)) ?_
   rintro _ _ ⟨_, ⟨v244, rfl, rfl⟩, rfl⟩
   refine ⟨(ss (ss (se (ss (sn))))), ?_⟩
   refine any_y 4 rfl (by kernel_rfl) (by kernel_rfl) (by kernel_rfl) (ss (ss (se (ss (sn))))) (wn rfl) rfl (y_move rfl) ?_
   refine any_y 5 rfl (by kernel_rfl) (by kernel_rfl) (by kernel_rfl) (ss (ss (se (ss (sn))))) (wn rfl) rfl (y_extract rfl rfl) ?_
   refine any_y 6 rfl (by kernel_rfl) (by kernel_rfl) (by kernel_rfl) (ss (ss (se (ss (sn))))) (wn rfl) rfl (y_extract rfl rfl) ?_
   exact any_weak2 (hK239 (v244, v71)) [0, 1, 2, 3, 4, 5] (by kernel_rfl) (qv5 rfl rfl rfl rfl rfl) (by decide) rfl
  refine anyo_cons ?_ ?_
  ·
   refine any_t rfl (wn rfl) rfl (t_alloc Tryz.zeroValue24) ?_
   rintro _ _ ⟨b245, rfl, rfl⟩
   refine ⟨(ss (ss (se (ss (sn))))), ?_⟩
   exact any_weak2 (hK241 (v71, b245)) [0, 1, 2, 3, 4, 5] (by kernel_rfl) (qv6 rfl rfl rfl rfl rfl rfl) (by decide) rfl
  exact anyo_nil
 refine any_cut2 #[true, false, true, false, false, false, false, true, false, false] 7 (Nat) (fun σ => [(1, v3), (7, boxP b35 0), (8, .bool b55), (61, v3), (63, .agg #[.int .i64 r32.First, v34, .bool r32.Done]), (9, boxP σ 0)]) (fun σ => [row v3 20 (r1.map S_api_Segment.enc), globA, row v34 20 (r32.L.map S_api_Segment.enc), box b35 [.int .i64 r32.First, v34, .bool r32.Done], box σ [.int .i64 0, .slice none 0 0, .bool false]]) ?_ (fun hK246 => ?_)
 ·rintro b72
  change AnyL _ _ _ _ _ (VF.of [(1, v3), (7, boxP b35 0), (8, .bool b55), (61, v3), (63, .agg #[.int .i64 r32.First, v34, .bool r32.Done]), (9, boxP b72 0)]) [row v3 20 (r1.map S_api_Segment.enc), globA, row v34 20 (r32.L.map S_api_Segment.enc), box b35 [.int .i64 r32.First, v34, .bool r32.Done], box b72 [.int .i64 0, .slice none 0 0, .bool false]] _
  refine any_all [1] (by kernel_rfl) rfl ?_
  refine anyo_cons ?_ ?_
  ·
   refine any_t rfl (wn rfl) rfl (t_callx (vs := [v3, .int .i64 0, .int .i64 2, .bool false]) (cs := []) [(0, 1)] rfl Tryz.call37 rfl (ref43_Part_ok r1 0 2 false v3 hr64) (showsX_look 0 rfl views_row showsX_nil) rfl (.inr (by rintro _ _ ⟨_, rfl, rfl⟩ g hg; first | (cases hg; done) | (simp only [List.mem_cons, List.not_mem_nil, or_false] at hg; first | (subst hg; first | exact strict_row | exact strict_box) | (rcases hg with rfl | rfl <;> first | exact strict_row | exact strict_box) | (rcases hg with rfl | rfl | rfl <;> first | exact strict_row | exact strict_box))))) ?_
   rintro _ _ ⟨_, ⟨v247, rfl, rfl⟩, rfl⟩
   refine ⟨(ss (ss (se (ss (sn))))), ?_⟩
   exact any_weak2 (hK241 (v247, b72)) [0, 1, 2, 3, 5, 4] (by kernel_rfl) (qv6 rfl rfl rfl rfl rfl rfl) (by decide) rfl
  exact anyo_nil
 refine any_all [1, 7] (by kernel_rfl) rfl ?_
 refine anyo_cons ?_ ?_
 ·
  refine any_t rfl (wn rfl) rfl (t_callx (vs := [v3, .int .i64 0, .int .i64 2, .bool false]) (cs := []) [(0, 1)] rfl Tryz.call37 rfl (ref43_Part_ok r1 0 2 false v3 hr64) (showsX_look 0 rfl views_row showsX_nil) rfl (.inr (by rintro _ _ ⟨_, rfl, rfl⟩ g hg; first | (cases hg; done) | (simp only [List.mem_cons, List.not_mem_nil, or_false] at hg; first | (subst hg; first | exact strict_row | exact strict_box) | (rcases hg with rfl | rfl <;> first | exact strict_row | exact strict_box) | (rcases hg with rfl | rfl | rfl <;> first | exact strict_row | exact strict_box))))) ?_
  rintro _ _ ⟨_, ⟨v248, rfl, rfl⟩, rfl⟩
  refine ⟨(ss (ss (se (ss (sn))))), ?_⟩
  exact any_weak2 (hK243 v248) [0, 1, 2, 3, 4] (by kernel_rfl) (qv5 rfl rfl rfl rfl rfl) (by decide) rfl
 refine anyo_cons ?_ ?_
 ·
  refine any_t rfl (wn rfl) rfl (t_alloc Tryz.zeroValue24) ?_
  rintro _ _ ⟨b249, rfl, rfl⟩
  refine ⟨(ss (ss (se (ss (sn))))), ?_⟩
  exact any_weak2 (hK246 b249) [0, 1, 2, 3, 4] (by kernel_rfl) (qv6 rfl rfl rfl rfl rfl rfl) (by decide) rfl
 exact anyo_nil

end Go.Proofs.YtbgpojdmdnkeaaaGreatDoor
