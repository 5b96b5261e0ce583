/-
  The law PlaylistsDifferLittle, lifted.
-/
import Derived.Test.YtbgpojdmdnkeaaaDoorM8
namespace Go.Proofs.YtbgpojdmdnkeaaaDoor
open Go.Abs
set_option linter.unusedVariables false
set_option linter.unusedSimpArgs false
set_option maxRecDepth 20000
set_option maxHeartbeats 4000000

def law43_PlaylistsDifferLittle_L2 (x35 : (List Int)) : (Int × Int) → Option (Lp (Int × Int) (Lp (Int) (Lp (Int × Int) (Lp (Int) (Bool))))) :=
 fun (hop_37, s_38) =>
  cond (decide (s_38 < (x35.length : Int)))
   (idx x35 s_38 fun x44 =>
   some (.go ((max hop_37 x44), (IntKind.i64.wrap (s_38 + 1)))))
   (some (.stop (.go hop_37)))
def law43_PlaylistsDifferLittle_L1 (n : Nat) (parents_1 : (List Int)) (delays_2 : (List (List Int))) : (Int × Int) → Option (Lp (Int × Int) (Lp (Int) (Bool))) :=
 fun (hop_23, k_24) =>
  cond (decide (k_24 < (parents_1.length : Int)))
   (bindJ (S := Int)
    (idx delays_2 k_24 fun x35 =>
    iter (law43_PlaylistsDifferLittle_L2 x35) n (hop_23, 0))
   (fun hop_30 =>
    some (.go (hop_30, (IntKind.i64.wrap (k_24 + 1))))))
   (some (.stop (.go hop_23)))
def law43_PlaylistsDifferLittle_L3 (l_0 : (List S_api_Segment)) : (Int × Int) → Option (Lp (Int × Int) (Lp (Int) (Bool))) :=
 fun (shortest_50, s_51) =>
  cond (decide (s_51 < (l_0.length : Int)))
   (idx l_0 s_51 fun x57 =>
   some (.go ((min shortest_50 x57.Len), (IntKind.i64.wrap (s_51 + 1)))))
   (some (.stop (.go shortest_50)))
def law43_PlaylistsDifferLittle_L5 (n : Nat) (l_0 : (List S_api_Segment)) (t_3 : Int) (r9 : (List (List Int)) × Int) (hop_18 : Int) (shortest_45 : Int) (r62 : (List Int)) (s_69 : Int) : (Int) → Option (Lp (Int) (Lp (Unit) (Lp (Int) (Lp (Unit) (Bool))))) :=
 fun s_79 =>
  cond (decide (s_79 < (r9.1.length : Int)))
   (idx r9.1 s_69 fun x85 =>
   obind (playlist_Seen n l_0 x85 t_3 100) fun r87 =>
   idx r9.1 s_79 fun x90 =>
   obind (playlist_Seen n l_0 x90 t_3 100) fun r92 =>
   idx r62 s_69 fun x129 =>
   idx r62 s_79 fun x130 =>
   obind (playlist_Next r87) fun r131 =>
   obind (playlist_Next r92) fun r133 =>
   obind (playlist_Gap (max x129 x130) hop_18 shortest_45) fun r135 =>
   cond (decide (r135 < (IntKind.i64.wrap (r131 - r133))))
    (some (.stop (.stop (.stop (.stop false)))))
    (obind (playlist_Merge n r87 r92 100) fun r138 =>
    bindJ (S := Bool)
     (cond (decide (r138.2 ≠ 0))
      (some (.go true))
      (obind (playlist_Next r138.1) fun r149 =>
      obind (playlist_Next r87) fun r151 =>
      obind (playlist_Next r92) fun r153 =>
      some (.go (decide (r149 ≠ (max r151 r153))))))
    (fun b143 =>
     cond b143
      (some (.stop (.stop (.stop (.stop false)))))
      (some (.go (IntKind.i64.wrap (s_79 + 1)))))))
   (some (.stop (.go ())))
def law43_PlaylistsDifferLittle_L4 (n : Nat) (l_0 : (List S_api_Segment)) (t_3 : Int) (r9 : (List (List Int)) × Int) (hop_18 : Int) (shortest_45 : Int) (r62 : (List Int)) : (Int) → Option (Lp (Int) (Lp (Unit) (Bool))) :=
 fun s_69 =>
  cond (decide (s_69 < (r9.1.length : Int)))
   (bindJ (S := Unit)
    (iter (law43_PlaylistsDifferLittle_L5 n l_0 t_3 r9 hop_18 shortest_45 r62 s_69) n 0)
   (fun _ =>
    some (.go (IntKind.i64.wrap (s_69 + 1)))))
   (some (.stop (.go ())))
def law43_PlaylistsDifferLittle (n : Nat) (l_0 : (List S_api_Segment)) (parents_1 : (List Int)) (delays_2 : (List (List Int))) (t_3 : Int) : Option (Bool) :=
 obind (law43_small n l_0 parents_1 delays_2) fun r1 =>
 cond ((!r1) || decide ((l_0.length : Int) = 0))
  (obind (law43_sanity n) fun r7 =>
  some r7)
  (obind (playlist_Spread n l_0 parents_1 delays_2) fun r9 =>
  cond (decide (r9.2 ≠ 0))
   (obind (law43_sanity n) fun r13 =>
   some (r13 && decide ((r9.1.length : Int) = 0)))
   (bindJ (S := Int)
    (iter (law43_PlaylistsDifferLittle_L1 n parents_1 delays_2) n (0, 1))
   (fun hop_18 =>
    bindJ (S := Int)
     (iter (law43_PlaylistsDifferLittle_L3 l_0) n (60000, 0))
    (fun shortest_45 =>
     cond (decide (1073741824 < hop_18))
      (obind (law43_sanity n) fun r60 =>
      some r60)
      (obind (law43_depths n parents_1) fun r62 =>
      bindJ (S := Unit)
       (iter (law43_PlaylistsDifferLittle_L4 n l_0 t_3 r9 hop_18 shortest_45 r62) n 0)
      (fun _ =>
       obind (law43_sanity n) fun r246 =>
       some r246))))))
theorem law43_PlaylistsDifferLittle_ok (n : Nat) (l_0 : (List S_api_Segment)) (parents_1 : (List Int)) (delays_2 : (List (List Int))) (t_3 : Int) (l_0v : Value) (parents_1v : Value) (delays_2v : Value) {r : Bool} (h : law43_PlaylistsDifferLittle n l_0 parents_1 delays_2 t_3 = some r) :
  Meets Tryd.prog 6 [l_0v, parents_1v, delays_2v, .int .i64 t_3] [ro l_0v 20 (l_0.map S_api_Segment.enc), ro parents_1v 1 (parents_1.map (eInt .i64)), nro delays_2v NC_L_int_46 delays_2, globA] (fun v G => v = .bool r ∧ G = []) := by
 refine fn_of_run Tryd.func6 rfl Tryd.ntmps6 rfl (fun w0 o0 => ?_)
 refine run_seq ?_
 refine run_region' ?_
 refine oy rfl rfl (y_assign rfl) ?_
 refine ops_nil ?_
 refine goes_code ?_
 refine run_seq ?_
 refine run_seq ?_
 refine run_region' ?_
 refine oy rfl rfl (y_move rfl) ?_
 refine oy rfl rfl (y_move rfl) ?_
 refine oy rfl rfl (y_move rfl) ?_
 obtain ⟨r1, hr2, h⟩ := obind_some h
 refine ot rfl rfl (t_callx (vs := [l_0v, parents_1v, delays_2v]) (cs := []) [(0, 0), (1, 0), (2, 0)] rfl Tryd.call16 rfl (law43_small_ok n l_0 parents_1 delays_2 l_0v parents_1v delays_2v hr2) (showsX_view 0 rfl views_ro (showsX_view 1 rfl views_ro (showsX_view 2 rfl views_nro showsX_nil))) rfl (.inl rfl)) ?_
 rintro _ _ ⟨_, ⟨rfl, rfl⟩, rfl⟩
 refine oy rfl rfl (y_not rfl) ?_
 refine oy rfl rfl (y_move rfl) ?_
 refine ops_cut 4 (Bool) (fun σ => [(0, l_0v), (1, parents_1v), (2, delays_2v), (3, .int .i64 t_3), (34, .bool σ)]) (fun σ => [ro l_0v 20 (l_0.map S_api_Segment.enc), ro parents_1v 1 (parents_1.map (eInt .i64)), nro delays_2v NC_L_int_46 delays_2, globA]) (fun σ => σ = ((!r1) || decide ((l_0.length : Int) = 0))) (fun L3 hL4 => ?_) ?_
 ·refine ops_split 30 (!r1) rfl (fun hg5 => ?_) (fun hg5 => ?_)
  ·skip
   refine ops_no 5 false 30 rfl rfl rfl rfl rfl ?_
   refine ops_no 5 false 30 rfl rfl rfl rfl rfl ?_
   refine ops_no 5 false 30 rfl rfl rfl rfl rfl ?_
   refine oy rfl rfl (y_pick (b := true) rfl rfl) ?_
   refine ops_nil ?_
   exact goes_cut hL4 true [0, 1, 2, 3] (qv5 rfl rfl rfl rfl rfl) (by decide) rfl (by rw [hg5]; simp)
  ·skip
   refine ops_y (wg 5 false 30 rfl rfl rfl rfl) rfl (y_move rfl) ?_
   refine ops_y (wg 5 false 30 rfl rfl rfl rfl) rfl ((y_len 0 rfl Tryd.runUnderlying22 rfl rfl reads_ro).to (v_len S_api_Segment.enc _)) ?_
   refine ops_y (wg 5 false 30 rfl rfl rfl rfl) rfl (y_eql rfl rfl) ?_
   refine oy rfl rfl (y_pick (b := false) rfl rfl) ?_
   refine ops_nil ?_
   exact goes_cut hL4 (decide ((l_0.length : Int) = 0)) [0, 1, 2, 3] (qv5 rfl rfl rfl rfl rfl) (by decide) rfl (by rw [hg5]; simp)
 rintro _ rfl
 refine ops_nil ?_
 refine goes_code ?_
 refine run_cond ((!r1) || decide ((l_0.length : Int) = 0)) rfl (fun hc6 => ?_) (fun hc6 => ?_)
 ·replace h := cond_t h hc6
  refine run_seq ?_
  refine run_region' ?_
  obtain ⟨r7, hr8, h⟩ := obind_some h
  refine ot rfl rfl (t_callx (vs := []) (cs := []) [(3, 0)] rfl Tryd.call8 rfl (law43_sanity_ok n   hr8) (showsX_view 3 rfl views_glob showsX_nil) rfl (.inl rfl)) ?_
  rintro _ _ ⟨_, ⟨rfl, rfl⟩, rfl⟩
  refine oy rfl rfl (y_assign rfl) ?_
  refine ops_nil ?_
  refine goes_code ?_
  refine run_ret ?_
  obtain rfl := some_eq h
  refine fin_slots [8] [.bool r7] [] [] Tryd.results6 rfl (by decide) rfl ?_
  exact ⟨rfl, rfl⟩
 ·replace h := cond_f h hc6
  refine run_skip ?_
  refine goes_code ?_
  refine run_seq ?_
  refine run_region' ?_
  refine oy rfl rfl (y_move rfl) ?_
  refine oy rfl rfl (y_move rfl) ?_
  refine oy rfl rfl (y_move rfl) ?_
  obtain ⟨r9, hr10, h⟩ := obind_some h
  refine ot rfl rfl (t_callx (vs := [l_0v, parents_1v, delays_2v]) (cs := []) [(0, 0), (1, 0), (2, 0)] rfl Tryd.call17 rfl (playlist_Spread_ok n l_0 parents_1 delays_2 l_0v parents_1v delays_2v hr10) (showsX_view 0 rfl views_ro (showsX_view 1 rfl views_ro (showsX_view 2 rfl views_nro showsX_nil))) rfl (.inl rfl)) ?_
  rintro _ _ ⟨_, ⟨v11, rfl, rfl⟩, rfl⟩
  refine oy rfl rfl (y_move rfl) ?_
  refine oy rfl rfl (y_extract rfl rfl) ?_
  refine oy rfl rfl (y_extract rfl rfl) ?_
  refine oy rfl rfl (y_assign rfl) ?_
  refine oy rfl rfl (y_assign rfl) ?_
  refine ops_nil ?_
  refine goes_code ?_
  refine run_seq ?_
  refine run_seq ?_
  refine run_weak [(0, l_0v), (1, parents_1v), (2, delays_2v), (3, .int .i64 t_3), (9, v11), (10, .int .i64 r9.2)] [0, 1, 2, 3, 4] [ro l_0v 20 (l_0.map S_api_Segment.enc), ro parents_1v 1 (parents_1.map (eInt .i64)), nro delays_2v NC_L_int_46 delays_2, globA, nrow v11 NC_L_int_46 r9.1] (qv6 rfl rfl rfl rfl rfl rfl) (by decide) rfl ?_
  refine run_region' ?_
  refine oy rfl rfl (y_move rfl) ?_
  refine oy rfl rfl (y_neq rfl rfl) ?_
  refine ops_nil ?_
  refine goes_code ?_
  refine run_cond (decide (r9.2 ≠ 0)) rfl (fun hc12 => ?_) (fun hc12 => ?_)
  ·replace h := cond_t h hc12
   refine run_seq ?_
   refine run_region' ?_
   obtain ⟨r13, hr14, h⟩ := obind_some h
   refine ot rfl rfl (t_callx (vs := []) (cs := []) [(3, 0)] rfl Tryd.call8 rfl (law43_sanity_ok n   hr14) (showsX_view 3 rfl views_glob showsX_nil) rfl (.inl rfl)) ?_
   rintro _ _ ⟨_, ⟨rfl, rfl⟩, rfl⟩
   refine oy rfl rfl (y_move rfl) ?_
   refine ops_cut 4 (Bool) (fun σ => [(50, .bool σ)]) (fun σ => [globA]) (fun σ => σ = (r13 && decide ((r9.1.length : Int) = 0))) (fun L15 hL16 => ?_) ?_
   ·refine ops_split 46 r13 rfl (fun hg17 => ?_) (fun hg17 => ?_)
    ·skip
     refine ops_y (wg 1 true 46 rfl rfl rfl rfl) rfl (y_move rfl) ?_
     refine ops_y (wg 1 true 46 rfl rfl rfl rfl) rfl (y_lenN 4 rfl Tryd.runUnderlying47 rfl rfl readsN_row) ?_
     refine ops_y (wg 1 true 46 rfl rfl rfl rfl) rfl (y_eql rfl rfl) ?_
     refine oy rfl rfl (y_pick (b := true) rfl rfl) ?_
     refine ops_nil ?_
     exact goes_cut hL16 (decide ((r9.1.length : Int) = 0)) [3] (qv1 rfl) (by decide) rfl (by rw [hg17]; simp)
    ·skip
     refine ops_no 1 true 46 rfl rfl rfl rfl rfl ?_
     refine ops_no 1 true 46 rfl rfl rfl rfl rfl ?_
     refine ops_no 1 true 46 rfl rfl rfl rfl rfl ?_
     refine oy rfl rfl (y_pick (b := false) rfl rfl) ?_
     refine ops_nil ?_
     exact goes_cut hL16 false [3] (qv1 rfl) (by decide) rfl (by rw [hg17]; simp)
   rintro _ rfl
   refine oy rfl rfl (y_assign rfl) ?_
   refine ops_nil ?_
   refine goes_code ?_
   refine run_ret ?_
   obtain rfl := some_eq h
   refine fin_slots [8] [.bool (r13 && decide ((r9.1.length : Int) = 0))] [] [] Tryd.results6 rfl (by decide) rfl ?_
   exact ⟨rfl, rfl⟩
  ·replace h := cond_f h hc12
   refine run_skip ?_
   refine goes_code ?_
   refine run_seq ?_
   refine run_region' ?_
   refine oy rfl rfl (y_assign rfl) ?_
   refine oy rfl rfl (y_assign rfl) ?_
   refine ops_nil ?_
   refine goes_code ?_
   obtain ⟨o19, h, ho20⟩ := bindJ_some h
   refine run_cut ((Int) × (Unit)) (fun σ => [(11, .int .i64 σ.1), (0, l_0v), (1, parents_1v), (3, .int .i64 t_3), (9, v11), (12, .int .i64 60000)]) (fun σ => [ro l_0v 20 (l_0.map S_api_Segment.enc), ro parents_1v 1 (parents_1.map (eInt .i64)), nrow v11 NC_L_int_46 r9.1, globA]) (fun σ => o19 = .go σ.1) (fun L22 hL21 => ?_) ?_
   ·
    refine run_seq ?_
    refine run_region' ?_
    refine oy rfl rfl (y_assign rfl) ?_
    refine ops_nil ?_
    refine goes_code ?_
    refine run_block ?_
    refine run_iter (step := law43_PlaylistsDifferLittle_L1 n parents_1 delays_2) (n := n) (s0 := (0, 1)) h (G := Unit) () (fun σ γ => [(11, .int .i64 σ.1), (13, .int .i64 σ.2), (0, l_0v), (1, parents_1v), (2, delays_2v), (3, .int .i64 t_3), (9, v11), (12, .int .i64 60000)]) (fun σ γ => [ro l_0v 20 (l_0.map S_api_Segment.enc), ro parents_1v 1 (parents_1.map (eInt .i64)), nro delays_2v NC_L_int_46 delays_2, nrow v11 NC_L_int_46 r9.1, globA]) [0, 1, 2, 4, 3] (qv8 rfl rfl rfl rfl rfl rfl rfl rfl) (by decide) rfl ?_
    rintro ⟨hop_23, k_24⟩ _ o25 h L28 hgo26 hstop27
    change Run _ _ _ (VF.of [(11, .int .i64 hop_23), (13, .int .i64 k_24), (0, l_0v), (1, parents_1v), (2, delays_2v), (3, .int .i64 t_3), (9, v11), (12, .int .i64 60000)]) [ro l_0v 20 (l_0.map S_api_Segment.enc), ro parents_1v 1 (parents_1.map (eInt .i64)), nro delays_2v NC_L_int_46 delays_2, nrow v11 NC_L_int_46 r9.1, globA]
    refine run_seq ?_
    refine run_seq ?_
    refine run_region' ?_
    refine oy rfl rfl (y_move rfl) ?_
    refine oy rfl rfl (y_move rfl) ?_
    refine oy rfl rfl ((y_len 1 rfl Tryd.runUnderlying46 rfl rfl reads_ro).to (v_len (eInt .i64) _)) ?_
    refine oy rfl rfl (y_lss rfl rfl) ?_
    refine ops_nil ?_
    refine goes_code ?_
    refine run_cond (decide (k_24 < (parents_1.length : Int))) rfl (fun hc29 => ?_) (fun hc29 => ?_)
    ·replace h := cond_t h hc29
     refine run_skip ?_
     refine goes_code ?_
     obtain ⟨o31, h, ho32⟩ := bindJ_some h
     refine run_cut ((Int) × (Unit)) (fun σ => [(11, .int .i64 σ.1), (0, l_0v), (1, parents_1v), (2, delays_2v), (3, .int .i64 t_3), (9, v11), (12, .int .i64 60000), (13, .int .i64 k_24)]) (fun σ => [ro l_0v 20 (l_0.map S_api_Segment.enc), ro parents_1v 1 (parents_1.map (eInt .i64)), nro delays_2v NC_L_int_46 delays_2, nrow v11 NC_L_int_46 r9.1, globA]) (fun σ => o31 = .go σ.1) (fun L34 hL33 => ?_) ?_
     ·
      refine run_block ?_
      refine run_seq ?_
      refine run_region' ?_
      refine oy rfl rfl (y_move rfl) ?_
      refine oy rfl rfl (y_move rfl) ?_
      obtain ⟨x35, hzx35, hlx35, hxx35, h⟩ := idx_some h
      refine oy rfl rfl (y_indexAddrN (kd := .i64) (i := k_24) 2 Tryd.runUnderlying47 Tryd.sizeOf46 rfl rfl rfl readsN_ro hzx35 hlx35) ?_
      refine ops_ex (exAt (C := NC_L_int_46) (i := k_24.toNat) 2 rfl hxx35) ?_
      rintro g36
      refine oy rfl rfl (y_load_at (n := k_24.toNat * 1) (j := 0) 5 Tryd.isAgg46 rfl rfl rfl) ?_
      refine oy rfl rfl ((y_len 6 rfl Tryd.runUnderlying46 rfl rfl reads_ro).to (v_len (eInt .i64) _)) ?_
      refine oy rfl rfl (y_move rfl) ?_
      refine ops_nil ?_
      refine goes_code ?_
      refine run_block ?_
      refine run_iter (step := law43_PlaylistsDifferLittle_L2 x35) (n := n) (s0 := (hop_23, 0)) h (G := Unit) () (fun σ γ => [(11, .int .i64 σ.1), (62, .int .i64 σ.2), (0, l_0v), (1, parents_1v), (2, delays_2v), (3, .int .i64 t_3), (9, v11), (12, .int .i64 60000), (13, .int .i64 k_24), (60, g36), (61, .int .i64 (x35.length : Int))]) (fun σ γ => [ro l_0v 20 (l_0.map S_api_Segment.enc), ro parents_1v 1 (parents_1.map (eInt .i64)), nro delays_2v NC_L_int_46 delays_2, nrow v11 NC_L_int_46 r9.1, ro g36 1 (x35.map (eInt .i64)), globA]) [0, 1, 2, 3, 6, 4] (qv11 rfl rfl rfl rfl rfl rfl rfl rfl rfl rfl rfl) (by decide) rfl ?_
      rintro ⟨hop_37, s_38⟩ _ o39 h L42 hgo40 hstop41
      change Run _ _ _ (VF.of [(11, .int .i64 hop_37), (62, .int .i64 s_38), (0, l_0v), (1, parents_1v), (2, delays_2v), (3, .int .i64 t_3), (9, v11), (12, .int .i64 60000), (13, .int .i64 k_24), (60, g36), (61, .int .i64 (x35.length : Int))]) [ro l_0v 20 (l_0.map S_api_Segment.enc), ro parents_1v 1 (parents_1.map (eInt .i64)), nro delays_2v NC_L_int_46 delays_2, nrow v11 NC_L_int_46 r9.1, ro g36 1 (x35.map (eInt .i64)), globA]
      refine run_seq ?_
      refine run_region' ?_
      refine oy rfl rfl (y_lss rfl rfl) ?_
      refine ops_nil ?_
      refine goes_code ?_
      refine run_seq ?_
      refine run_cond (decide (s_38 < (x35.length : Int))) rfl (fun hc43 => ?_) (fun hc43 => ?_)
      ·replace h := cond_t h hc43
       refine run_skip ?_
       refine goes_code ?_
       refine run_seq ?_
       refine run_block ?_
       refine run_seq ?_
       refine run_region' ?_
       obtain ⟨x44, hzx44, hlx44, hxx44, h⟩ := idx_some h
       refine oy rfl rfl (y_indexAddrI (kd := .i64) (i := s_38) 4 Tryd.runUnderlying46 Tryd.sizeOf3 rfl rfl rfl reads_ro hzx44 (map_lt hlx44)) ?_
       refine oy rfl rfl (y_load_elem (i := s_38.toNat) 4 Tryd.isAgg3 rfl rfl reads_ro (map_get hxx44)) ?_
       refine oy rfl rfl (y_assign rfl) ?_
       refine ops_nil ?_
       refine goes_code ?_
       refine run_region' ?_
       refine oy rfl rfl (y_move rfl) ?_
       refine oy rfl rfl (y_move rfl) ?_
       refine oy rfl rfl (y_max rfl rfl) ?_
       refine oy rfl rfl (y_assign rfl) ?_
       refine ops_nil ?_
       refine goes_blk ?_
       refine goes_code ?_
       refine run_weak [(11, .int .i64 (max hop_37 x44)), (62, .int .i64 s_38), (0, l_0v), (1, parents_1v), (2, delays_2v), (3, .int .i64 t_3), (9, v11), (12, .int .i64 60000), (13, .int .i64 k_24), (60, g36), (61, .int .i64 (x35.length : Int))] [0, 1, 2, 3, 4, 5] [ro l_0v 20 (l_0.map S_api_Segment.enc), ro parents_1v 1 (parents_1.map (eInt .i64)), nro delays_2v NC_L_int_46 delays_2, nrow v11 NC_L_int_46 r9.1, ro g36 1 (x35.map (eInt .i64)), globA] (qv11 rfl rfl rfl rfl rfl rfl rfl rfl rfl rfl rfl) (by decide) rfl ?_
       refine run_region' ?_
       refine oy rfl rfl (y_add rfl rfl) ?_
       refine oy rfl rfl (y_move rfl) ?_
       refine ops_nil ?_
       obtain rfl := some_eq h
       exact goes_iter hgo40 ((max hop_37 x44), (IntKind.i64.wrap (s_38 + 1))) () [0, 1, 2, 3, 4, 5] rfl (qv11 rfl rfl rfl rfl rfl rfl rfl rfl rfl rfl rfl) (by decide) rfl
      ·replace h := cond_f h hc43
       refine run_exit _ rfl ?_
       refine goes_blk ?_
       obtain rfl := some_eq h
       obtain rfl := hstop41 _ rfl
       exact goes_cut hL33 (hop_37, ()) [0, 1, 2, 3, 5] (qv8 rfl rfl rfl rfl rfl rfl rfl rfl) (by decide) rfl rfl
     rintro ⟨hop_30, _⟩ hj
     obtain rfl : o31 = _ := hj
     replace h := after_go ho32
     clear ho32
     change Run _ _ _ (VF.of [(11, .int .i64 hop_30), (0, l_0v), (1, parents_1v), (2, delays_2v), (3, .int .i64 t_3), (9, v11), (12, .int .i64 60000), (13, .int .i64 k_24)]) [ro l_0v 20 (l_0.map S_api_Segment.enc), ro parents_1v 1 (parents_1.map (eInt .i64)), nro delays_2v NC_L_int_46 delays_2, nrow v11 NC_L_int_46 r9.1, globA]
     refine run_region' ?_
     refine oy rfl rfl (y_move rfl) ?_
     refine oy rfl rfl (y_add rfl rfl) ?_
     refine oy rfl rfl (y_assign rfl) ?_
     refine ops_nil ?_
     obtain rfl := some_eq h
     exact goes_iter hgo26 (hop_30, (IntKind.i64.wrap (k_24 + 1))) () [0, 1, 2, 3, 4] rfl (qv8 rfl rfl rfl rfl rfl rfl rfl rfl) (by decide) rfl
    ·replace h := cond_f h hc29
     refine run_exit _ rfl ?_
     obtain rfl := some_eq h
     obtain rfl := hstop27 _ rfl
     exact goes_cut hL21 (hop_23, ()) [0, 1, 3, 4] (qv6 rfl rfl rfl rfl rfl rfl) (by decide) rfl rfl
   rintro ⟨hop_18, _⟩ hj
   obtain rfl : o19 = _ := hj
   replace h := after_go ho20
   clear ho20
   change Run _ _ _ (VF.of [(11, .int .i64 hop_18), (0, l_0v), (1, parents_1v), (3, .int .i64 t_3), (9, v11), (12, .int .i64 60000)]) [ro l_0v 20 (l_0.map S_api_Segment.enc), ro parents_1v 1 (parents_1.map (eInt .i64)), nrow v11 NC_L_int_46 r9.1, globA]
   obtain ⟨o46, h, ho47⟩ := bindJ_some h
   refine run_cut ((Int) × (Unit)) (fun σ => [(12, .int .i64 σ.1), (0, l_0v), (1, parents_1v), (3, .int .i64 t_3), (9, v11), (11, .int .i64 hop_18)]) (fun σ => [ro l_0v 20 (l_0.map S_api_Segment.enc), ro parents_1v 1 (parents_1.map (eInt .i64)), nrow v11 NC_L_int_46 r9.1, globA]) (fun σ => o46 = .go σ.1) (fun L49 hL48 => ?_) ?_
   ·
    refine run_seq ?_
    refine run_region' ?_
    refine oy rfl rfl (y_move rfl) ?_
    refine oy rfl rfl ((y_len 0 rfl Tryd.runUnderlying22 rfl rfl reads_ro).to (v_len S_api_Segment.enc _)) ?_
    refine oy rfl rfl (y_move rfl) ?_
    refine ops_nil ?_
    refine goes_code ?_
    refine run_block ?_
    refine run_iter (step := law43_PlaylistsDifferLittle_L3 l_0) (n := n) (s0 := (60000, 0)) h (G := Unit) () (fun σ γ => [(12, .int .i64 σ.1), (72, .int .i64 σ.2), (0, l_0v), (1, parents_1v), (3, .int .i64 t_3), (9, v11), (11, .int .i64 hop_18), (70, l_0v), (71, .int .i64 (l_0.length : Int))]) (fun σ γ => [ro l_0v 20 (l_0.map S_api_Segment.enc), ro parents_1v 1 (parents_1.map (eInt .i64)), nrow v11 NC_L_int_46 r9.1, globA]) [0, 1, 2, 3] (qv9 rfl rfl rfl rfl rfl rfl rfl rfl rfl) (by decide) rfl ?_
    rintro ⟨shortest_50, s_51⟩ _ o52 h L55 hgo53 hstop54
    change Run _ _ _ (VF.of [(12, .int .i64 shortest_50), (72, .int .i64 s_51), (0, l_0v), (1, parents_1v), (3, .int .i64 t_3), (9, v11), (11, .int .i64 hop_18), (70, l_0v), (71, .int .i64 (l_0.length : Int))]) [ro l_0v 20 (l_0.map S_api_Segment.enc), ro parents_1v 1 (parents_1.map (eInt .i64)), nrow v11 NC_L_int_46 r9.1, globA]
    refine run_seq ?_
    refine run_region' ?_
    refine oy rfl rfl (y_lss rfl rfl) ?_
    refine ops_nil ?_
    refine goes_code ?_
    refine run_seq ?_
    refine run_cond (decide (s_51 < (l_0.length : Int))) rfl (fun hc56 => ?_) (fun hc56 => ?_)
    ·replace h := cond_t h hc56
     refine run_skip ?_
     refine goes_code ?_
     refine run_seq ?_
     refine run_block ?_
     refine run_seq ?_
     refine run_region' ?_
     obtain ⟨x57, hzx57, hlx57, hxx57, h⟩ := idx_some h
     refine oy rfl rfl (y_indexAddrI (kd := .i64) (i := s_51) 0 Tryd.runUnderlying22 Tryd.sizeOf40 rfl rfl rfl reads_ro hzx57 (map_lt hlx57)) ?_
     refine oy rfl rfl (y_load_agg (i := s_51.toNat) (c := [.int .i64 x57.Num, .int .i64 x57.Begin, .int .i64 x57.Len, .int .u8 x57.Body.a0_, .int .u8 x57.Body.a1_, .int .u8 x57.Body.a2_, .int .u8 x57.Body.a3_, .int .u8 x57.Body.a4_, .int .u8 x57.Body.a5_, .int .u8 x57.Body.a6_, .int .u8 x57.Body.a7_, .int .u8 x57.Body.a8_, .int .u8 x57.Body.a9_, .int .u8 x57.Body.a10_, .int .u8 x57.Body.a11_, .int .u8 x57.Body.a12_, .int .u8 x57.Body.a13_, .int .u8 x57.Body.a14_, .int .u8 x57.Body.a15_, .int .i64 x57.Size]) 0 Tryd.isAgg40 Tryd.sizeOf40 rfl rfl reads_ro (map_get hxx57)) ?_
     refine ot rfl rfl (t_alloc Tryd.zeroValue40) ?_
     rintro _ _ ⟨b58, rfl, rfl⟩
     refine ot rfl rfl (t_store 4 Tryd.sizeOf40 rfl rfl rfl rfl (by simp [Value.cells, boxP]) (by simp [Value.cells, Value.oneCell', boxP])) ?_
     rintro _ _ ⟨rfl, rfl⟩
     refine ops_turn (retell 4 (g := box b58 [.int .i64 x57.Num, .int .i64 x57.Begin, .int .i64 x57.Len, .int .u8 x57.Body.a0_, .int .u8 x57.Body.a1_, .int .u8 x57.Body.a2_, .int .u8 x57.Body.a3_, .int .u8 x57.Body.a4_, .int .u8 x57.Body.a5_, .int .u8 x57.Body.a6_, .int .u8 x57.Body.a7_, .int .u8 x57.Body.a8_, .int .u8 x57.Body.a9_, .int .u8 x57.Body.a10_, .int .u8 x57.Body.a11_, .int .u8 x57.Body.a12_, .int .u8 x57.Body.a13_, .int .u8 x57.Body.a14_, .int .u8 x57.Body.a15_, .int .i64 x57.Size]) rfl (by kernel_rfl)) ?_
     refine ops_nil ?_
     refine goes_code ?_
     refine run_region' ?_
     refine oy rfl rfl (y_move rfl) ?_
     refine oy rfl rfl (y_fieldAddr_box (sz := 0) Tryd.runUnderlying40 rfl Tryd.sizeOf3 rfl) ?_
     refine oy rfl rfl (y_load_box 4 Tryd.isAgg3 rfl rfl rfl) ?_
     refine oy rfl rfl (y_min rfl rfl) ?_
     refine oy rfl rfl (y_assign rfl) ?_
     refine ops_nil ?_
     refine goes_blk ?_
     refine goes_code ?_
     refine run_weak [(12, .int .i64 (min shortest_50 x57.Len)), (72, .int .i64 s_51), (0, l_0v), (1, parents_1v), (3, .int .i64 t_3), (9, v11), (11, .int .i64 hop_18), (70, l_0v), (71, .int .i64 (l_0.length : Int))] [0, 1, 2, 3] [ro l_0v 20 (l_0.map S_api_Segment.enc), ro parents_1v 1 (parents_1.map (eInt .i64)), nrow v11 NC_L_int_46 r9.1, globA] (qv9 rfl rfl rfl rfl rfl rfl rfl rfl rfl) (by decide) rfl ?_
     refine run_region' ?_
     refine oy rfl rfl (y_add rfl rfl) ?_
     refine oy rfl rfl (y_move rfl) ?_
     refine ops_nil ?_
     obtain rfl := some_eq h
     exact goes_iter hgo53 ((min shortest_50 x57.Len), (IntKind.i64.wrap (s_51 + 1))) () [0, 1, 2, 3] rfl (qv9 rfl rfl rfl rfl rfl rfl rfl rfl rfl) (by decide) rfl
    ·replace h := cond_f h hc56
     refine run_exit _ rfl ?_
     obtain rfl := some_eq h
     obtain rfl := hstop54 _ rfl
     exact goes_cut hL48 (shortest_50, ()) [0, 1, 2, 3] (qv6 rfl rfl rfl rfl rfl rfl) (by decide) rfl rfl
   rintro ⟨shortest_45, _⟩ hj
   obtain rfl : o46 = _ := hj
   replace h := after_go ho47
   clear ho47
   change Run _ _ _ (VF.of [(12, .int .i64 shortest_45), (0, l_0v), (1, parents_1v), (3, .int .i64 t_3), (9, v11), (11, .int .i64 hop_18)]) [ro l_0v 20 (l_0.map S_api_Segment.enc), ro parents_1v 1 (parents_1.map (eInt .i64)), nrow v11 NC_L_int_46 r9.1, globA]
   refine run_seq ?_
   refine run_seq ?_
   refine run_region' ?_
   refine oy rfl rfl (y_move rfl) ?_
   refine oy rfl rfl (y_gtr rfl rfl) ?_
   refine ops_nil ?_
   refine goes_code ?_
   refine run_cond (decide (1073741824 < hop_18)) rfl (fun hc59 => ?_) (fun hc59 => ?_)
   ·replace h := cond_t h hc59
    refine run_seq ?_
    refine run_region' ?_
    obtain ⟨r60, hr61, h⟩ := obind_some h
    refine ot rfl rfl (t_callx (vs := []) (cs := []) [(3, 0)] rfl Tryd.call8 rfl (law43_sanity_ok n   hr61) (showsX_view 3 rfl views_glob showsX_nil) rfl (.inl rfl)) ?_
    rintro _ _ ⟨_, ⟨rfl, rfl⟩, rfl⟩
    refine oy rfl rfl (y_assign rfl) ?_
    refine ops_nil ?_
    refine goes_code ?_
    refine run_ret ?_
    obtain rfl := some_eq h
    refine fin_slots [8] [.bool r60] [] [] Tryd.results6 rfl (by decide) rfl ?_
    exact ⟨rfl, rfl⟩
   ·replace h := cond_f h hc59
    refine run_skip ?_
    refine goes_code ?_
    refine run_seq ?_
    refine run_region' ?_
    refine oy rfl rfl (y_move rfl) ?_
    obtain ⟨r62, hr63, h⟩ := obind_some h
    refine ot rfl rfl (t_callx (vs := [parents_1v]) (cs := []) [(1, 0)] rfl Tryd.call18 rfl (law43_depths_ok n parents_1 parents_1v hr63) (showsX_view 1 rfl views_ro showsX_nil) rfl (.inl rfl)) ?_
    rintro v64 _ ⟨_, ⟨_, rfl, rfl⟩, rfl⟩
    refine oy rfl rfl (y_assign rfl) ?_
    refine ops_nil ?_
    refine goes_code ?_
    obtain ⟨o65, h, ho66⟩ := bindJ_some h
    refine run_cut ((Unit) × (Unit)) (fun σ => []) (fun σ => [globA]) (fun σ => o65 = .go σ.1) (fun L68 hL67 => ?_) ?_
    ·
     refine run_seq ?_
     refine run_region' ?_
     refine oy rfl rfl (y_move rfl) ?_
     refine oy rfl rfl (y_lenN 2 rfl Tryd.runUnderlying47 rfl rfl readsN_row) ?_
     refine oy rfl rfl (y_move rfl) ?_
     refine ops_nil ?_
     refine goes_code ?_
     refine run_block ?_
     refine run_iter (step := law43_PlaylistsDifferLittle_L4 n l_0 t_3 r9 hop_18 shortest_45 r62) (n := n) (s0 := 0) h (G := Unit) () (fun σ γ => [(88, .int .i64 σ), (0, l_0v), (3, .int .i64 t_3), (9, v11), (11, .int .i64 hop_18), (12, .int .i64 shortest_45), (18, v64), (87, .int .i64 (r9.1.length : Int))]) (fun σ γ => [ro l_0v 20 (l_0.map S_api_Segment.enc), nrow v11 NC_L_int_46 r9.1, row v64 1 (r62.map (eInt .i64)), globA]) [0, 2, 4, 3] (qv8 rfl rfl rfl rfl rfl rfl rfl rfl) (by decide) rfl ?_
     rintro s_69 _ o70 h L73 hgo71 hstop72
     change Run _ _ _ (VF.of [(88, .int .i64 s_69), (0, l_0v), (3, .int .i64 t_3), (9, v11), (11, .int .i64 hop_18), (12, .int .i64 shortest_45), (18, v64), (87, .int .i64 (r9.1.length : Int))]) [ro l_0v 20 (l_0.map S_api_Segment.enc), nrow v11 NC_L_int_46 r9.1, row v64 1 (r62.map (eInt .i64)), globA]
     refine run_seq ?_
     refine run_region' ?_
     refine oy rfl rfl (y_lss rfl rfl) ?_
     refine ops_nil ?_
     refine goes_code ?_
     refine run_seq ?_
     refine run_cond (decide (s_69 < (r9.1.length : Int))) rfl (fun hc74 => ?_) (fun hc74 => ?_)
     ·replace h := cond_t h hc74
      refine run_skip ?_
      refine goes_code ?_
      obtain ⟨o75, h, ho76⟩ := bindJ_some h
      refine run_cut ((Unit) × (Unit)) (fun σ => [(0, l_0v), (3, .int .i64 t_3), (9, v11), (11, .int .i64 hop_18), (12, .int .i64 shortest_45), (18, v64), (87, .int .i64 (r9.1.length : Int)), (88, .int .i64 s_69)]) (fun σ => [ro l_0v 20 (l_0.map S_api_Segment.enc), nrow v11 NC_L_int_46 r9.1, row v64 1 (r62.map (eInt .i64)), globA]) (fun σ => o75 = .go σ.1) (fun L78 hL77 => ?_) ?_
      ·
       refine run_block ?_
       refine run_seq ?_
       refine run_region' ?_
       refine oy rfl rfl (y_move rfl) ?_
       refine oy rfl rfl (y_assign rfl) ?_
       refine ops_nil ?_
       refine goes_code ?_
       refine run_seq ?_
       refine run_region' ?_
       refine oy rfl rfl (y_move rfl) ?_
       refine oy rfl rfl (y_lenN 1 rfl Tryd.runUnderlying47 rfl rfl readsN_row) ?_
       refine oy rfl rfl (y_move rfl) ?_
       refine ops_nil ?_
       refine goes_code ?_
       refine run_block ?_
       refine run_iter (step := law43_PlaylistsDifferLittle_L5 n l_0 t_3 r9 hop_18 shortest_45 r62 s_69) (n := n) (s0 := 0) h (G := Unit) () (fun σ γ => [(93, .int .i64 σ), (0, l_0v), (3, .int .i64 t_3), (9, v11), (11, .int .i64 hop_18), (12, .int .i64 shortest_45), (18, v64), (19, .int .i64 s_69), (87, .int .i64 (r9.1.length : Int)), (88, .int .i64 s_69), (92, .int .i64 (r9.1.length : Int))]) (fun σ γ => [ro l_0v 20 (l_0.map S_api_Segment.enc), nrow v11 NC_L_int_46 r9.1, row v64 1 (r62.map (eInt .i64)), globA]) [0, 1, 2, 3] (qv11 rfl rfl rfl rfl rfl rfl rfl rfl rfl rfl rfl) (by decide) rfl ?_
       rintro s_79 _ o80 h L83 hgo81 hstop82
       change Run _ _ _ (VF.of [(93, .int .i64 s_79), (0, l_0v), (3, .int .i64 t_3), (9, v11), (11, .int .i64 hop_18), (12, .int .i64 shortest_45), (18, v64), (19, .int .i64 s_69), (87, .int .i64 (r9.1.length : Int)), (88, .int .i64 s_69), (92, .int .i64 (r9.1.length : Int))]) [ro l_0v 20 (l_0.map S_api_Segment.enc), nrow v11 NC_L_int_46 r9.1, row v64 1 (r62.map (eInt .i64)), globA]
       refine run_seq ?_
       refine run_region' ?_
       refine oy rfl rfl (y_lss rfl rfl) ?_
       refine ops_nil ?_
       refine goes_code ?_
       refine run_seq ?_
       refine run_cond (decide (s_79 < (r9.1.length : Int))) rfl (fun hc84 => ?_) (fun hc84 => ?_)
       ·replace h := cond_t h hc84
        refine run_skip ?_
        refine goes_code ?_
        refine run_seq ?_
        refine run_block ?_
        refine run_seq ?_
        refine run_region' ?_
        refine oy rfl rfl (y_move rfl) ?_
        refine oy rfl rfl (y_assign rfl) ?_
        refine ops_nil ?_
        refine goes_code ?_
        refine run_seq ?_
        obtain ⟨x85, hzx85, hlx85, hxx85, h⟩ := idx_some h
        obtain ⟨r87, hr88, h⟩ := obind_some h
        obtain ⟨x90, hzx90, hlx90, hxx90, h⟩ := idx_some h
        obtain ⟨r92, hr93, h⟩ := obind_some h
        refine run_drawany [ro l_0v 20 (l_0.map S_api_Segment.enc), nrow v11 NC_L_int_46 r9.1, row v64 1 (r62.map (eInt .i64)), globA] (by kernel_rfl) ?_
        refine any_y 0 rfl (by kernel_rfl) (by kernel_rfl) (by kernel_rfl) (ss (ss (ss (ss (sn))))) (wn rfl) rfl (y_move rfl) ?_
        refine any_y 1 rfl (by kernel_rfl) (by kernel_rfl) (by kernel_rfl) (ss (ss (ss (ss (sn))))) (wn rfl) rfl (y_move rfl) ?_
        refine any_y 2 rfl (by kernel_rfl) (by kernel_rfl) (by kernel_rfl) (ss (ss (ss (ss (sn))))) (wn rfl) rfl (y_move rfl) ?_
        refine any_y 3 rfl (by kernel_rfl) (by kernel_rfl) (by kernel_rfl) (ss (ss (ss (ss (sn))))) (wn rfl) rfl (y_indexAddrN (kd := .i64) (i := s_69) 1 Tryd.runUnderlying47 Tryd.sizeOf46 rfl rfl rfl readsN_row hzx85 hlx85) ?_
        refine any_y 5 rfl (by kernel_rfl) (by kernel_rfl) (by kernel_rfl) (ss (ss (ss (ss (sn))))) (wn rfl) rfl (y_move rfl) ?_
        refine any_y 7 rfl (by kernel_rfl) (by kernel_rfl) (by kernel_rfl) (ss (ss (ss (ss (sn))))) (wn rfl) rfl (y_move rfl) ?_
        refine any_y 8 rfl (by kernel_rfl) (by kernel_rfl) (by kernel_rfl) (ss (ss (ss (ss (sn))))) (wn rfl) rfl (y_move rfl) ?_
        refine any_y 9 rfl (by kernel_rfl) (by kernel_rfl) (by kernel_rfl) (ss (ss (ss (ss (sn))))) (wn rfl) rfl (y_move rfl) ?_
        refine any_y 10 rfl (by kernel_rfl) (by kernel_rfl) (by kernel_rfl) (ss (ss (ss (ss (sn))))) (wn rfl) rfl (y_indexAddrN (kd := .i64) (i := s_79) 1 Tryd.runUnderlying47 Tryd.sizeOf46 rfl rfl rfl readsN_row hzx90 hlx90) ?_
        refine any_y 12 rfl (by kernel_rfl) (by kernel_rfl) (by kernel_rfl) (ss (ss (ss (ss (sn))))) (wn rfl) rfl (y_move rfl) ?_
        refine any_cut2 #[true, true, true, true, true, true, true, true, true, true, true, true, true, true, true, true, true, true] 0 (Nat × Nat × Value × Value × Value × Value) (fun σ => [(93, .int .i64 s_79), (0, l_0v), (3, .int .i64 t_3), (9, v11), (11, .int .i64 hop_18), (12, .int .i64 shortest_45), (18, v64), (19, .int .i64 s_69), (87, .int .i64 (r9.1.length : Int)), (88, .int .i64 s_69), (92, .int .i64 (r9.1.length : Int)), (20, .int .i64 s_79), (21, boxP σ.1 0), (22, boxP σ.2.1 0)]) (fun σ => [ro l_0v 20 (l_0.map S_api_Segment.enc), nrow v11 NC_L_int_46 r9.1, row v64 1 (r62.map (eInt .i64)), globA, ro σ.2.2.1 1 (x85.map (eInt .i64)), ro σ.2.2.2.1 20 (r87.L.map S_api_Segment.enc), ro σ.2.2.2.2.1 1 (x90.map (eInt .i64)), ro σ.2.2.2.2.2 20 (r92.L.map S_api_Segment.enc), box σ.1 [.int .i64 r87.First, σ.2.2.2.1, .bool r87.Done], box σ.2.1 [.int .i64 r92.First, σ.2.2.2.2.2, .bool r92.Done]]) ?_ (fun hK128 => ?_)
        ·rintro ⟨b122, b125, g99, v103, g110, v117⟩
         change AnyL _ _ _ _ _ (VF.of [(93, .int .i64 s_79), (0, l_0v), (3, .int .i64 t_3), (9, v11), (11, .int .i64 hop_18), (12, .int .i64 shortest_45), (18, v64), (19, .int .i64 s_69), (87, .int .i64 (r9.1.length : Int)), (88, .int .i64 s_69), (92, .int .i64 (r9.1.length : Int)), (20, .int .i64 s_79), (21, boxP b122 0), (22, boxP b125 0)]) [ro l_0v 20 (l_0.map S_api_Segment.enc), nrow v11 NC_L_int_46 r9.1, row v64 1 (r62.map (eInt .i64)), globA, ro g99 1 (x85.map (eInt .i64)), ro v103 20 (r87.L.map S_api_Segment.enc), ro g110 1 (x90.map (eInt .i64)), ro v117 20 (r92.L.map S_api_Segment.enc), box b122 [.int .i64 r87.First, v103, .bool r87.Done], box b125 [.int .i64 r92.First, v117, .bool r92.Done]] _
         refine any_nil (by kernel_rfl) ?_
         refine goes_code ?_
         refine run_seq ?_
         refine run_seq ?_
         refine run_drawany [ro l_0v 20 (l_0.map S_api_Segment.enc), nrow v11 NC_L_int_46 r9.1, row v64 1 (r62.map (eInt .i64)), globA, ro g99 1 (x85.map (eInt .i64)), ro v103 20 (r87.L.map S_api_Segment.enc), ro g110 1 (x90.map (eInt .i64)), ro v117 20 (r92.L.map S_api_Segment.enc), box b122 [.int .i64 r87.First, v103, .bool r87.Done], box b125 [.int .i64 r92.First, v117, .bool r92.Done]] (by kernel_rfl) ?_
         refine any_y 0 rfl (by kernel_rfl) (by kernel_rfl) (by kernel_rfl) (ss (ss (ss (ss (ss (ss (ss (ss (ss (ss (sn))))))))))) (wn rfl) rfl (y_load_boxagg (c := [.int .i64 r87.First, v103, .bool r87.Done]) 8 Tryd.isAgg27 Tryd.sizeOf27 rfl rfl rfl) ?_
         refine any_y 2 rfl (by kernel_rfl) (by kernel_rfl) (by kernel_rfl) (ss (ss (ss (ss (ss (ss (ss (ss (ss (ss (sn))))))))))) (wn rfl) rfl (y_load_boxagg (c := [.int .i64 r92.First, v117, .bool r92.Done]) 9 Tryd.isAgg27 Tryd.sizeOf27 rfl rfl rfl) ?_
         refine any_y 5 rfl (by kernel_rfl) (by kernel_rfl) (by kernel_rfl) (ss (ss (ss (ss (ss (ss (ss (ss (ss (ss (sn))))))))))) (wn rfl) rfl (y_move rfl) ?_
         refine any_y 6 rfl (by kernel_rfl) (by kernel_rfl) (by kernel_rfl) (ss (ss (ss (ss (ss (ss (ss (ss (ss (ss (sn))))))))))) (wn rfl) rfl (y_move rfl) ?_
         obtain ⟨x129, hzx129, hlx129, hxx129, h⟩ := idx_some h
         refine any_y 7 rfl (by kernel_rfl) (by kernel_rfl) (by kernel_rfl) (ss (ss (ss (ss (ss (ss (ss (ss (ss (ss (sn))))))))))) (wn rfl) rfl (y_indexAddrI (kd := .i64) (i := s_69) 2 Tryd.runUnderlying46 Tryd.sizeOf3 rfl rfl rfl reads_row hzx129 (map_lt hlx129)) ?_
         refine any_y 8 rfl (by kernel_rfl) (by kernel_rfl) (by kernel_rfl) (ss (ss (ss (ss (ss (ss (ss (ss (ss (ss (sn))))))))))) (wn rfl) rfl (y_load_elem (i := s_69.toNat) 2 Tryd.isAgg3 rfl rfl reads_row (map_get hxx129)) ?_
         refine any_y 9 rfl (by kernel_rfl) (by kernel_rfl) (by kernel_rfl) (ss (ss (ss (ss (ss (ss (ss (ss (ss (ss (sn))))))))))) (wn rfl) rfl (y_move rfl) ?_
         refine any_y 10 rfl (by kernel_rfl) (by kernel_rfl) (by kernel_rfl) (ss (ss (ss (ss (ss (ss (ss (ss (ss (ss (sn))))))))))) (wn rfl) rfl (y_move rfl) ?_
         obtain ⟨x130, hzx130, hlx130, hxx130, h⟩ := idx_some h
         refine any_y 11 rfl (by kernel_rfl) (by kernel_rfl) (by kernel_rfl) (ss (ss (ss (ss (ss (ss (ss (ss (ss (ss (sn))))))))))) (wn rfl) rfl (y_indexAddrI (kd := .i64) (i := s_79) 2 Tryd.runUnderlying46 Tryd.sizeOf3 rfl rfl rfl reads_row hzx130 (map_lt hlx130)) ?_
         refine any_y 12 rfl (by kernel_rfl) (by kernel_rfl) (by kernel_rfl) (ss (ss (ss (ss (ss (ss (ss (ss (ss (ss (sn))))))))))) (wn rfl) rfl (y_load_elem (i := s_79.toNat) 2 Tryd.isAgg3 rfl rfl reads_row (map_get hxx130)) ?_
         refine any_y 13 rfl (by kernel_rfl) (by kernel_rfl) (by kernel_rfl) (ss (ss (ss (ss (ss (ss (ss (ss (ss (ss (sn))))))))))) (wn rfl) rfl (y_max rfl rfl) ?_
         refine any_y 14 rfl (by kernel_rfl) (by kernel_rfl) (by kernel_rfl) (ss (ss (ss (ss (ss (ss (ss (ss (ss (ss (sn))))))))))) (wn rfl) rfl (y_move rfl) ?_
         refine any_y 15 rfl (by kernel_rfl) (by kernel_rfl) (by kernel_rfl) (ss (ss (ss (ss (ss (ss (ss (ss (ss (ss (sn))))))))))) (wn rfl) rfl (y_move rfl) ?_
         refine any_all [1] (by kernel_rfl) rfl (anyo_cons ?_ anyo_nil)
         obtain ⟨r131, hr132, h⟩ := obind_some h
         refine any_t rfl (wn rfl) rfl (t_callx (vs := [.agg #[.int .i64 r87.First, v103, .bool r87.Done]]) (cs := []) [(5, 0)] rfl Tryd.call13 rfl (playlist_Next_ok r87 v103 hr132) (showsX_view 5 rfl views_ro showsX_nil) rfl (.inl rfl)) ?_
         rintro _ _ ⟨_, ⟨rfl, rfl⟩, rfl⟩
         refine ⟨(ss (ss (ss (ss (ss (ss (ss (ss (ss (ss (sn))))))))))), ?_⟩
         refine any_all [3] (by kernel_rfl) rfl (anyo_cons ?_ anyo_nil)
         obtain ⟨r133, hr134, h⟩ := obind_some h
         refine any_t rfl (wn rfl) rfl (t_callx (vs := [.agg #[.int .i64 r92.First, v117, .bool r92.Done]]) (cs := []) [(7, 0)] rfl Tryd.call13 rfl (playlist_Next_ok r92 v117 hr134) (showsX_view 7 rfl views_ro showsX_nil) rfl (.inl rfl)) ?_
         rintro _ _ ⟨_, ⟨rfl, rfl⟩, rfl⟩
         refine ⟨(ss (ss (ss (ss (ss (ss (ss (ss (ss (ss (sn))))))))))), ?_⟩
         refine any_y 4 rfl (by kernel_rfl) (by kernel_rfl) (by kernel_rfl) (ss (ss (ss (ss (ss (ss (ss (ss (ss (ss (sn))))))))))) (wn rfl) rfl (y_sub rfl rfl) ?_
         refine any_all [16] (by kernel_rfl) rfl (anyo_cons ?_ anyo_nil)
         obtain ⟨r135, hr136, h⟩ := obind_some h
         refine any_t rfl (wn rfl) rfl (t_callx (vs := [.int .i64 (max x129 x130), .int .i64 hop_18, .int .i64 shortest_45]) (cs := []) [] rfl Tryd.call22 rfl (playlist_Gap_ok (max x129 x130) hop_18 shortest_45  hr136) showsX_nil rfl (.inl rfl)) ?_
         rintro _ _ ⟨_, ⟨rfl, rfl⟩, rfl⟩
         refine ⟨(ss (ss (ss (ss (ss (ss (ss (ss (ss (ss (sn))))))))))), ?_⟩
         refine any_y 17 rfl (by kernel_rfl) (by kernel_rfl) (by kernel_rfl) (ss (ss (ss (ss (ss (ss (ss (ss (ss (ss (sn))))))))))) (wn rfl) rfl (y_gtr rfl rfl) ?_
         refine any_nil (by kernel_rfl) ?_
         refine goes_code ?_
         refine run_cond (decide (r135 < (IntKind.i64.wrap (r131 - r133)))) rfl (fun hc137 => ?_) (fun hc137 => ?_)
         ·replace h := cond_t h hc137
          refine run_seq ?_
          refine run_weak [] [3] [globA] vnil (by decide) rfl ?_
          refine run_region' ?_
          refine oy rfl rfl (y_assign rfl) ?_
          refine ops_nil ?_
          refine goes_code ?_
          refine run_ret ?_
          obtain rfl := some_eq h
          obtain rfl := hstop82 _ rfl
          skip
          obtain rfl := after_stop ho76
          skip
          obtain rfl := hstop72 _ rfl
          skip
          obtain rfl := after_stop ho66
          refine fin_slots [8] [.bool false] [] [] Tryd.results6 rfl (by decide) rfl ?_
          exact ⟨rfl, rfl⟩
         ·replace h := cond_f h hc137
          refine run_skip ?_
          refine goes_code ?_
          refine run_seq ?_
          refine run_weak [(93, .int .i64 s_79), (0, l_0v), (3, .int .i64 t_3), (9, v11), (11, .int .i64 hop_18), (12, .int .i64 shortest_45), (18, v64), (19, .int .i64 s_69), (87, .int .i64 (r9.1.length : Int)), (88, .int .i64 s_69), (92, .int .i64 (r9.1.length : Int)), (21, boxP b122 0), (22, boxP b125 0)] [0, 1, 2, 3, 5, 7, 8, 9] [ro l_0v 20 (l_0.map S_api_Segment.enc), nrow v11 NC_L_int_46 r9.1, row v64 1 (r62.map (eInt .i64)), globA, ro v103 20 (r87.L.map S_api_Segment.enc), ro v117 20 (r92.L.map S_api_Segment.enc), box b122 [.int .i64 r87.First, v103, .bool r87.Done], box b125 [.int .i64 r92.First, v117, .bool r92.Done]] (qw6 rfl rfl rfl rfl rfl rfl (qv7 rfl rfl rfl rfl rfl rfl rfl)) (by decide) rfl ?_
          refine run_region' ?_
          refine oy rfl rfl (y_load_boxagg (c := [.int .i64 r87.First, v103, .bool r87.Done]) 6 Tryd.isAgg27 Tryd.sizeOf27 rfl rfl rfl) ?_
          refine oy rfl rfl (y_load_boxagg (c := [.int .i64 r92.First, v117, .bool r92.Done]) 7 Tryd.isAgg27 Tryd.sizeOf27 rfl rfl rfl) ?_
          obtain ⟨r138, hr139, h⟩ := obind_some h
          refine ot rfl rfl (t_callx (vs := [.agg #[.int .i64 r87.First, v103, .bool r87.Done], .agg #[.int .i64 r92.First, v117, .bool r92.Done], .int .i64 100]) (cs := []) [(4, 0), (5, 0)] rfl Tryd.call10 rfl (playlist_Merge_ok n r87 r92 100 v103 v117 hr139) (showsX_view 4 rfl views_ro (showsX_view 5 rfl views_ro showsX_nil)) rfl (.inl rfl)) ?_
          rintro _ _ ⟨_, ⟨v140, rfl, rfl⟩, rfl⟩
          refine oy rfl rfl (y_move rfl) ?_
          refine oy rfl rfl (y_extract rfl rfl) ?_
          refine oy rfl rfl (y_extract rfl rfl) ?_
          refine ot rfl rfl (t_alloc Tryd.zeroValue27) ?_
          rintro _ _ ⟨b141, rfl, rfl⟩
          refine ops_slc 8 rfl reads_ro (fun hs142 hs142o => ?_)
          refine ot rfl rfl (t_store 9 Tryd.sizeOf27 rfl rfl rfl rfl (by simp [Value.cells, boxP]) (allL_cons rfl (allL_cons hs142o (allL_cons rfl (allL_nil))))) ?_
          rintro _ _ ⟨rfl, rfl⟩
          refine ops_turn (retell 9 (g := box b141 [.int .i64 r138.1.First, v140, .bool r138.1.Done]) rfl rfl) ?_
          refine oy rfl rfl (y_assign rfl) ?_
          refine ops_nil ?_
          refine goes_code ?_
          refine run_seq ?_
          refine run_weak [(93, .int .i64 s_79), (0, l_0v), (3, .int .i64 t_3), (9, v11), (11, .int .i64 hop_18), (12, .int .i64 shortest_45), (18, v64), (19, .int .i64 s_69), (87, .int .i64 (r9.1.length : Int)), (88, .int .i64 s_69), (92, .int .i64 (r9.1.length : Int)), (21, boxP b122 0), (22, boxP b125 0), (23, boxP b141 0), (24, .int .i64 r138.2)] [0, 1, 2, 3, 4, 5, 6, 7, 8, 9] [ro l_0v 20 (l_0.map S_api_Segment.enc), nrow v11 NC_L_int_46 r9.1, row v64 1 (r62.map (eInt .i64)), globA, ro v103 20 (r87.L.map S_api_Segment.enc), ro v117 20 (r92.L.map S_api_Segment.enc), box b122 [.int .i64 r87.First, v103, .bool r87.Done], box b125 [.int .i64 r92.First, v117, .bool r92.Done], ro v140 20 (r138.1.L.map S_api_Segment.enc), box b141 [.int .i64 r138.1.First, v140, .bool r138.1.Done]] (qw6 rfl rfl rfl rfl rfl rfl (qv9 rfl rfl rfl rfl rfl rfl rfl rfl rfl)) (by decide) rfl ?_
          refine run_drawany [ro l_0v 20 (l_0.map S_api_Segment.enc), nrow v11 NC_L_int_46 r9.1, row v64 1 (r62.map (eInt .i64)), globA, ro v103 20 (r87.L.map S_api_Segment.enc), ro v117 20 (r92.L.map S_api_Segment.enc), box b122 [.int .i64 r87.First, v103, .bool r87.Done], box b125 [.int .i64 r92.First, v117, .bool r92.Done], ro v140 20 (r138.1.L.map S_api_Segment.enc), box b141 [.int .i64 r138.1.First, v140, .bool r138.1.Done]] (by kernel_rfl) ?_
          refine any_y 0 rfl (by kernel_rfl) (by kernel_rfl) (by kernel_rfl) (ss (ss (ss (ss (ss (ss (ss (ss (ss (ss (sn))))))))))) (wn rfl) rfl (y_move rfl) ?_
          refine any_y 1 rfl (by kernel_rfl) (by kernel_rfl) (by kernel_rfl) (ss (ss (ss (ss (ss (ss (ss (ss (ss (ss (sn))))))))))) (wn rfl) rfl (y_neq rfl rfl) ?_
          refine any_y 2 rfl (by kernel_rfl) (by kernel_rfl) (by kernel_rfl) (ss (ss (ss (ss (ss (ss (ss (ss (ss (ss (sn))))))))))) (wn rfl) rfl (y_move rfl) ?_
          obtain ⟨o144, h, ho145⟩ := bindJ_some h
          refine any_cut #[true, true, true, true, true, true, true, true, true, true, true, true] 0 Bool (fun σ => [(93, .int .i64 s_79), (0, l_0v), (3, .int .i64 t_3), (9, v11), (11, .int .i64 hop_18), (12, .int .i64 shortest_45), (18, v64), (19, .int .i64 s_69), (87, .int .i64 (r9.1.length : Int)), (88, .int .i64 s_69), (92, .int .i64 (r9.1.length : Int)), (145, .bool σ)]) (fun σ => [ro l_0v 20 (l_0.map S_api_Segment.enc), nrow v11 NC_L_int_46 r9.1, row v64 1 (r62.map (eInt .i64)), globA, ro v103 20 (r87.L.map S_api_Segment.enc), ro v117 20 (r92.L.map S_api_Segment.enc), box b122 [.int .i64 r87.First, v103, .bool r87.Done], box b125 [.int .i64 r92.First, v117, .bool r92.Done], ro v140 20 (r138.1.L.map S_api_Segment.enc), box b141 [.int .i64 r138.1.First, v140, .bool r138.1.Done]]) (fun σ => o144 = .go σ) (fun hL147 => ?_) ?_
          ·refine any_split 136 (decide (r138.2 ≠ 0)) rfl (fun hg148 => ?_) (fun hg148 => ?_)
           ·replace h := cond_t h hg148
            refine any_no 3 rfl (by kernel_rfl) (by kernel_rfl) (by kernel_rfl) (ss (ss (ss (ss (ss (ss (ss (ss (ss (ss (sn))))))))))) 2 false 136 rfl rfl rfl rfl rfl ?_
            refine any_no 5 rfl (by kernel_rfl) (by kernel_rfl) (by kernel_rfl) (ss (ss (ss (ss (ss (ss (ss (ss (ss (ss (sn))))))))))) 2 false 136 rfl rfl rfl rfl rfl ?_
            refine any_no 7 rfl (by kernel_rfl) (by kernel_rfl) (by kernel_rfl) (ss (ss (ss (ss (ss (ss (ss (ss (ss (ss (sn))))))))))) 2 false 136 rfl rfl rfl rfl rfl ?_
            refine any_no 4 rfl (by kernel_rfl) (by kernel_rfl) (by kernel_rfl) (ss (ss (ss (ss (ss (ss (ss (ss (ss (ss (sn))))))))))) 2 false 136 rfl rfl rfl rfl rfl ?_
            refine any_no 6 rfl (by kernel_rfl) (by kernel_rfl) (by kernel_rfl) (ss (ss (ss (ss (ss (ss (ss (ss (ss (ss (sn))))))))))) 2 false 136 rfl rfl rfl rfl rfl ?_
            refine any_no 8 rfl (by kernel_rfl) (by kernel_rfl) (by kernel_rfl) (ss (ss (ss (ss (ss (ss (ss (ss (ss (ss (sn))))))))))) 2 false 136 rfl rfl rfl rfl rfl ?_
            refine any_no 9 rfl (by kernel_rfl) (by kernel_rfl) (by kernel_rfl) (ss (ss (ss (ss (ss (ss (ss (ss (ss (ss (sn))))))))))) 2 false 136 rfl rfl rfl rfl rfl ?_
            refine any_no 10 rfl (by kernel_rfl) (by kernel_rfl) (by kernel_rfl) (ss (ss (ss (ss (ss (ss (ss (ss (ss (ss (sn))))))))))) 2 false 136 rfl rfl rfl rfl rfl ?_
            refine any_y 11 rfl (by kernel_rfl) (by kernel_rfl) (by kernel_rfl) (ss (ss (ss (ss (ss (ss (ss (ss (ss (ss (sn))))))))))) (wn rfl) rfl (y_pick (b := true) rfl rfl) ?_
            obtain rfl := some_eq h
            exact any_weak [(93, .int .i64 s_79), (0, l_0v), (3, .int .i64 t_3), (9, v11), (11, .int .i64 hop_18), (12, .int .i64 shortest_45), (18, v64), (19, .int .i64 s_69), (87, .int .i64 (r9.1.length : Int)), (88, .int .i64 s_69), (92, .int .i64 (r9.1.length : Int)), (145, .bool true)] [0, 1, 2, 3, 4, 5, 6, 7, 8, 9] [ro l_0v 20 (l_0.map S_api_Segment.enc), nrow v11 NC_L_int_46 r9.1, row v64 1 (r62.map (eInt .i64)), globA, ro v103 20 (r87.L.map S_api_Segment.enc), ro v117 20 (r92.L.map S_api_Segment.enc), box b122 [.int .i64 r87.First, v103, .bool r87.Done], box b125 [.int .i64 r92.First, v117, .bool r92.Done], ro v140 20 (r138.1.L.map S_api_Segment.enc), box b141 [.int .i64 r138.1.First, v140, .bool r138.1.Done]] (by kernel_rfl) (qv12 rfl rfl rfl rfl rfl rfl rfl rfl rfl rfl rfl rfl) (by decide) rfl (hL147 true rfl)
           ·replace h := cond_f h hg148
            refine any_y 3 rfl (by kernel_rfl) (by kernel_rfl) (by kernel_rfl) (ss (ss (ss (ss (ss (ss (ss (ss (ss (ss (sn))))))))))) (wg 2 false 136 rfl rfl rfl rfl) rfl (y_load_boxagg (c := [.int .i64 r138.1.First, v140, .bool r138.1.Done]) 9 Tryd.isAgg27 Tryd.sizeOf27 rfl rfl rfl) ?_
            refine any_y 5 rfl (by kernel_rfl) (by kernel_rfl) (by kernel_rfl) (ss (ss (ss (ss (ss (ss (ss (ss (ss (ss (sn))))))))))) (wg 2 false 136 rfl rfl rfl rfl) rfl (y_load_boxagg (c := [.int .i64 r87.First, v103, .bool r87.Done]) 6 Tryd.isAgg27 Tryd.sizeOf27 rfl rfl rfl) ?_
            refine any_y 7 rfl (by kernel_rfl) (by kernel_rfl) (by kernel_rfl) (ss (ss (ss (ss (ss (ss (ss (ss (ss (ss (sn))))))))))) (wg 2 false 136 rfl rfl rfl rfl) rfl (y_load_boxagg (c := [.int .i64 r92.First, v117, .bool r92.Done]) 7 Tryd.isAgg27 Tryd.sizeOf27 rfl rfl rfl) ?_
            refine any_all [4] (by kernel_rfl) rfl (anyo_cons ?_ anyo_nil)
            obtain ⟨r149, hr150, h⟩ := obind_some h
            refine any_t rfl (wg 2 false 136 rfl rfl rfl rfl) rfl (t_callx (vs := [.agg #[.int .i64 r138.1.First, v140, .bool r138.1.Done]]) (cs := []) [(8, 0)] rfl Tryd.call13 rfl (playlist_Next_ok r138.1 v140 hr150) (showsX_view 8 rfl views_ro showsX_nil) rfl (.inl rfl)) ?_
            rintro _ _ ⟨_, ⟨rfl, rfl⟩, rfl⟩
            refine ⟨(ss (ss (ss (ss (ss (ss (ss (ss (ss (ss (sn))))))))))), ?_⟩
            refine any_all [6] (by kernel_rfl) rfl (anyo_cons ?_ anyo_nil)
            obtain ⟨r151, hr152, h⟩ := obind_some h
            refine any_t rfl (wg 2 false 136 rfl rfl rfl rfl) rfl (t_callx (vs := [.agg #[.int .i64 r87.First, v103, .bool r87.Done]]) (cs := []) [(4, 0)] rfl Tryd.call13 rfl (playlist_Next_ok r87 v103 hr152) (showsX_view 4 rfl views_ro showsX_nil) rfl (.inl rfl)) ?_
            rintro _ _ ⟨_, ⟨rfl, rfl⟩, rfl⟩
            refine ⟨(ss (ss (ss (ss (ss (ss (ss (ss (ss (ss (sn))))))))))), ?_⟩
            refine any_all [8] (by kernel_rfl) rfl (anyo_cons ?_ anyo_nil)
            obtain ⟨r153, hr154, h⟩ := obind_some h
            refine any_t rfl (wg 2 false 136 rfl rfl rfl rfl) rfl (t_callx (vs := [.agg #[.int .i64 r92.First, v117, .bool r92.Done]]) (cs := []) [(5, 0)] rfl Tryd.call13 rfl (playlist_Next_ok r92 v117 hr154) (showsX_view 5 rfl views_ro showsX_nil) rfl (.inl rfl)) ?_
            rintro _ _ ⟨_, ⟨rfl, rfl⟩, rfl⟩
            refine ⟨(ss (ss (ss (ss (ss (ss (ss (ss (ss (ss (sn))))))))))), ?_⟩
            refine any_y 9 rfl (by kernel_rfl) (by kernel_rfl) (by kernel_rfl) (ss (ss (ss (ss (ss (ss (ss (ss (ss (ss (sn))))))))))) (wg 2 false 136 rfl rfl rfl rfl) rfl (y_max rfl rfl) ?_
            refine any_y 10 rfl (by kernel_rfl) (by kernel_rfl) (by kernel_rfl) (ss (ss (ss (ss (ss (ss (ss (ss (ss (ss (sn))))))))))) (wg 2 false 136 rfl rfl rfl rfl) rfl (y_neq rfl rfl) ?_
            refine any_y 11 rfl (by kernel_rfl) (by kernel_rfl) (by kernel_rfl) (ss (ss (ss (ss (ss (ss (ss (ss (ss (ss (sn))))))))))) (wn rfl) rfl (y_pick (b := false) rfl rfl) ?_
            obtain rfl := some_eq h
            exact any_weak [(93, .int .i64 s_79), (0, l_0v), (3, .int .i64 t_3), (9, v11), (11, .int .i64 hop_18), (12, .int .i64 shortest_45), (18, v64), (19, .int .i64 s_69), (87, .int .i64 (r9.1.length : Int)), (88, .int .i64 s_69), (92, .int .i64 (r9.1.length : Int)), (145, .bool (decide (r149 ≠ (max r151 r153))))] [0, 1, 2, 3, 4, 5, 6, 7, 8, 9] [ro l_0v 20 (l_0.map S_api_Segment.enc), nrow v11 NC_L_int_46 r9.1, row v64 1 (r62.map (eInt .i64)), globA, ro v103 20 (r87.L.map S_api_Segment.enc), ro v117 20 (r92.L.map S_api_Segment.enc), box b122 [.int .i64 r87.First, v103, .bool r87.Done], box b125 [.int .i64 r92.First, v117, .bool r92.Done], ro v140 20 (r138.1.L.map S_api_Segment.enc), box b141 [.int .i64 r138.1.First, v140, .bool r138.1.Done]] (by kernel_rfl) (qv12 rfl rfl rfl rfl rfl rfl rfl rfl rfl rfl rfl rfl) (by decide) rfl (hL147 (decide (r149 ≠ (max r151 r153))) rfl)
          rintro b143 hj
          obtain rfl : o144 = _ := hj
          replace h := after_go ho145
          clear ho145
          refine any_nil (by kernel_rfl) ?_
          refine goes_code ?_
          refine run_cond b143 rfl (fun hc155 => ?_) (fun hc155 => ?_)
          ·replace h := cond_t h hc155
           refine run_seq ?_
           refine run_region' ?_
           refine oy rfl rfl (y_assign rfl) ?_
           refine ops_nil ?_
           refine goes_code ?_
           refine run_ret ?_
           obtain rfl := some_eq h
           obtain rfl := hstop82 _ rfl
           skip
           obtain rfl := after_stop ho76
           skip
           obtain rfl := hstop72 _ rfl
           skip
           obtain rfl := after_stop ho66
           refine fin_slots [8] [.bool false] [] [] Tryd.results6 rfl (by decide) rfl ?_
           exact ⟨rfl, rfl⟩
          ·replace h := cond_f h hc155
           refine run_skip ?_
           refine goes_blk ?_
           refine goes_code ?_
           refine run_region' ?_
           refine oy rfl rfl (y_add rfl rfl) ?_
           refine oy rfl rfl (y_move rfl) ?_
           refine ops_nil ?_
           obtain rfl := some_eq h
           exact goes_iter hgo81 (IntKind.i64.wrap (s_79 + 1)) () [0, 1, 2, 3] rfl (qv11 rfl rfl rfl rfl rfl rfl rfl rfl rfl rfl rfl) (by decide) rfl
        refine any_cut2 #[true, true, true, true, true, true, true, true, true, true, true, true, true, true, true, true, true, false] 1 (Value × Nat × Nat × Value × Value × Value) (fun σ => [(93, .int .i64 s_79), (0, l_0v), (3, .int .i64 t_3), (9, v11), (11, .int .i64 hop_18), (12, .int .i64 shortest_45), (18, v64), (19, .int .i64 s_69), (87, .int .i64 (r9.1.length : Int)), (88, .int .i64 s_69), (92, .int .i64 (r9.1.length : Int)), (20, .int .i64 s_79), (109, .agg #[.int .i64 r92.First, σ.1, .bool r92.Done]), (21, boxP σ.2.1 0), (22, boxP σ.2.2.1 0)]) (fun σ => [ro l_0v 20 (l_0.map S_api_Segment.enc), nrow v11 NC_L_int_46 r9.1, row v64 1 (r62.map (eInt .i64)), globA, ro σ.2.2.2.1 1 (x85.map (eInt .i64)), ro σ.2.2.2.2.1 20 (r87.L.map S_api_Segment.enc), ro σ.2.2.2.2.2 1 (x90.map (eInt .i64)), ro σ.1 20 (r92.L.map S_api_Segment.enc), box σ.2.1 [.int .i64 r87.First, σ.2.2.2.2.1, .bool r87.Done], box σ.2.2.1 [.int .i64 0, .slice none 0 0, .bool false]]) ?_ (fun hK156 => ?_)
        ·rintro ⟨v117, b122, b125, g99, v103, g110⟩
         change AnyL _ _ _ _ _ (VF.of [(93, .int .i64 s_79), (0, l_0v), (3, .int .i64 t_3), (9, v11), (11, .int .i64 hop_18), (12, .int .i64 shortest_45), (18, v64), (19, .int .i64 s_69), (87, .int .i64 (r9.1.length : Int)), (88, .int .i64 s_69), (92, .int .i64 (r9.1.length : Int)), (20, .int .i64 s_79), (109, .agg #[.int .i64 r92.First, v117, .bool r92.Done]), (21, boxP b122 0), (22, boxP b125 0)]) [ro l_0v 20 (l_0.map S_api_Segment.enc), nrow v11 NC_L_int_46 r9.1, row v64 1 (r62.map (eInt .i64)), globA, ro g99 1 (x85.map (eInt .i64)), ro v103 20 (r87.L.map S_api_Segment.enc), ro g110 1 (x90.map (eInt .i64)), ro v117 20 (r92.L.map S_api_Segment.enc), box b122 [.int .i64 r87.First, v103, .bool r87.Done], box b125 [.int .i64 0, .slice none 0 0, .bool false]] _
         refine any_all [17] (by kernel_rfl) rfl ?_
         refine anyo_cons ?_ ?_
         ·
          refine anyo_slc 7 rfl reads_ro (fun hs157 hs157o => ?_)
          refine any_t rfl (wn rfl) rfl (t_store 9 Tryd.sizeOf27 rfl rfl rfl rfl (by simp [Value.cells, boxP]) (allL_cons rfl (allL_cons hs157o (allL_cons rfl (allL_nil))))) ?_
          rintro _ _ ⟨rfl, rfl⟩
          refine ⟨(ss (ss (ss (ss (sn))))), ?_⟩
          refine any_turn (retell 9 (g := box b125 [.int .i64 r92.First, v117, .bool r92.Done]) rfl rfl) ?_
          exact any_weak2 (hK128 (b122, b125, g99, v103, g110, v117)) [0, 1, 2, 3, 4, 5, 6, 7, 8, 9] (by kernel_rfl) (qw6 rfl rfl rfl rfl rfl rfl (qv8 rfl rfl rfl rfl rfl rfl rfl rfl)) (by decide) rfl
         exact anyo_nil
        refine any_cut2 #[true, true, true, true, true, true, true, true, true, true, true, true, true, true, true, true, false, false] 2 (Value × Value × Nat × Nat × Value × Value) (fun σ => [(93, .int .i64 s_79), (0, l_0v), (3, .int .i64 t_3), (9, v11), (11, .int .i64 hop_18), (12, .int .i64 shortest_45), (18, v64), (19, .int .i64 s_69), (87, .int .i64 (r9.1.length : Int)), (88, .int .i64 s_69), (92, .int .i64 (r9.1.length : Int)), (20, .int .i64 s_79), (102, .agg #[.int .i64 r87.First, σ.1, .bool r87.Done]), (109, .agg #[.int .i64 r92.First, σ.2.1, .bool r92.Done]), (21, boxP σ.2.2.1 0), (22, boxP σ.2.2.2.1 0)]) (fun σ => [ro l_0v 20 (l_0.map S_api_Segment.enc), nrow v11 NC_L_int_46 r9.1, row v64 1 (r62.map (eInt .i64)), globA, ro σ.2.2.2.2.1 1 (x85.map (eInt .i64)), ro σ.1 20 (r87.L.map S_api_Segment.enc), ro σ.2.2.2.2.2 1 (x90.map (eInt .i64)), ro σ.2.1 20 (r92.L.map S_api_Segment.enc), box σ.2.2.1 [.int .i64 0, .slice none 0 0, .bool false], box σ.2.2.2.1 [.int .i64 0, .slice none 0 0, .bool false]]) ?_ (fun hK158 => ?_)
        ·rintro ⟨v103, v117, b122, b125, g99, g110⟩
         change AnyL _ _ _ _ _ (VF.of [(93, .int .i64 s_79), (0, l_0v), (3, .int .i64 t_3), (9, v11), (11, .int .i64 hop_18), (12, .int .i64 shortest_45), (18, v64), (19, .int .i64 s_69), (87, .int .i64 (r9.1.length : Int)), (88, .int .i64 s_69), (92, .int .i64 (r9.1.length : Int)), (20, .int .i64 s_79), (102, .agg #[.int .i64 r87.First, v103, .bool r87.Done]), (109, .agg #[.int .i64 r92.First, v117, .bool r92.Done]), (21, boxP b122 0), (22, boxP b125 0)]) [ro l_0v 20 (l_0.map S_api_Segment.enc), nrow v11 NC_L_int_46 r9.1, row v64 1 (r62.map (eInt .i64)), globA, ro g99 1 (x85.map (eInt .i64)), ro v103 20 (r87.L.map S_api_Segment.enc), ro g110 1 (x90.map (eInt .i64)), ro v117 20 (r92.L.map S_api_Segment.enc), box b122 [.int .i64 0, .slice none 0 0, .bool false], box b125 [.int .i64 0, .slice none 0 0, .bool false]] _
         refine any_all [16] (by kernel_rfl) rfl ?_
         refine anyo_cons ?_ ?_
         ·
          refine anyo_slc 5 rfl reads_ro (fun hs159 hs159o => ?_)
          refine any_t rfl (wn rfl) rfl (t_store 8 Tryd.sizeOf27 rfl rfl rfl rfl (by simp [Value.cells, boxP]) (allL_cons rfl (allL_cons hs159o (allL_cons rfl (allL_nil))))) ?_
          rintro _ _ ⟨rfl, rfl⟩
          refine ⟨(ss (ss (ss (ss (sn))))), ?_⟩
          refine any_turn (retell 8 (g := box b122 [.int .i64 r87.First, v103, .bool r87.Done]) rfl rfl) ?_
          exact any_weak2 (hK156 (v117, b122, b125, g99, v103, g110)) [0, 1, 2, 3, 4, 5, 6, 7, 8, 9] (by kernel_rfl) (qw6 rfl rfl rfl rfl rfl rfl (qv9 rfl rfl rfl rfl rfl rfl rfl rfl rfl)) (by decide) rfl
         exact anyo_nil
        refine any_cut2 #[true, true, true, true, true, true, true, true, true, true, true, true, true, true, true, false, false, false] 3 (Value × Value × Nat × Value × Value) (fun σ => [(93, .int .i64 s_79), (0, l_0v), (3, .int .i64 t_3), (9, v11), (11, .int .i64 hop_18), (12, .int .i64 shortest_45), (18, v64), (19, .int .i64 s_69), (87, .int .i64 (r9.1.length : Int)), (88, .int .i64 s_69), (92, .int .i64 (r9.1.length : Int)), (20, .int .i64 s_79), (102, .agg #[.int .i64 r87.First, σ.1, .bool r87.Done]), (109, .agg #[.int .i64 r92.First, σ.2.1, .bool r92.Done]), (21, boxP σ.2.2.1 0)]) (fun σ => [ro l_0v 20 (l_0.map S_api_Segment.enc), nrow v11 NC_L_int_46 r9.1, row v64 1 (r62.map (eInt .i64)), globA, ro σ.2.2.2.1 1 (x85.map (eInt .i64)), ro σ.1 20 (r87.L.map S_api_Segment.enc), ro σ.2.2.2.2 1 (x90.map (eInt .i64)), ro σ.2.1 20 (r92.L.map S_api_Segment.enc), box σ.2.2.1 [.int .i64 0, .slice none 0 0, .bool false]]) ?_ (fun hK160 => ?_)
        ·rintro ⟨v103, v117, b122, g99, g110⟩
         change AnyL _ _ _ _ _ (VF.of [(93, .int .i64 s_79), (0, l_0v), (3, .int .i64 t_3), (9, v11), (11, .int .i64 hop_18), (12, .int .i64 shortest_45), (18, v64), (19, .int .i64 s_69), (87, .int .i64 (r9.1.length : Int)), (88, .int .i64 s_69), (92, .int .i64 (r9.1.length : Int)), (20, .int .i64 s_79), (102, .agg #[.int .i64 r87.First, v103, .bool r87.Done]), (109, .agg #[.int .i64 r92.First, v117, .bool r92.Done]), (21, boxP b122 0)]) [ro l_0v 20 (l_0.map S_api_Segment.enc), nrow v11 NC_L_int_46 r9.1, row v64 1 (r62.map (eInt .i64)), globA, ro g99 1 (x85.map (eInt .i64)), ro v103 20 (r87.L.map S_api_Segment.enc), ro g110 1 (x90.map (eInt .i64)), ro v117 20 (r92.L.map S_api_Segment.enc), box b122 [.int .i64 0, .slice none 0 0, .bool false]] _
         refine any_all [15] (by kernel_rfl) rfl ?_
         refine anyo_cons ?_ ?_
         ·
          refine any_t rfl (wn rfl) rfl (t_alloc Tryd.zeroValue27) ?_
          rintro _ _ ⟨b161, rfl, rfl⟩
          refine ⟨(ss (ss (ss (ss (sn))))), ?_⟩
          exact any_weak2 (hK158 (v103, v117, b122, b161, g99, g110)) [0, 1, 2, 3, 4, 5, 6, 7, 8, 9] (by kernel_rfl) (qw6 rfl rfl rfl rfl rfl rfl (qv10 rfl rfl rfl rfl rfl rfl rfl rfl rfl rfl)) (by decide) rfl
         exact anyo_nil
        refine any_cut2 #[true, true, true, true, true, true, true, true, true, true, true, true, true, true, false, true, false, false] 3 (Value × Value × Nat × Value × Value) (fun σ => [(93, .int .i64 s_79), (0, l_0v), (3, .int .i64 t_3), (9, v11), (11, .int .i64 hop_18), (12, .int .i64 shortest_45), (18, v64), (19, .int .i64 s_69), (87, .int .i64 (r9.1.length : Int)), (88, .int .i64 s_69), (92, .int .i64 (r9.1.length : Int)), (20, .int .i64 s_79), (102, .agg #[.int .i64 r87.First, σ.1, .bool r87.Done]), (109, .agg #[.int .i64 r92.First, σ.2.1, .bool r92.Done]), (22, boxP σ.2.2.1 0)]) (fun σ => [ro l_0v 20 (l_0.map S_api_Segment.enc), nrow v11 NC_L_int_46 r9.1, row v64 1 (r62.map (eInt .i64)), globA, ro σ.2.2.2.1 1 (x85.map (eInt .i64)), ro σ.1 20 (r87.L.map S_api_Segment.enc), ro σ.2.2.2.2 1 (x90.map (eInt .i64)), ro σ.2.1 20 (r92.L.map S_api_Segment.enc), box σ.2.2.1 [.int .i64 0, .slice none 0 0, .bool false]]) ?_ (fun hK162 => ?_)
        ·rintro ⟨v103, v117, b123, g99, g110⟩
         change AnyL _ _ _ _ _ (VF.of [(93, .int .i64 s_79), (0, l_0v), (3, .int .i64 t_3), (9, v11), (11, .int .i64 hop_18), (12, .int .i64 shortest_45), (18, v64), (19, .int .i64 s_69), (87, .int .i64 (r9.1.length : Int)), (88, .int .i64 s_69), (92, .int .i64 (r9.1.length : Int)), (20, .int .i64 s_79), (102, .agg #[.int .i64 r87.First, v103, .bool r87.Done]), (109, .agg #[.int .i64 r92.First, v117, .bool r92.Done]), (22, boxP b123 0)]) [ro l_0v 20 (l_0.map S_api_Segment.enc), nrow v11 NC_L_int_46 r9.1, row v64 1 (r62.map (eInt .i64)), globA, ro g99 1 (x85.map (eInt .i64)), ro v103 20 (r87.L.map S_api_Segment.enc), ro g110 1 (x90.map (eInt .i64)), ro v117 20 (r92.L.map S_api_Segment.enc), box b123 [.int .i64 0, .slice none 0 0, .bool false]] _
         refine any_all [14] (by kernel_rfl) rfl ?_
         refine anyo_cons ?_ ?_
         ·
          refine any_t rfl (wn rfl) rfl (t_alloc Tryd.zeroValue27) ?_
          rintro _ _ ⟨b163, rfl, rfl⟩
          refine ⟨(ss (ss (ss (ss (sn))))), ?_⟩
          exact any_weak2 (hK158 (v103, v117, b163, b123, g99, g110)) [0, 1, 2, 3, 4, 5, 6, 7, 9, 8] (by kernel_rfl) (qw6 rfl rfl rfl rfl rfl rfl (qv10 rfl rfl rfl rfl rfl rfl rfl rfl rfl rfl)) (by decide) rfl
         exact anyo_nil
        refine any_cut2 #[true, true, true, true, true, true, true, true, true, true, true, true, true, false, true, true, false, false] 3 (Value × Value × Nat × Nat × Value) (fun σ => [(93, .int .i64 s_79), (0, l_0v), (3, .int .i64 t_3), (9, v11), (11, .int .i64 hop_18), (12, .int .i64 shortest_45), (18, v64), (19, .int .i64 s_69), (87, .int .i64 (r9.1.length : Int)), (88, .int .i64 s_69), (92, .int .i64 (r9.1.length : Int)), (20, .int .i64 s_79), (103, l_0v), (108, .int .i64 t_3), (102, .agg #[.int .i64 r87.First, σ.1, .bool r87.Done]), (107, σ.2.1), (21, boxP σ.2.2.1 0), (22, boxP σ.2.2.2.1 0)]) (fun σ => [ro l_0v 20 (l_0.map S_api_Segment.enc), nrow v11 NC_L_int_46 r9.1, row v64 1 (r62.map (eInt .i64)), globA, ro σ.2.2.2.2 1 (x85.map (eInt .i64)), ro σ.1 20 (r87.L.map S_api_Segment.enc), ro σ.2.1 1 (x90.map (eInt .i64)), box σ.2.2.1 [.int .i64 0, .slice none 0 0, .bool false], box σ.2.2.2.1 [.int .i64 0, .slice none 0 0, .bool false]]) ?_ (fun hK164 => ?_)
        ·rintro ⟨v103, g110, b118, b124, g99⟩
         change AnyL _ _ _ _ _ (VF.of [(93, .int .i64 s_79), (0, l_0v), (3, .int .i64 t_3), (9, v11), (11, .int .i64 hop_18), (12, .int .i64 shortest_45), (18, v64), (19, .int .i64 s_69), (87, .int .i64 (r9.1.length : Int)), (88, .int .i64 s_69), (92, .int .i64 (r9.1.length : Int)), (20, .int .i64 s_79), (103, l_0v), (108, .int .i64 t_3), (102, .agg #[.int .i64 r87.First, v103, .bool r87.Done]), (107, g110), (21, boxP b118 0), (22, boxP b124 0)]) [ro l_0v 20 (l_0.map S_api_Segment.enc), nrow v11 NC_L_int_46 r9.1, row v64 1 (r62.map (eInt .i64)), globA, ro g99 1 (x85.map (eInt .i64)), ro v103 20 (r87.L.map S_api_Segment.enc), ro g110 1 (x90.map (eInt .i64)), box b118 [.int .i64 0, .slice none 0 0, .bool false], box b124 [.int .i64 0, .slice none 0 0, .bool false]] _
         refine any_all [13] (by kernel_rfl) rfl ?_
         refine anyo_cons ?_ ?_
         ·
          refine any_t rfl (wn rfl) rfl (t_callx (vs := [l_0v, g110, .int .i64 t_3, .int .i64 100]) (cs := []) [(0, 0), (6, 0)] rfl Tryd.call20 rfl (playlist_Seen_ok n l_0 x90 t_3 100 l_0v g110 hr93) (showsX_view 0 rfl views_ro (showsX_view 6 rfl views_ro showsX_nil)) rfl (.inl rfl)) ?_
          rintro _ _ ⟨_, ⟨v165, rfl, rfl⟩, rfl⟩
          refine ⟨(ss (ss (ss (ss (sn))))), ?_⟩
          exact any_weak2 (hK158 (v103, v165, b118, b124, g99, g110)) [0, 1, 2, 3, 4, 5, 6, 9, 7, 8] (by kernel_rfl) (qw6 rfl rfl rfl rfl rfl rfl (qv10 rfl rfl rfl rfl rfl rfl rfl rfl rfl rfl)) (by decide) rfl
         exact anyo_nil
        refine any_cut2 #[true, true, true, true, true, true, true, true, true, true, true, true, true, true, false, false, false, false] 4 (Value × Value × Value × Value) (fun σ => [(93, .int .i64 s_79), (0, l_0v), (3, .int .i64 t_3), (9, v11), (11, .int .i64 hop_18), (12, .int .i64 shortest_45), (18, v64), (19, .int .i64 s_69), (87, .int .i64 (r9.1.length : Int)), (88, .int .i64 s_69), (92, .int .i64 (r9.1.length : Int)), (20, .int .i64 s_79), (102, .agg #[.int .i64 r87.First, σ.1, .bool r87.Done]), (109, .agg #[.int .i64 r92.First, σ.2.1, .bool r92.Done])]) (fun σ => [ro l_0v 20 (l_0.map S_api_Segment.enc), nrow v11 NC_L_int_46 r9.1, row v64 1 (r62.map (eInt .i64)), globA, ro σ.2.2.1 1 (x85.map (eInt .i64)), ro σ.1 20 (r87.L.map S_api_Segment.enc), ro σ.2.2.2 1 (x90.map (eInt .i64)), ro σ.2.1 20 (r92.L.map S_api_Segment.enc)]) ?_ (fun hK166 => ?_)
        ·rintro ⟨v103, v117, g99, g110⟩
         change AnyL _ _ _ _ _ (VF.of [(93, .int .i64 s_79), (0, l_0v), (3, .int .i64 t_3), (9, v11), (11, .int .i64 hop_18), (12, .int .i64 shortest_45), (18, v64), (19, .int .i64 s_69), (87, .int .i64 (r9.1.length : Int)), (88, .int .i64 s_69), (92, .int .i64 (r9.1.length : Int)), (20, .int .i64 s_79), (102, .agg #[.int .i64 r87.First, v103, .bool r87.Done]), (109, .agg #[.int .i64 r92.First, v117, .bool r92.Done])]) [ro l_0v 20 (l_0.map S_api_Segment.enc), nrow v11 NC_L_int_46 r9.1, row v64 1 (r62.map (eInt .i64)), globA, ro g99 1 (x85.map (eInt .i64)), ro v103 20 (r87.L.map S_api_Segment.enc), ro g110 1 (x90.map (eInt .i64)), ro v117 20 (r92.L.map S_api_Segment.enc)] _
         refine any_all [14, 15] (by kernel_rfl) rfl ?_
         refine anyo_cons ?_ ?_
         ·
          refine any_t rfl (wn rfl) rfl (t_alloc Tryd.zeroValue27) ?_
          rintro _ _ ⟨b167, rfl, rfl⟩
          refine ⟨(ss (ss (ss (ss (sn))))), ?_⟩
          exact any_weak2 (hK160 (v103, v117, b167, g99, g110)) [0, 1, 2, 3, 4, 5, 6, 7, 8] (by kernel_rfl) (qw6 rfl rfl rfl rfl rfl rfl (qv9 rfl rfl rfl rfl rfl rfl rfl rfl rfl)) (by decide) rfl
         refine anyo_cons ?_ ?_
         ·
          refine any_t rfl (wn rfl) rfl (t_alloc Tryd.zeroValue27) ?_
          rintro _ _ ⟨b168, rfl, rfl⟩
          refine ⟨(ss (ss (ss (ss (sn))))), ?_⟩
          exact any_weak2 (hK162 (v103, v117, b168, g99, g110)) [0, 1, 2, 3, 4, 5, 6, 7, 8] (by kernel_rfl) (qw6 rfl rfl rfl rfl rfl rfl (qv9 rfl rfl rfl rfl rfl rfl rfl rfl rfl)) (by decide) rfl
         exact anyo_nil
        refine any_cut2 #[true, true, true, true, true, true, true, true, true, true, true, true, true, false, true, false, false, false] 4 (Value × Value × Nat × Value) (fun σ => [(93, .int .i64 s_79), (0, l_0v), (3, .int .i64 t_3), (9, v11), (11, .int .i64 hop_18), (12, .int .i64 shortest_45), (18, v64), (19, .int .i64 s_69), (87, .int .i64 (r9.1.length : Int)), (88, .int .i64 s_69), (92, .int .i64 (r9.1.length : Int)), (20, .int .i64 s_79), (103, l_0v), (108, .int .i64 t_3), (102, .agg #[.int .i64 r87.First, σ.1, .bool r87.Done]), (107, σ.2.1), (21, boxP σ.2.2.1 0)]) (fun σ => [ro l_0v 20 (l_0.map S_api_Segment.enc), nrow v11 NC_L_int_46 r9.1, row v64 1 (r62.map (eInt .i64)), globA, ro σ.2.2.2 1 (x85.map (eInt .i64)), ro σ.1 20 (r87.L.map S_api_Segment.enc), ro σ.2.1 1 (x90.map (eInt .i64)), box σ.2.2.1 [.int .i64 0, .slice none 0 0, .bool false]]) ?_ (fun hK169 => ?_)
        ·rintro ⟨v103, g110, b118, g99⟩
         change AnyL _ _ _ _ _ (VF.of [(93, .int .i64 s_79), (0, l_0v), (3, .int .i64 t_3), (9, v11), (11, .int .i64 hop_18), (12, .int .i64 shortest_45), (18, v64), (19, .int .i64 s_69), (87, .int .i64 (r9.1.length : Int)), (88, .int .i64 s_69), (92, .int .i64 (r9.1.length : Int)), (20, .int .i64 s_79), (103, l_0v), (108, .int .i64 t_3), (102, .agg #[.int .i64 r87.First, v103, .bool r87.Done]), (107, g110), (21, boxP b118 0)]) [ro l_0v 20 (l_0.map S_api_Segment.enc), nrow v11 NC_L_int_46 r9.1, row v64 1 (r62.map (eInt .i64)), globA, ro g99 1 (x85.map (eInt .i64)), ro v103 20 (r87.L.map S_api_Segment.enc), ro g110 1 (x90.map (eInt .i64)), box b118 [.int .i64 0, .slice none 0 0, .bool false]] _
         refine any_all [13, 15] (by kernel_rfl) rfl ?_
         refine anyo_cons ?_ ?_
         ·
          refine any_t rfl (wn rfl) rfl (t_callx (vs := [l_0v, g110, .int .i64 t_3, .int .i64 100]) (cs := []) [(0, 0), (6, 0)] rfl Tryd.call20 rfl (playlist_Seen_ok n l_0 x90 t_3 100 l_0v g110 hr93) (showsX_view 0 rfl views_ro (showsX_view 6 rfl views_ro showsX_nil)) rfl (.inl rfl)) ?_
          rintro _ _ ⟨_, ⟨v170, rfl, rfl⟩, rfl⟩
          refine ⟨(ss (ss (ss (ss (sn))))), ?_⟩
          exact any_weak2 (hK160 (v103, v170, b118, g99, g110)) [0, 1, 2, 3, 4, 5, 6, 8, 7] (by kernel_rfl) (qw6 rfl rfl rfl rfl rfl rfl (qv9 rfl rfl rfl rfl rfl rfl rfl rfl rfl)) (by decide) rfl
         refine anyo_cons ?_ ?_
         ·
          refine any_t rfl (wn rfl) rfl (t_alloc Tryd.zeroValue27) ?_
          rintro _ _ ⟨b171, rfl, rfl⟩
          refine ⟨(ss (ss (ss (ss (sn))))), ?_⟩
          exact any_weak2 (hK164 (v103, g110, b118, b171, g99)) [0, 1, 2, 3, 4, 5, 6, 7, 8] (by kernel_rfl) (qw6 rfl rfl rfl rfl rfl rfl (qv12 rfl rfl rfl rfl rfl rfl rfl rfl rfl rfl rfl rfl)) (by decide) rfl
         exact anyo_nil
        refine any_cut2 #[true, true, true, true, true, true, true, true, true, true, true, true, true, false, false, true, false, false] 4 (Value × Value × Nat × Value) (fun σ => [(93, .int .i64 s_79), (0, l_0v), (3, .int .i64 t_3), (9, v11), (11, .int .i64 hop_18), (12, .int .i64 shortest_45), (18, v64), (19, .int .i64 s_69), (87, .int .i64 (r9.1.length : Int)), (88, .int .i64 s_69), (92, .int .i64 (r9.1.length : Int)), (20, .int .i64 s_79), (103, l_0v), (108, .int .i64 t_3), (102, .agg #[.int .i64 r87.First, σ.1, .bool r87.Done]), (107, σ.2.1), (22, boxP σ.2.2.1 0)]) (fun σ => [ro l_0v 20 (l_0.map S_api_Segment.enc), nrow v11 NC_L_int_46 r9.1, row v64 1 (r62.map (eInt .i64)), globA, ro σ.2.2.2 1 (x85.map (eInt .i64)), ro σ.1 20 (r87.L.map S_api_Segment.enc), ro σ.2.1 1 (x90.map (eInt .i64)), box σ.2.2.1 [.int .i64 0, .slice none 0 0, .bool false]]) ?_ (fun hK172 => ?_)
        ·rintro ⟨v103, g110, b119, g99⟩
         change AnyL _ _ _ _ _ (VF.of [(93, .int .i64 s_79), (0, l_0v), (3, .int .i64 t_3), (9, v11), (11, .int .i64 hop_18), (12, .int .i64 shortest_45), (18, v64), (19, .int .i64 s_69), (87, .int .i64 (r9.1.length : Int)), (88, .int .i64 s_69), (92, .int .i64 (r9.1.length : Int)), (20, .int .i64 s_79), (103, l_0v), (108, .int .i64 t_3), (102, .agg #[.int .i64 r87.First, v103, .bool r87.Done]), (107, g110), (22, boxP b119 0)]) [ro l_0v 20 (l_0.map S_api_Segment.enc), nrow v11 NC_L_int_46 r9.1, row v64 1 (r62.map (eInt .i64)), globA, ro g99 1 (x85.map (eInt .i64)), ro v103 20 (r87.L.map S_api_Segment.enc), ro g110 1 (x90.map (eInt .i64)), box b119 [.int .i64 0, .slice none 0 0, .bool false]] _
         refine any_all [13, 14] (by kernel_rfl) rfl ?_
         refine anyo_cons ?_ ?_
         ·
          refine any_t rfl (wn rfl) rfl (t_callx (vs := [l_0v, g110, .int .i64 t_3, .int .i64 100]) (cs := []) [(0, 0), (6, 0)] rfl Tryd.call20 rfl (playlist_Seen_ok n l_0 x90 t_3 100 l_0v g110 hr93) (showsX_view 0 rfl views_ro (showsX_view 6 rfl views_ro showsX_nil)) rfl (.inl rfl)) ?_
          rintro _ _ ⟨_, ⟨v173, rfl, rfl⟩, rfl⟩
          refine ⟨(ss (ss (ss (ss (sn))))), ?_⟩
          exact any_weak2 (hK162 (v103, v173, b119, g99, g110)) [0, 1, 2, 3, 4, 5, 6, 8, 7] (by kernel_rfl) (qw6 rfl rfl rfl rfl rfl rfl (qv9 rfl rfl rfl rfl rfl rfl rfl rfl rfl)) (by decide) rfl
         refine anyo_cons ?_ ?_
         ·
          refine any_t rfl (wn rfl) rfl (t_alloc Tryd.zeroValue27) ?_
          rintro _ _ ⟨b174, rfl, rfl⟩
          refine ⟨(ss (ss (ss (ss (sn))))), ?_⟩
          exact any_weak2 (hK164 (v103, g110, b174, b119, g99)) [0, 1, 2, 3, 4, 5, 6, 8, 7] (by kernel_rfl) (qw6 rfl rfl rfl rfl rfl rfl (qv12 rfl rfl rfl rfl rfl rfl rfl rfl rfl rfl rfl rfl)) (by decide) rfl
         exact anyo_nil
        refine any_cut2 #[true, true, true, true, true, true, true, true, true, true, true, false, true, false, true, true, false, false] 4 (Value × Nat × Nat × Value) (fun σ => [(93, .int .i64 s_79), (0, l_0v), (3, .int .i64 t_3), (9, v11), (11, .int .i64 hop_18), (12, .int .i64 shortest_45), (18, v64), (19, .int .i64 s_69), (87, .int .i64 (r9.1.length : Int)), (88, .int .i64 s_69), (92, .int .i64 (r9.1.length : Int)), (20, .int .i64 s_79), (103, l_0v), (106, elemP v11 (s_79.toNat * 1)), (108, .int .i64 t_3), (102, .agg #[.int .i64 r87.First, σ.1, .bool r87.Done]), (21, boxP σ.2.1 0), (22, boxP σ.2.2.1 0)]) (fun σ => [ro l_0v 20 (l_0.map S_api_Segment.enc), nrow v11 NC_L_int_46 r9.1, row v64 1 (r62.map (eInt .i64)), globA, ro σ.2.2.2 1 (x85.map (eInt .i64)), ro σ.1 20 (r87.L.map S_api_Segment.enc), box σ.2.1 [.int .i64 0, .slice none 0 0, .bool false], box σ.2.2.1 [.int .i64 0, .slice none 0 0, .bool false]]) ?_ (fun hK175 => ?_)
        ·rintro ⟨v103, b111, b120, g99⟩
         change AnyL _ _ _ _ _ (VF.of [(93, .int .i64 s_79), (0, l_0v), (3, .int .i64 t_3), (9, v11), (11, .int .i64 hop_18), (12, .int .i64 shortest_45), (18, v64), (19, .int .i64 s_69), (87, .int .i64 (r9.1.length : Int)), (88, .int .i64 s_69), (92, .int .i64 (r9.1.length : Int)), (20, .int .i64 s_79), (103, l_0v), (106, elemP v11 (s_79.toNat * 1)), (108, .int .i64 t_3), (102, .agg #[.int .i64 r87.First, v103, .bool r87.Done]), (21, boxP b111 0), (22, boxP b120 0)]) [ro l_0v 20 (l_0.map S_api_Segment.enc), nrow v11 NC_L_int_46 r9.1, row v64 1 (r62.map (eInt .i64)), globA, ro g99 1 (x85.map (eInt .i64)), ro v103 20 (r87.L.map S_api_Segment.enc), box b111 [.int .i64 0, .slice none 0 0, .bool false], box b120 [.int .i64 0, .slice none 0 0, .bool false]] _
         refine any_all [11] (by kernel_rfl) rfl ?_
         refine anyo_cons ?_ ?_
         ·
          refine any_t rfl (wn rfl) rfl (t_loadNf (C := NC_L_int_46) (i := s_79.toNat) (j := 0) 1 (fun γ => γ) Tryd.isAgg46 rfl rfl hxx90 (fun _ => rfl)) ?_
          rintro g176 _ ⟨_, rfl, rfl⟩
          refine ⟨(ss (ss (ss (ss (sn))))), ?_⟩
          exact any_weak2 (hK164 (v103, g176, b111, b120, g99)) [0, 1, 2, 3, 4, 5, 8, 6, 7] (by kernel_rfl) (qw6 rfl rfl rfl rfl rfl rfl (qv12 rfl rfl rfl rfl rfl rfl rfl rfl rfl rfl rfl rfl)) (by decide) rfl
         exact anyo_nil
        refine any_cut2 #[true, true, true, true, true, true, false, true, true, true, true, true, true, false, true, true, false, false] 4 (Value × Value × Nat × Nat) (fun σ => [(93, .int .i64 s_79), (0, l_0v), (3, .int .i64 t_3), (9, v11), (11, .int .i64 hop_18), (12, .int .i64 shortest_45), (18, v64), (19, .int .i64 s_69), (87, .int .i64 (r9.1.length : Int)), (88, .int .i64 s_69), (92, .int .i64 (r9.1.length : Int)), (20, .int .i64 s_79), (96, l_0v), (101, .int .i64 t_3), (103, l_0v), (108, .int .i64 t_3), (100, σ.1), (107, σ.2.1), (21, boxP σ.2.2.1 0), (22, boxP σ.2.2.2 0)]) (fun σ => [ro l_0v 20 (l_0.map S_api_Segment.enc), nrow v11 NC_L_int_46 r9.1, row v64 1 (r62.map (eInt .i64)), globA, ro σ.1 1 (x85.map (eInt .i64)), ro σ.2.1 1 (x90.map (eInt .i64)), box σ.2.2.1 [.int .i64 0, .slice none 0 0, .bool false], box σ.2.2.2 [.int .i64 0, .slice none 0 0, .bool false]]) ?_ (fun hK177 => ?_)
        ·rintro ⟨g99, g104, b113, b121⟩
         change AnyL _ _ _ _ _ (VF.of [(93, .int .i64 s_79), (0, l_0v), (3, .int .i64 t_3), (9, v11), (11, .int .i64 hop_18), (12, .int .i64 shortest_45), (18, v64), (19, .int .i64 s_69), (87, .int .i64 (r9.1.length : Int)), (88, .int .i64 s_69), (92, .int .i64 (r9.1.length : Int)), (20, .int .i64 s_79), (96, l_0v), (101, .int .i64 t_3), (103, l_0v), (108, .int .i64 t_3), (100, g99), (107, g104), (21, boxP b113 0), (22, boxP b121 0)]) [ro l_0v 20 (l_0.map S_api_Segment.enc), nrow v11 NC_L_int_46 r9.1, row v64 1 (r62.map (eInt .i64)), globA, ro g99 1 (x85.map (eInt .i64)), ro g104 1 (x90.map (eInt .i64)), box b113 [.int .i64 0, .slice none 0 0, .bool false], box b121 [.int .i64 0, .slice none 0 0, .bool false]] _
         refine any_all [6] (by kernel_rfl) rfl ?_
         refine anyo_cons ?_ ?_
         ·
          refine any_t rfl (wn rfl) rfl (t_callx (vs := [l_0v, g99, .int .i64 t_3, .int .i64 100]) (cs := []) [(0, 0), (4, 0)] rfl Tryd.call20 rfl (playlist_Seen_ok n l_0 x85 t_3 100 l_0v g99 hr88) (showsX_view 0 rfl views_ro (showsX_view 4 rfl views_ro showsX_nil)) rfl (.inl rfl)) ?_
          rintro _ _ ⟨_, ⟨v178, rfl, rfl⟩, rfl⟩
          refine ⟨(ss (ss (ss (ss (sn))))), ?_⟩
          exact any_weak2 (hK164 (v178, g104, b113, b121, g99)) [0, 1, 2, 3, 4, 8, 5, 6, 7] (by kernel_rfl) (qw6 rfl rfl rfl rfl rfl rfl (qv12 rfl rfl rfl rfl rfl rfl rfl rfl rfl rfl rfl rfl)) (by decide) rfl
         exact anyo_nil
        refine any_cut2 #[true, true, true, true, true, true, true, true, true, true, true, true, true, false, false, false, false, false] 5 (Value × Value × Value) (fun σ => [(93, .int .i64 s_79), (0, l_0v), (3, .int .i64 t_3), (9, v11), (11, .int .i64 hop_18), (12, .int .i64 shortest_45), (18, v64), (19, .int .i64 s_69), (87, .int .i64 (r9.1.length : Int)), (88, .int .i64 s_69), (92, .int .i64 (r9.1.length : Int)), (20, .int .i64 s_79), (103, l_0v), (108, .int .i64 t_3), (102, .agg #[.int .i64 r87.First, σ.1, .bool r87.Done]), (107, σ.2.1)]) (fun σ => [ro l_0v 20 (l_0.map S_api_Segment.enc), nrow v11 NC_L_int_46 r9.1, row v64 1 (r62.map (eInt .i64)), globA, ro σ.2.2 1 (x85.map (eInt .i64)), ro σ.1 20 (r87.L.map S_api_Segment.enc), ro σ.2.1 1 (x90.map (eInt .i64))]) ?_ (fun hK179 => ?_)
        ·rintro ⟨v103, g110, g99⟩
         change AnyL _ _ _ _ _ (VF.of [(93, .int .i64 s_79), (0, l_0v), (3, .int .i64 t_3), (9, v11), (11, .int .i64 hop_18), (12, .int .i64 shortest_45), (18, v64), (19, .int .i64 s_69), (87, .int .i64 (r9.1.length : Int)), (88, .int .i64 s_69), (92, .int .i64 (r9.1.length : Int)), (20, .int .i64 s_79), (103, l_0v), (108, .int .i64 t_3), (102, .agg #[.int .i64 r87.First, v103, .bool r87.Done]), (107, g110)]) [ro l_0v 20 (l_0.map S_api_Segment.enc), nrow v11 NC_L_int_46 r9.1, row v64 1 (r62.map (eInt .i64)), globA, ro g99 1 (x85.map (eInt .i64)), ro v103 20 (r87.L.map S_api_Segment.enc), ro g110 1 (x90.map (eInt .i64))] _
         refine any_all [13, 14, 15] (by kernel_rfl) rfl ?_
         refine anyo_cons ?_ ?_
         ·
          refine any_t rfl (wn rfl) rfl (t_callx (vs := [l_0v, g110, .int .i64 t_3, .int .i64 100]) (cs := []) [(0, 0), (6, 0)] rfl Tryd.call20 rfl (playlist_Seen_ok n l_0 x90 t_3 100 l_0v g110 hr93) (showsX_view 0 rfl views_ro (showsX_view 6 rfl views_ro showsX_nil)) rfl (.inl rfl)) ?_
          rintro _ _ ⟨_, ⟨v180, rfl, rfl⟩, rfl⟩
          refine ⟨(ss (ss (ss (ss (sn))))), ?_⟩
          exact any_weak2 (hK166 (v103, v180, g99, g110)) [0, 1, 2, 3, 4, 5, 6, 7] (by kernel_rfl) (qw6 rfl rfl rfl rfl rfl rfl (qv8 rfl rfl rfl rfl rfl rfl rfl rfl)) (by decide) rfl
         refine anyo_cons ?_ ?_
         ·
          refine any_t rfl (wn rfl) rfl (t_alloc Tryd.zeroValue27) ?_
          rintro _ _ ⟨b181, rfl, rfl⟩
          refine ⟨(ss (ss (ss (ss (sn))))), ?_⟩
          exact any_weak2 (hK169 (v103, g110, b181, g99)) [0, 1, 2, 3, 4, 5, 6, 7] (by kernel_rfl) (qw6 rfl rfl rfl rfl rfl rfl (qv11 rfl rfl rfl rfl rfl rfl rfl rfl rfl rfl rfl)) (by decide) rfl
         refine anyo_cons ?_ ?_
         ·
          refine any_t rfl (wn rfl) rfl (t_alloc Tryd.zeroValue27) ?_
          rintro _ _ ⟨b182, rfl, rfl⟩
          refine ⟨(ss (ss (ss (ss (sn))))), ?_⟩
          exact any_weak2 (hK172 (v103, g110, b182, g99)) [0, 1, 2, 3, 4, 5, 6, 7] (by kernel_rfl) (qw6 rfl rfl rfl rfl rfl rfl (qv11 rfl rfl rfl rfl rfl rfl rfl rfl rfl rfl rfl)) (by decide) rfl
         exact anyo_nil
        refine any_cut2 #[true, true, true, true, true, true, true, true, true, true, true, false, true, false, true, false, false, false] 5 (Value × Nat × Value) (fun σ => [(93, .int .i64 s_79), (0, l_0v), (3, .int .i64 t_3), (9, v11), (11, .int .i64 hop_18), (12, .int .i64 shortest_45), (18, v64), (19, .int .i64 s_69), (87, .int .i64 (r9.1.length : Int)), (88, .int .i64 s_69), (92, .int .i64 (r9.1.length : Int)), (20, .int .i64 s_79), (103, l_0v), (106, elemP v11 (s_79.toNat * 1)), (108, .int .i64 t_3), (102, .agg #[.int .i64 r87.First, σ.1, .bool r87.Done]), (21, boxP σ.2.1 0)]) (fun σ => [ro l_0v 20 (l_0.map S_api_Segment.enc), nrow v11 NC_L_int_46 r9.1, row v64 1 (r62.map (eInt .i64)), globA, ro σ.2.2 1 (x85.map (eInt .i64)), ro σ.1 20 (r87.L.map S_api_Segment.enc), box σ.2.1 [.int .i64 0, .slice none 0 0, .bool false]]) ?_ (fun hK183 => ?_)
        ·rintro ⟨v103, b111, g99⟩
         change AnyL _ _ _ _ _ (VF.of [(93, .int .i64 s_79), (0, l_0v), (3, .int .i64 t_3), (9, v11), (11, .int .i64 hop_18), (12, .int .i64 shortest_45), (18, v64), (19, .int .i64 s_69), (87, .int .i64 (r9.1.length : Int)), (88, .int .i64 s_69), (92, .int .i64 (r9.1.length : Int)), (20, .int .i64 s_79), (103, l_0v), (106, elemP v11 (s_79.toNat * 1)), (108, .int .i64 t_3), (102, .agg #[.int .i64 r87.First, v103, .bool r87.Done]), (21, boxP b111 0)]) [ro l_0v 20 (l_0.map S_api_Segment.enc), nrow v11 NC_L_int_46 r9.1, row v64 1 (r62.map (eInt .i64)), globA, ro g99 1 (x85.map (eInt .i64)), ro v103 20 (r87.L.map S_api_Segment.enc), box b111 [.int .i64 0, .slice none 0 0, .bool false]] _
         refine any_all [11, 15] (by kernel_rfl) rfl ?_
         refine anyo_cons ?_ ?_
         ·
          refine any_t rfl (wn rfl) rfl (t_loadNf (C := NC_L_int_46) (i := s_79.toNat) (j := 0) 1 (fun γ => γ) Tryd.isAgg46 rfl rfl hxx90 (fun _ => rfl)) ?_
          rintro g184 _ ⟨_, rfl, rfl⟩
          refine ⟨(ss (ss (ss (ss (sn))))), ?_⟩
          exact any_weak2 (hK169 (v103, g184, b111, g99)) [0, 1, 2, 3, 4, 5, 7, 6] (by kernel_rfl) (qw6 rfl rfl rfl rfl rfl rfl (qv11 rfl rfl rfl rfl rfl rfl rfl rfl rfl rfl rfl)) (by decide) rfl
         refine anyo_cons ?_ ?_
         ·
          refine any_t rfl (wn rfl) rfl (t_alloc Tryd.zeroValue27) ?_
          rintro _ _ ⟨b185, rfl, rfl⟩
          refine ⟨(ss (ss (ss (ss (sn))))), ?_⟩
          exact any_weak2 (hK175 (v103, b111, b185, g99)) [0, 1, 2, 3, 4, 5, 6, 7] (by kernel_rfl) (qw6 rfl rfl rfl rfl rfl rfl (qv12 rfl rfl rfl rfl rfl rfl rfl rfl rfl rfl rfl rfl)) (by decide) rfl
         exact anyo_nil
        refine any_cut2 #[true, true, true, true, true, true, true, true, true, true, true, false, true, false, false, true, false, false] 5 (Value × Nat × Value) (fun σ => [(93, .int .i64 s_79), (0, l_0v), (3, .int .i64 t_3), (9, v11), (11, .int .i64 hop_18), (12, .int .i64 shortest_45), (18, v64), (19, .int .i64 s_69), (87, .int .i64 (r9.1.length : Int)), (88, .int .i64 s_69), (92, .int .i64 (r9.1.length : Int)), (20, .int .i64 s_79), (103, l_0v), (106, elemP v11 (s_79.toNat * 1)), (108, .int .i64 t_3), (102, .agg #[.int .i64 r87.First, σ.1, .bool r87.Done]), (22, boxP σ.2.1 0)]) (fun σ => [ro l_0v 20 (l_0.map S_api_Segment.enc), nrow v11 NC_L_int_46 r9.1, row v64 1 (r62.map (eInt .i64)), globA, ro σ.2.2 1 (x85.map (eInt .i64)), ro σ.1 20 (r87.L.map S_api_Segment.enc), box σ.2.1 [.int .i64 0, .slice none 0 0, .bool false]]) ?_ (fun hK186 => ?_)
        ·rintro ⟨v103, b112, g99⟩
         change AnyL _ _ _ _ _ (VF.of [(93, .int .i64 s_79), (0, l_0v), (3, .int .i64 t_3), (9, v11), (11, .int .i64 hop_18), (12, .int .i64 shortest_45), (18, v64), (19, .int .i64 s_69), (87, .int .i64 (r9.1.length : Int)), (88, .int .i64 s_69), (92, .int .i64 (r9.1.length : Int)), (20, .int .i64 s_79), (103, l_0v), (106, elemP v11 (s_79.toNat * 1)), (108, .int .i64 t_3), (102, .agg #[.int .i64 r87.First, v103, .bool r87.Done]), (22, boxP b112 0)]) [ro l_0v 20 (l_0.map S_api_Segment.enc), nrow v11 NC_L_int_46 r9.1, row v64 1 (r62.map (eInt .i64)), globA, ro g99 1 (x85.map (eInt .i64)), ro v103 20 (r87.L.map S_api_Segment.enc), box b112 [.int .i64 0, .slice none 0 0, .bool false]] _
         refine any_all [11, 14] (by kernel_rfl) rfl ?_
         refine anyo_cons ?_ ?_
         ·
          refine any_t rfl (wn rfl) rfl (t_loadNf (C := NC_L_int_46) (i := s_79.toNat) (j := 0) 1 (fun γ => γ) Tryd.isAgg46 rfl rfl hxx90 (fun _ => rfl)) ?_
          rintro g187 _ ⟨_, rfl, rfl⟩
          refine ⟨(ss (ss (ss (ss (sn))))), ?_⟩
          exact any_weak2 (hK172 (v103, g187, b112, g99)) [0, 1, 2, 3, 4, 5, 7, 6] (by kernel_rfl) (qw6 rfl rfl rfl rfl rfl rfl (qv11 rfl rfl rfl rfl rfl rfl rfl rfl rfl rfl rfl)) (by decide) rfl
         refine anyo_cons ?_ ?_
         ·
          refine any_t rfl (wn rfl) rfl (t_alloc Tryd.zeroValue27) ?_
          rintro _ _ ⟨b188, rfl, rfl⟩
          refine ⟨(ss (ss (ss (ss (sn))))), ?_⟩
          exact any_weak2 (hK175 (v103, b188, b112, g99)) [0, 1, 2, 3, 4, 5, 7, 6] (by kernel_rfl) (qw6 rfl rfl rfl rfl rfl rfl (qv12 rfl rfl rfl rfl rfl rfl rfl rfl rfl rfl rfl rfl)) (by decide) rfl
         exact anyo_nil
        refine any_cut2 #[true, true, true, true, true, true, false, true, true, true, true, true, true, false, true, false, false, false] 5 (Value × Value × Nat) (fun σ => [(93, .int .i64 s_79), (0, l_0v), (3, .int .i64 t_3), (9, v11), (11, .int .i64 hop_18), (12, .int .i64 shortest_45), (18, v64), (19, .int .i64 s_69), (87, .int .i64 (r9.1.length : Int)), (88, .int .i64 s_69), (92, .int .i64 (r9.1.length : Int)), (20, .int .i64 s_79), (96, l_0v), (101, .int .i64 t_3), (103, l_0v), (108, .int .i64 t_3), (100, σ.1), (107, σ.2.1), (21, boxP σ.2.2 0)]) (fun σ => [ro l_0v 20 (l_0.map S_api_Segment.enc), nrow v11 NC_L_int_46 r9.1, row v64 1 (r62.map (eInt .i64)), globA, ro σ.1 1 (x85.map (eInt .i64)), ro σ.2.1 1 (x90.map (eInt .i64)), box σ.2.2 [.int .i64 0, .slice none 0 0, .bool false]]) ?_ (fun hK189 => ?_)
        ·rintro ⟨g99, g104, b113⟩
         change AnyL _ _ _ _ _ (VF.of [(93, .int .i64 s_79), (0, l_0v), (3, .int .i64 t_3), (9, v11), (11, .int .i64 hop_18), (12, .int .i64 shortest_45), (18, v64), (19, .int .i64 s_69), (87, .int .i64 (r9.1.length : Int)), (88, .int .i64 s_69), (92, .int .i64 (r9.1.length : Int)), (20, .int .i64 s_79), (96, l_0v), (101, .int .i64 t_3), (103, l_0v), (108, .int .i64 t_3), (100, g99), (107, g104), (21, boxP b113 0)]) [ro l_0v 20 (l_0.map S_api_Segment.enc), nrow v11 NC_L_int_46 r9.1, row v64 1 (r62.map (eInt .i64)), globA, ro g99 1 (x85.map (eInt .i64)), ro g104 1 (x90.map (eInt .i64)), box b113 [.int .i64 0, .slice none 0 0, .bool false]] _
         refine any_all [6, 15] (by kernel_rfl) rfl ?_
         refine anyo_cons ?_ ?_
         ·
          refine any_t rfl (wn rfl) rfl (t_callx (vs := [l_0v, g99, .int .i64 t_3, .int .i64 100]) (cs := []) [(0, 0), (4, 0)] rfl Tryd.call20 rfl (playlist_Seen_ok n l_0 x85 t_3 100 l_0v g99 hr88) (showsX_view 0 rfl views_ro (showsX_view 4 rfl views_ro showsX_nil)) rfl (.inl rfl)) ?_
          rintro _ _ ⟨_, ⟨v190, rfl, rfl⟩, rfl⟩
          refine ⟨(ss (ss (ss (ss (sn))))), ?_⟩
          exact any_weak2 (hK169 (v190, g104, b113, g99)) [0, 1, 2, 3, 4, 7, 5, 6] (by kernel_rfl) (qw6 rfl rfl rfl rfl rfl rfl (qv11 rfl rfl rfl rfl rfl rfl rfl rfl rfl rfl rfl)) (by decide) rfl
         refine anyo_cons ?_ ?_
         ·
          refine any_t rfl (wn rfl) rfl (t_alloc Tryd.zeroValue27) ?_
          rintro _ _ ⟨b191, rfl, rfl⟩
          refine ⟨(ss (ss (ss (ss (sn))))), ?_⟩
          exact any_weak2 (hK177 (g99, g104, b113, b191)) [0, 1, 2, 3, 4, 5, 6, 7] (by kernel_rfl) (qw6 rfl rfl rfl rfl rfl rfl (qw6 rfl rfl rfl rfl rfl rfl (qv8 rfl rfl rfl rfl rfl rfl rfl rfl))) (by decide) rfl
         exact anyo_nil
        refine any_cut2 #[true, true, true, true, true, true, false, true, true, true, true, true, true, false, false, true, false, false] 5 (Value × Value × Nat) (fun σ => [(93, .int .i64 s_79), (0, l_0v), (3, .int .i64 t_3), (9, v11), (11, .int .i64 hop_18), (12, .int .i64 shortest_45), (18, v64), (19, .int .i64 s_69), (87, .int .i64 (r9.1.length : Int)), (88, .int .i64 s_69), (92, .int .i64 (r9.1.length : Int)), (20, .int .i64 s_79), (96, l_0v), (101, .int .i64 t_3), (103, l_0v), (108, .int .i64 t_3), (100, σ.1), (107, σ.2.1), (22, boxP σ.2.2 0)]) (fun σ => [ro l_0v 20 (l_0.map S_api_Segment.enc), nrow v11 NC_L_int_46 r9.1, row v64 1 (r62.map (eInt .i64)), globA, ro σ.1 1 (x85.map (eInt .i64)), ro σ.2.1 1 (x90.map (eInt .i64)), box σ.2.2 [.int .i64 0, .slice none 0 0, .bool false]]) ?_ (fun hK192 => ?_)
        ·rintro ⟨g99, g104, b114⟩
         change AnyL _ _ _ _ _ (VF.of [(93, .int .i64 s_79), (0, l_0v), (3, .int .i64 t_3), (9, v11), (11, .int .i64 hop_18), (12, .int .i64 shortest_45), (18, v64), (19, .int .i64 s_69), (87, .int .i64 (r9.1.length : Int)), (88, .int .i64 s_69), (92, .int .i64 (r9.1.length : Int)), (20, .int .i64 s_79), (96, l_0v), (101, .int .i64 t_3), (103, l_0v), (108, .int .i64 t_3), (100, g99), (107, g104), (22, boxP b114 0)]) [ro l_0v 20 (l_0.map S_api_Segment.enc), nrow v11 NC_L_int_46 r9.1, row v64 1 (r62.map (eInt .i64)), globA, ro g99 1 (x85.map (eInt .i64)), ro g104 1 (x90.map (eInt .i64)), box b114 [.int .i64 0, .slice none 0 0, .bool false]] _
         refine any_all [6, 14] (by kernel_rfl) rfl ?_
         refine anyo_cons ?_ ?_
         ·
          refine any_t rfl (wn rfl) rfl (t_callx (vs := [l_0v, g99, .int .i64 t_3, .int .i64 100]) (cs := []) [(0, 0), (4, 0)] rfl Tryd.call20 rfl (playlist_Seen_ok n l_0 x85 t_3 100 l_0v g99 hr88) (showsX_view 0 rfl views_ro (showsX_view 4 rfl views_ro showsX_nil)) rfl (.inl rfl)) ?_
          rintro _ _ ⟨_, ⟨v193, rfl, rfl⟩, rfl⟩
          refine ⟨(ss (ss (ss (ss (sn))))), ?_⟩
          exact any_weak2 (hK172 (v193, g104, b114, g99)) [0, 1, 2, 3, 4, 7, 5, 6] (by kernel_rfl) (qw6 rfl rfl rfl rfl rfl rfl (qv11 rfl rfl rfl rfl rfl rfl rfl rfl rfl rfl rfl)) (by decide) rfl
         refine anyo_cons ?_ ?_
         ·
          refine any_t rfl (wn rfl) rfl (t_alloc Tryd.zeroValue27) ?_
          rintro _ _ ⟨b194, rfl, rfl⟩
          refine ⟨(ss (ss (ss (ss (sn))))), ?_⟩
          exact any_weak2 (hK177 (g99, g104, b194, b114)) [0, 1, 2, 3, 4, 5, 7, 6] (by kernel_rfl) (qw6 rfl rfl rfl rfl rfl rfl (qw6 rfl rfl rfl rfl rfl rfl (qv8 rfl rfl rfl rfl rfl rfl rfl rfl))) (by decide) rfl
         exact anyo_nil
        refine any_cut2 #[true, true, true, true, true, true, false, true, true, true, true, false, true, false, true, true, false, false] 5 (Value × Nat × Nat) (fun σ => [(93, .int .i64 s_79), (0, l_0v), (3, .int .i64 t_3), (9, v11), (11, .int .i64 hop_18), (12, .int .i64 shortest_45), (18, v64), (19, .int .i64 s_69), (87, .int .i64 (r9.1.length : Int)), (88, .int .i64 s_69), (92, .int .i64 (r9.1.length : Int)), (20, .int .i64 s_79), (96, l_0v), (101, .int .i64 t_3), (103, l_0v), (106, elemP v11 (s_79.toNat * 1)), (108, .int .i64 t_3), (100, σ.1), (21, boxP σ.2.1 0), (22, boxP σ.2.2 0)]) (fun σ => [ro l_0v 20 (l_0.map S_api_Segment.enc), nrow v11 NC_L_int_46 r9.1, row v64 1 (r62.map (eInt .i64)), globA, ro σ.1 1 (x85.map (eInt .i64)), box σ.2.1 [.int .i64 0, .slice none 0 0, .bool false], box σ.2.2 [.int .i64 0, .slice none 0 0, .bool false]]) ?_ (fun hK195 => ?_)
        ·rintro ⟨g99, b105, b115⟩
         change AnyL _ _ _ _ _ (VF.of [(93, .int .i64 s_79), (0, l_0v), (3, .int .i64 t_3), (9, v11), (11, .int .i64 hop_18), (12, .int .i64 shortest_45), (18, v64), (19, .int .i64 s_69), (87, .int .i64 (r9.1.length : Int)), (88, .int .i64 s_69), (92, .int .i64 (r9.1.length : Int)), (20, .int .i64 s_79), (96, l_0v), (101, .int .i64 t_3), (103, l_0v), (106, elemP v11 (s_79.toNat * 1)), (108, .int .i64 t_3), (100, g99), (21, boxP b105 0), (22, boxP b115 0)]) [ro l_0v 20 (l_0.map S_api_Segment.enc), nrow v11 NC_L_int_46 r9.1, row v64 1 (r62.map (eInt .i64)), globA, ro g99 1 (x85.map (eInt .i64)), box b105 [.int .i64 0, .slice none 0 0, .bool false], box b115 [.int .i64 0, .slice none 0 0, .bool false]] _
         refine any_all [6, 11] (by kernel_rfl) rfl ?_
         refine anyo_cons ?_ ?_
         ·
          refine any_t rfl (wn rfl) rfl (t_callx (vs := [l_0v, g99, .int .i64 t_3, .int .i64 100]) (cs := []) [(0, 0), (4, 0)] rfl Tryd.call20 rfl (playlist_Seen_ok n l_0 x85 t_3 100 l_0v g99 hr88) (showsX_view 0 rfl views_ro (showsX_view 4 rfl views_ro showsX_nil)) rfl (.inl rfl)) ?_
          rintro _ _ ⟨_, ⟨v196, rfl, rfl⟩, rfl⟩
          refine ⟨(ss (ss (ss (ss (sn))))), ?_⟩
          exact any_weak2 (hK175 (v196, b105, b115, g99)) [0, 1, 2, 3, 4, 7, 5, 6] (by kernel_rfl) (qw6 rfl rfl rfl rfl rfl rfl (qv12 rfl rfl rfl rfl rfl rfl rfl rfl rfl rfl rfl rfl)) (by decide) rfl
         refine anyo_cons ?_ ?_
         ·
          refine any_t rfl (wn rfl) rfl (t_loadNf (C := NC_L_int_46) (i := s_79.toNat) (j := 0) 1 (fun γ => γ) Tryd.isAgg46 rfl rfl hxx90 (fun _ => rfl)) ?_
          rintro g197 _ ⟨_, rfl, rfl⟩
          refine ⟨(ss (ss (ss (ss (sn))))), ?_⟩
          exact any_weak2 (hK177 (g99, g197, b105, b115)) [0, 1, 2, 3, 4, 7, 5, 6] (by kernel_rfl) (qw6 rfl rfl rfl rfl rfl rfl (qw6 rfl rfl rfl rfl rfl rfl (qv8 rfl rfl rfl rfl rfl rfl rfl rfl))) (by decide) rfl
         exact anyo_nil
        refine any_cut2 #[true, true, true, true, false, true, false, true, true, true, true, true, true, false, true, true, false, false] 5 (Value × Nat × Nat) (fun σ => [(93, .int .i64 s_79), (0, l_0v), (3, .int .i64 t_3), (9, v11), (11, .int .i64 hop_18), (12, .int .i64 shortest_45), (18, v64), (19, .int .i64 s_69), (87, .int .i64 (r9.1.length : Int)), (88, .int .i64 s_69), (92, .int .i64 (r9.1.length : Int)), (20, .int .i64 s_79), (96, l_0v), (99, elemP v11 (s_69.toNat * 1)), (101, .int .i64 t_3), (103, l_0v), (108, .int .i64 t_3), (107, σ.1), (21, boxP σ.2.1 0), (22, boxP σ.2.2 0)]) (fun σ => [ro l_0v 20 (l_0.map S_api_Segment.enc), nrow v11 NC_L_int_46 r9.1, row v64 1 (r62.map (eInt .i64)), globA, ro σ.1 1 (x90.map (eInt .i64)), box σ.2.1 [.int .i64 0, .slice none 0 0, .bool false], box σ.2.2 [.int .i64 0, .slice none 0 0, .bool false]]) ?_ (fun hK198 => ?_)
        ·rintro ⟨g100, b107, b116⟩
         change AnyL _ _ _ _ _ (VF.of [(93, .int .i64 s_79), (0, l_0v), (3, .int .i64 t_3), (9, v11), (11, .int .i64 hop_18), (12, .int .i64 shortest_45), (18, v64), (19, .int .i64 s_69), (87, .int .i64 (r9.1.length : Int)), (88, .int .i64 s_69), (92, .int .i64 (r9.1.length : Int)), (20, .int .i64 s_79), (96, l_0v), (99, elemP v11 (s_69.toNat * 1)), (101, .int .i64 t_3), (103, l_0v), (108, .int .i64 t_3), (107, g100), (21, boxP b107 0), (22, boxP b116 0)]) [ro l_0v 20 (l_0.map S_api_Segment.enc), nrow v11 NC_L_int_46 r9.1, row v64 1 (r62.map (eInt .i64)), globA, ro g100 1 (x90.map (eInt .i64)), box b107 [.int .i64 0, .slice none 0 0, .bool false], box b116 [.int .i64 0, .slice none 0 0, .bool false]] _
         refine any_all [4] (by kernel_rfl) rfl ?_
         refine anyo_cons ?_ ?_
         ·
          refine any_t rfl (wn rfl) rfl (t_loadNf (C := NC_L_int_46) (i := s_69.toNat) (j := 0) 1 (fun γ => γ) Tryd.isAgg46 rfl rfl hxx85 (fun _ => rfl)) ?_
          rintro g199 _ ⟨_, rfl, rfl⟩
          refine ⟨(ss (ss (ss (ss (sn))))), ?_⟩
          exact any_weak2 (hK177 (g199, g100, b107, b116)) [0, 1, 2, 3, 7, 4, 5, 6] (by kernel_rfl) (qw6 rfl rfl rfl rfl rfl rfl (qw6 rfl rfl rfl rfl rfl rfl (qv8 rfl rfl rfl rfl rfl rfl rfl rfl))) (by decide) rfl
         exact anyo_nil
        refine any_cut2 #[true, true, true, true, true, true, true, true, true, true, true, false, true, false, false, false, false, false] 6 (Value × Value) (fun σ => [(93, .int .i64 s_79), (0, l_0v), (3, .int .i64 t_3), (9, v11), (11, .int .i64 hop_18), (12, .int .i64 shortest_45), (18, v64), (19, .int .i64 s_69), (87, .int .i64 (r9.1.length : Int)), (88, .int .i64 s_69), (92, .int .i64 (r9.1.length : Int)), (20, .int .i64 s_79), (103, l_0v), (106, elemP v11 (s_79.toNat * 1)), (108, .int .i64 t_3), (102, .agg #[.int .i64 r87.First, σ.1, .bool r87.Done])]) (fun σ => [ro l_0v 20 (l_0.map S_api_Segment.enc), nrow v11 NC_L_int_46 r9.1, row v64 1 (r62.map (eInt .i64)), globA, ro σ.2 1 (x85.map (eInt .i64)), ro σ.1 20 (r87.L.map S_api_Segment.enc)]) ?_ (fun hK200 => ?_)
        ·rintro ⟨v103, g99⟩
         change AnyL _ _ _ _ _ (VF.of [(93, .int .i64 s_79), (0, l_0v), (3, .int .i64 t_3), (9, v11), (11, .int .i64 hop_18), (12, .int .i64 shortest_45), (18, v64), (19, .int .i64 s_69), (87, .int .i64 (r9.1.length : Int)), (88, .int .i64 s_69), (92, .int .i64 (r9.1.length : Int)), (20, .int .i64 s_79), (103, l_0v), (106, elemP v11 (s_79.toNat * 1)), (108, .int .i64 t_3), (102, .agg #[.int .i64 r87.First, v103, .bool r87.Done])]) [ro l_0v 20 (l_0.map S_api_Segment.enc), nrow v11 NC_L_int_46 r9.1, row v64 1 (r62.map (eInt .i64)), globA, ro g99 1 (x85.map (eInt .i64)), ro v103 20 (r87.L.map S_api_Segment.enc)] _
         refine any_all [11, 14, 15] (by kernel_rfl) rfl ?_
         refine anyo_cons ?_ ?_
         ·
          refine any_t rfl (wn rfl) rfl (t_loadNf (C := NC_L_int_46) (i := s_79.toNat) (j := 0) 1 (fun γ => γ) Tryd.isAgg46 rfl rfl hxx90 (fun _ => rfl)) ?_
          rintro g201 _ ⟨_, rfl, rfl⟩
          refine ⟨(ss (ss (ss (ss (sn))))), ?_⟩
          exact any_weak2 (hK179 (v103, g201, g99)) [0, 1, 2, 3, 4, 5, 6] (by kernel_rfl) (qw6 rfl rfl rfl rfl rfl rfl (qv10 rfl rfl rfl rfl rfl rfl rfl rfl rfl rfl)) (by decide) rfl
         refine anyo_cons ?_ ?_
         ·
          refine any_t rfl (wn rfl) rfl (t_alloc Tryd.zeroValue27) ?_
          rintro _ _ ⟨b202, rfl, rfl⟩
          refine ⟨(ss (ss (ss (ss (sn))))), ?_⟩
          exact any_weak2 (hK183 (v103, b202, g99)) [0, 1, 2, 3, 4, 5, 6] (by kernel_rfl) (qw6 rfl rfl rfl rfl rfl rfl (qv11 rfl rfl rfl rfl rfl rfl rfl rfl rfl rfl rfl)) (by decide) rfl
         refine anyo_cons ?_ ?_
         ·
          refine any_t rfl (wn rfl) rfl (t_alloc Tryd.zeroValue27) ?_
          rintro _ _ ⟨b203, rfl, rfl⟩
          refine ⟨(ss (ss (ss (ss (sn))))), ?_⟩
          exact any_weak2 (hK186 (v103, b203, g99)) [0, 1, 2, 3, 4, 5, 6] (by kernel_rfl) (qw6 rfl rfl rfl rfl rfl rfl (qv11 rfl rfl rfl rfl rfl rfl rfl rfl rfl rfl rfl)) (by decide) rfl
         exact anyo_nil
        refine any_cut2 #[true, true, true, true, true, true, false, true, true, true, true, true, true, false, false, false, false, false] 6 (Value × Value) (fun σ => [(93, .int .i64 s_79), (0, l_0v), (3, .int .i64 t_3), (9, v11), (11, .int .i64 hop_18), (12, .int .i64 shortest_45), (18, v64), (19, .int .i64 s_69), (87, .int .i64 (r9.1.length : Int)), (88, .int .i64 s_69), (92, .int .i64 (r9.1.length : Int)), (20, .int .i64 s_79), (96, l_0v), (101, .int .i64 t_3), (103, l_0v), (108, .int .i64 t_3), (100, σ.1), (107, σ.2)]) (fun σ => [ro l_0v 20 (l_0.map S_api_Segment.enc), nrow v11 NC_L_int_46 r9.1, row v64 1 (r62.map (eInt .i64)), globA, ro σ.1 1 (x85.map (eInt .i64)), ro σ.2 1 (x90.map (eInt .i64))]) ?_ (fun hK204 => ?_)
        ·rintro ⟨g99, g104⟩
         change AnyL _ _ _ _ _ (VF.of [(93, .int .i64 s_79), (0, l_0v), (3, .int .i64 t_3), (9, v11), (11, .int .i64 hop_18), (12, .int .i64 shortest_45), (18, v64), (19, .int .i64 s_69), (87, .int .i64 (r9.1.length : Int)), (88, .int .i64 s_69), (92, .int .i64 (r9.1.length : Int)), (20, .int .i64 s_79), (96, l_0v), (101, .int .i64 t_3), (103, l_0v), (108, .int .i64 t_3), (100, g99), (107, g104)]) [ro l_0v 20 (l_0.map S_api_Segment.enc), nrow v11 NC_L_int_46 r9.1, row v64 1 (r62.map (eInt .i64)), globA, ro g99 1 (x85.map (eInt .i64)), ro g104 1 (x90.map (eInt .i64))] _
         refine any_all [6, 14, 15] (by kernel_rfl) rfl ?_
         refine anyo_cons ?_ ?_
         ·
          refine any_t rfl (wn rfl) rfl (t_callx (vs := [l_0v, g99, .int .i64 t_3, .int .i64 100]) (cs := []) [(0, 0), (4, 0)] rfl Tryd.call20 rfl (playlist_Seen_ok n l_0 x85 t_3 100 l_0v g99 hr88) (showsX_view 0 rfl views_ro (showsX_view 4 rfl views_ro showsX_nil)) rfl (.inl rfl)) ?_
          rintro _ _ ⟨_, ⟨v205, rfl, rfl⟩, rfl⟩
          refine ⟨(ss (ss (ss (ss (sn))))), ?_⟩
          exact any_weak2 (hK179 (v205, g104, g99)) [0, 1, 2, 3, 4, 6, 5] (by kernel_rfl) (qw6 rfl rfl rfl rfl rfl rfl (qv10 rfl rfl rfl rfl rfl rfl rfl rfl rfl rfl)) (by decide) rfl
         refine anyo_cons ?_ ?_
         ·
          refine any_t rfl (wn rfl) rfl (t_alloc Tryd.zeroValue27) ?_
          rintro _ _ ⟨b206, rfl, rfl⟩
          refine ⟨(ss (ss (ss (ss (sn))))), ?_⟩
          exact any_weak2 (hK189 (g99, g104, b206)) [0, 1, 2, 3, 4, 5, 6] (by kernel_rfl) (qw6 rfl rfl rfl rfl rfl rfl (qw6 rfl rfl rfl rfl rfl rfl (qv7 rfl rfl rfl rfl rfl rfl rfl))) (by decide) rfl
         refine anyo_cons ?_ ?_
         ·
          refine any_t rfl (wn rfl) rfl (t_alloc Tryd.zeroValue27) ?_
          rintro _ _ ⟨b207, rfl, rfl⟩
          refine ⟨(ss (ss (ss (ss (sn))))), ?_⟩
          exact any_weak2 (hK192 (g99, g104, b207)) [0, 1, 2, 3, 4, 5, 6] (by kernel_rfl) (qw6 rfl rfl rfl rfl rfl rfl (qw6 rfl rfl rfl rfl rfl rfl (qv7 rfl rfl rfl rfl rfl rfl rfl))) (by decide) rfl
         exact anyo_nil
        refine any_cut2 #[true, true, true, true, true, true, false, true, true, true, true, false, true, false, true, false, false, false] 6 (Value × Nat) (fun σ => [(93, .int .i64 s_79), (0, l_0v), (3, .int .i64 t_3), (9, v11), (11, .int .i64 hop_18), (12, .int .i64 shortest_45), (18, v64), (19, .int .i64 s_69), (87, .int .i64 (r9.1.length : Int)), (88, .int .i64 s_69), (92, .int .i64 (r9.1.length : Int)), (20, .int .i64 s_79), (96, l_0v), (101, .int .i64 t_3), (103, l_0v), (106, elemP v11 (s_79.toNat * 1)), (108, .int .i64 t_3), (100, σ.1), (21, boxP σ.2 0)]) (fun σ => [ro l_0v 20 (l_0.map S_api_Segment.enc), nrow v11 NC_L_int_46 r9.1, row v64 1 (r62.map (eInt .i64)), globA, ro σ.1 1 (x85.map (eInt .i64)), box σ.2 [.int .i64 0, .slice none 0 0, .bool false]]) ?_ (fun hK208 => ?_)
        ·rintro ⟨g99, b105⟩
         change AnyL _ _ _ _ _ (VF.of [(93, .int .i64 s_79), (0, l_0v), (3, .int .i64 t_3), (9, v11), (11, .int .i64 hop_18), (12, .int .i64 shortest_45), (18, v64), (19, .int .i64 s_69), (87, .int .i64 (r9.1.length : Int)), (88, .int .i64 s_69), (92, .int .i64 (r9.1.length : Int)), (20, .int .i64 s_79), (96, l_0v), (101, .int .i64 t_3), (103, l_0v), (106, elemP v11 (s_79.toNat * 1)), (108, .int .i64 t_3), (100, g99), (21, boxP b105 0)]) [ro l_0v 20 (l_0.map S_api_Segment.enc), nrow v11 NC_L_int_46 r9.1, row v64 1 (r62.map (eInt .i64)), globA, ro g99 1 (x85.map (eInt .i64)), box b105 [.int .i64 0, .slice none 0 0, .bool false]] _
         refine any_all [6, 11, 15] (by kernel_rfl) rfl ?_
         refine anyo_cons ?_ ?_
         ·
          refine any_t rfl (wn rfl) rfl (t_callx (vs := [l_0v, g99, .int .i64 t_3, .int .i64 100]) (cs := []) [(0, 0), (4, 0)] rfl Tryd.call20 rfl (playlist_Seen_ok n l_0 x85 t_3 100 l_0v g99 hr88) (showsX_view 0 rfl views_ro (showsX_view 4 rfl views_ro showsX_nil)) rfl (.inl rfl)) ?_
          rintro _ _ ⟨_, ⟨v209, rfl, rfl⟩, rfl⟩
          refine ⟨(ss (ss (ss (ss (sn))))), ?_⟩
          exact any_weak2 (hK183 (v209, b105, g99)) [0, 1, 2, 3, 4, 6, 5] (by kernel_rfl) (qw6 rfl rfl rfl rfl rfl rfl (qv11 rfl rfl rfl rfl rfl rfl rfl rfl rfl rfl rfl)) (by decide) rfl
         refine anyo_cons ?_ ?_
         ·
          refine any_t rfl (wn rfl) rfl (t_loadNf (C := NC_L_int_46) (i := s_79.toNat) (j := 0) 1 (fun γ => γ) Tryd.isAgg46 rfl rfl hxx90 (fun _ => rfl)) ?_
          rintro g210 _ ⟨_, rfl, rfl⟩
          refine ⟨(ss (ss (ss (ss (sn))))), ?_⟩
          exact any_weak2 (hK189 (g99, g210, b105)) [0, 1, 2, 3, 4, 6, 5] (by kernel_rfl) (qw6 rfl rfl rfl rfl rfl rfl (qw6 rfl rfl rfl rfl rfl rfl (qv7 rfl rfl rfl rfl rfl rfl rfl))) (by decide) rfl
         refine anyo_cons ?_ ?_
         ·
          refine any_t rfl (wn rfl) rfl (t_alloc Tryd.zeroValue27) ?_
          rintro _ _ ⟨b211, rfl, rfl⟩
          refine ⟨(ss (ss (ss (ss (sn))))), ?_⟩
          exact any_weak2 (hK195 (g99, b105, b211)) [0, 1, 2, 3, 4, 5, 6] (by kernel_rfl) (qw6 rfl rfl rfl rfl rfl rfl (qw6 rfl rfl rfl rfl rfl rfl (qv8 rfl rfl rfl rfl rfl rfl rfl rfl))) (by decide) rfl
         exact anyo_nil
        refine any_cut2 #[true, true, true, true, true, true, false, true, true, true, true, false, true, false, false, true, false, false] 6 (Value × Nat) (fun σ => [(93, .int .i64 s_79), (0, l_0v), (3, .int .i64 t_3), (9, v11), (11, .int .i64 hop_18), (12, .int .i64 shortest_45), (18, v64), (19, .int .i64 s_69), (87, .int .i64 (r9.1.length : Int)), (88, .int .i64 s_69), (92, .int .i64 (r9.1.length : Int)), (20, .int .i64 s_79), (96, l_0v), (101, .int .i64 t_3), (103, l_0v), (106, elemP v11 (s_79.toNat * 1)), (108, .int .i64 t_3), (100, σ.1), (22, boxP σ.2 0)]) (fun σ => [ro l_0v 20 (l_0.map S_api_Segment.enc), nrow v11 NC_L_int_46 r9.1, row v64 1 (r62.map (eInt .i64)), globA, ro σ.1 1 (x85.map (eInt .i64)), box σ.2 [.int .i64 0, .slice none 0 0, .bool false]]) ?_ (fun hK212 => ?_)
        ·rintro ⟨g99, b106⟩
         change AnyL _ _ _ _ _ (VF.of [(93, .int .i64 s_79), (0, l_0v), (3, .int .i64 t_3), (9, v11), (11, .int .i64 hop_18), (12, .int .i64 shortest_45), (18, v64), (19, .int .i64 s_69), (87, .int .i64 (r9.1.length : Int)), (88, .int .i64 s_69), (92, .int .i64 (r9.1.length : Int)), (20, .int .i64 s_79), (96, l_0v), (101, .int .i64 t_3), (103, l_0v), (106, elemP v11 (s_79.toNat * 1)), (108, .int .i64 t_3), (100, g99), (22, boxP b106 0)]) [ro l_0v 20 (l_0.map S_api_Segment.enc), nrow v11 NC_L_int_46 r9.1, row v64 1 (r62.map (eInt .i64)), globA, ro g99 1 (x85.map (eInt .i64)), box b106 [.int .i64 0, .slice none 0 0, .bool false]] _
         refine any_all [6, 11, 14] (by kernel_rfl) rfl ?_
         refine anyo_cons ?_ ?_
         ·
          refine any_t rfl (wn rfl) rfl (t_callx (vs := [l_0v, g99, .int .i64 t_3, .int .i64 100]) (cs := []) [(0, 0), (4, 0)] rfl Tryd.call20 rfl (playlist_Seen_ok n l_0 x85 t_3 100 l_0v g99 hr88) (showsX_view 0 rfl views_ro (showsX_view 4 rfl views_ro showsX_nil)) rfl (.inl rfl)) ?_
          rintro _ _ ⟨_, ⟨v213, rfl, rfl⟩, rfl⟩
          refine ⟨(ss (ss (ss (ss (sn))))), ?_⟩
          exact any_weak2 (hK186 (v213, b106, g99)) [0, 1, 2, 3, 4, 6, 5] (by kernel_rfl) (qw6 rfl rfl rfl rfl rfl rfl (qv11 rfl rfl rfl rfl rfl rfl rfl rfl rfl rfl rfl)) (by decide) rfl
         refine anyo_cons ?_ ?_
         ·
          refine any_t rfl (wn rfl) rfl (t_loadNf (C := NC_L_int_46) (i := s_79.toNat) (j := 0) 1 (fun γ => γ) Tryd.isAgg46 rfl rfl hxx90 (fun _ => rfl)) ?_
          rintro g214 _ ⟨_, rfl, rfl⟩
          refine ⟨(ss (ss (ss (ss (sn))))), ?_⟩
          exact any_weak2 (hK192 (g99, g214, b106)) [0, 1, 2, 3, 4, 6, 5] (by kernel_rfl) (qw6 rfl rfl rfl rfl rfl rfl (qw6 rfl rfl rfl rfl rfl rfl (qv7 rfl rfl rfl rfl rfl rfl rfl))) (by decide) rfl
         refine anyo_cons ?_ ?_
         ·
          refine any_t rfl (wn rfl) rfl (t_alloc Tryd.zeroValue27) ?_
          rintro _ _ ⟨b215, rfl, rfl⟩
          refine ⟨(ss (ss (ss (ss (sn))))), ?_⟩
          exact any_weak2 (hK195 (g99, b215, b106)) [0, 1, 2, 3, 4, 6, 5] (by kernel_rfl) (qw6 rfl rfl rfl rfl rfl rfl (qw6 rfl rfl rfl rfl rfl rfl (qv8 rfl rfl rfl rfl rfl rfl rfl rfl))) (by decide) rfl
         exact anyo_nil
        refine any_cut2 #[true, true, true, true, false, true, false, true, true, true, true, true, true, false, true, false, false, false] 6 (Value × Nat) (fun σ => [(93, .int .i64 s_79), (0, l_0v), (3, .int .i64 t_3), (9, v11), (11, .int .i64 hop_18), (12, .int .i64 shortest_45), (18, v64), (19, .int .i64 s_69), (87, .int .i64 (r9.1.length : Int)), (88, .int .i64 s_69), (92, .int .i64 (r9.1.length : Int)), (20, .int .i64 s_79), (96, l_0v), (99, elemP v11 (s_69.toNat * 1)), (101, .int .i64 t_3), (103, l_0v), (108, .int .i64 t_3), (107, σ.1), (21, boxP σ.2 0)]) (fun σ => [ro l_0v 20 (l_0.map S_api_Segment.enc), nrow v11 NC_L_int_46 r9.1, row v64 1 (r62.map (eInt .i64)), globA, ro σ.1 1 (x90.map (eInt .i64)), box σ.2 [.int .i64 0, .slice none 0 0, .bool false]]) ?_ (fun hK216 => ?_)
        ·rintro ⟨g100, b107⟩
         change AnyL _ _ _ _ _ (VF.of [(93, .int .i64 s_79), (0, l_0v), (3, .int .i64 t_3), (9, v11), (11, .int .i64 hop_18), (12, .int .i64 shortest_45), (18, v64), (19, .int .i64 s_69), (87, .int .i64 (r9.1.length : Int)), (88, .int .i64 s_69), (92, .int .i64 (r9.1.length : Int)), (20, .int .i64 s_79), (96, l_0v), (99, elemP v11 (s_69.toNat * 1)), (101, .int .i64 t_3), (103, l_0v), (108, .int .i64 t_3), (107, g100), (21, boxP b107 0)]) [ro l_0v 20 (l_0.map S_api_Segment.enc), nrow v11 NC_L_int_46 r9.1, row v64 1 (r62.map (eInt .i64)), globA, ro g100 1 (x90.map (eInt .i64)), box b107 [.int .i64 0, .slice none 0 0, .bool false]] _
         refine any_all [4, 15] (by kernel_rfl) rfl ?_
         refine anyo_cons ?_ ?_
         ·
          refine any_t rfl (wn rfl) rfl (t_loadNf (C := NC_L_int_46) (i := s_69.toNat) (j := 0) 1 (fun γ => γ) Tryd.isAgg46 rfl rfl hxx85 (fun _ => rfl)) ?_
          rintro g217 _ ⟨_, rfl, rfl⟩
          refine ⟨(ss (ss (ss (ss (sn))))), ?_⟩
          exact any_weak2 (hK189 (g217, g100, b107)) [0, 1, 2, 3, 6, 4, 5] (by kernel_rfl) (qw6 rfl rfl rfl rfl rfl rfl (qw6 rfl rfl rfl rfl rfl rfl (qv7 rfl rfl rfl rfl rfl rfl rfl))) (by decide) rfl
         refine anyo_cons ?_ ?_
         ·
          refine any_t rfl (wn rfl) rfl (t_alloc Tryd.zeroValue27) ?_
          rintro _ _ ⟨b218, rfl, rfl⟩
          refine ⟨(ss (ss (ss (ss (sn))))), ?_⟩
          exact any_weak2 (hK198 (g100, b107, b218)) [0, 1, 2, 3, 4, 5, 6] (by kernel_rfl) (qw6 rfl rfl rfl rfl rfl rfl (qw6 rfl rfl rfl rfl rfl rfl (qv8 rfl rfl rfl rfl rfl rfl rfl rfl))) (by decide) rfl
         exact anyo_nil
        refine any_cut2 #[true, true, true, true, false, true, false, true, true, true, true, true, true, false, false, true, false, false] 6 (Value × Nat) (fun σ => [(93, .int .i64 s_79), (0, l_0v), (3, .int .i64 t_3), (9, v11), (11, .int .i64 hop_18), (12, .int .i64 shortest_45), (18, v64), (19, .int .i64 s_69), (87, .int .i64 (r9.1.length : Int)), (88, .int .i64 s_69), (92, .int .i64 (r9.1.length : Int)), (20, .int .i64 s_79), (96, l_0v), (99, elemP v11 (s_69.toNat * 1)), (101, .int .i64 t_3), (103, l_0v), (108, .int .i64 t_3), (107, σ.1), (22, boxP σ.2 0)]) (fun σ => [ro l_0v 20 (l_0.map S_api_Segment.enc), nrow v11 NC_L_int_46 r9.1, row v64 1 (r62.map (eInt .i64)), globA, ro σ.1 1 (x90.map (eInt .i64)), box σ.2 [.int .i64 0, .slice none 0 0, .bool false]]) ?_ (fun hK219 => ?_)
        ·rintro ⟨g100, b108⟩
         change AnyL _ _ _ _ _ (VF.of [(93, .int .i64 s_79), (0, l_0v), (3, .int .i64 t_3), (9, v11), (11, .int .i64 hop_18), (12, .int .i64 shortest_45), (18, v64), (19, .int .i64 s_69), (87, .int .i64 (r9.1.length : Int)), (88, .int .i64 s_69), (92, .int .i64 (r9.1.length : Int)), (20, .int .i64 s_79), (96, l_0v), (99, elemP v11 (s_69.toNat * 1)), (101, .int .i64 t_3), (103, l_0v), (108, .int .i64 t_3), (107, g100), (22, boxP b108 0)]) [ro l_0v 20 (l_0.map S_api_Segment.enc), nrow v11 NC_L_int_46 r9.1, row v64 1 (r62.map (eInt .i64)), globA, ro g100 1 (x90.map (eInt .i64)), box b108 [.int .i64 0, .slice none 0 0, .bool false]] _
         refine any_all [4, 14] (by kernel_rfl) rfl ?_
         refine anyo_cons ?_ ?_
         ·
          refine any_t rfl (wn rfl) rfl (t_loadNf (C := NC_L_int_46) (i := s_69.toNat) (j := 0) 1 (fun γ => γ) Tryd.isAgg46 rfl rfl hxx85 (fun _ => rfl)) ?_
          rintro g220 _ ⟨_, rfl, rfl⟩
          refine ⟨(ss (ss (ss (ss (sn))))), ?_⟩
          exact any_weak2 (hK192 (g220, g100, b108)) [0, 1, 2, 3, 6, 4, 5] (by kernel_rfl) (qw6 rfl rfl rfl rfl rfl rfl (qw6 rfl rfl rfl rfl rfl rfl (qv7 rfl rfl rfl rfl rfl rfl rfl))) (by decide) rfl
         refine anyo_cons ?_ ?_
         ·
          refine any_t rfl (wn rfl) rfl (t_alloc Tryd.zeroValue27) ?_
          rintro _ _ ⟨b221, rfl, rfl⟩
          refine ⟨(ss (ss (ss (ss (sn))))), ?_⟩
          exact any_weak2 (hK198 (g100, b221, b108)) [0, 1, 2, 3, 4, 6, 5] (by kernel_rfl) (qw6 rfl rfl rfl rfl rfl rfl (qw6 rfl rfl rfl rfl rfl rfl (qv8 rfl rfl rfl rfl rfl rfl rfl rfl))) (by decide) rfl
         exact anyo_nil
        refine any_cut2 #[true, true, true, true, false, true, false, true, true, true, true, false, true, false, true, true, false, false] 6 (Nat × Nat) (fun σ => [(93, .int .i64 s_79), (0, l_0v), (3, .int .i64 t_3), (9, v11), (11, .int .i64 hop_18), (12, .int .i64 shortest_45), (18, v64), (19, .int .i64 s_69), (87, .int .i64 (r9.1.length : Int)), (88, .int .i64 s_69), (92, .int .i64 (r9.1.length : Int)), (20, .int .i64 s_79), (96, l_0v), (99, elemP v11 (s_69.toNat * 1)), (101, .int .i64 t_3), (103, l_0v), (106, elemP v11 (s_79.toNat * 1)), (108, .int .i64 t_3), (21, boxP σ.1 0), (22, boxP σ.2 0)]) (fun σ => [ro l_0v 20 (l_0.map S_api_Segment.enc), nrow v11 NC_L_int_46 r9.1, row v64 1 (r62.map (eInt .i64)), globA, box σ.1 [.int .i64 0, .slice none 0 0, .bool false], box σ.2 [.int .i64 0, .slice none 0 0, .bool false]]) ?_ (fun hK222 => ?_)
        ·rintro ⟨b101, b109⟩
         change AnyL _ _ _ _ _ (VF.of [(93, .int .i64 s_79), (0, l_0v), (3, .int .i64 t_3), (9, v11), (11, .int .i64 hop_18), (12, .int .i64 shortest_45), (18, v64), (19, .int .i64 s_69), (87, .int .i64 (r9.1.length : Int)), (88, .int .i64 s_69), (92, .int .i64 (r9.1.length : Int)), (20, .int .i64 s_79), (96, l_0v), (99, elemP v11 (s_69.toNat * 1)), (101, .int .i64 t_3), (103, l_0v), (106, elemP v11 (s_79.toNat * 1)), (108, .int .i64 t_3), (21, boxP b101 0), (22, boxP b109 0)]) [ro l_0v 20 (l_0.map S_api_Segment.enc), nrow v11 NC_L_int_46 r9.1, row v64 1 (r62.map (eInt .i64)), globA, box b101 [.int .i64 0, .slice none 0 0, .bool false], box b109 [.int .i64 0, .slice none 0 0, .bool false]] _
         refine any_all [4, 11] (by kernel_rfl) rfl ?_
         refine anyo_cons ?_ ?_
         ·
          refine any_t rfl (wn rfl) rfl (t_loadNf (C := NC_L_int_46) (i := s_69.toNat) (j := 0) 1 (fun γ => γ) Tryd.isAgg46 rfl rfl hxx85 (fun _ => rfl)) ?_
          rintro g223 _ ⟨_, rfl, rfl⟩
          refine ⟨(ss (ss (ss (ss (sn))))), ?_⟩
          exact any_weak2 (hK195 (g223, b101, b109)) [0, 1, 2, 3, 6, 4, 5] (by kernel_rfl) (qw6 rfl rfl rfl rfl rfl rfl (qw6 rfl rfl rfl rfl rfl rfl (qv8 rfl rfl rfl rfl rfl rfl rfl rfl))) (by decide) rfl
         refine anyo_cons ?_ ?_
         ·
          refine any_t rfl (wn rfl) rfl (t_loadNf (C := NC_L_int_46) (i := s_79.toNat) (j := 0) 1 (fun γ => γ) Tryd.isAgg46 rfl rfl hxx90 (fun _ => rfl)) ?_
          rintro g224 _ ⟨_, rfl, rfl⟩
          refine ⟨(ss (ss (ss (ss (sn))))), ?_⟩
          exact any_weak2 (hK198 (g224, b101, b109)) [0, 1, 2, 3, 6, 4, 5] (by kernel_rfl) (qw6 rfl rfl rfl rfl rfl rfl (qw6 rfl rfl rfl rfl rfl rfl (qv8 rfl rfl rfl rfl rfl rfl rfl rfl))) (by decide) rfl
         exact anyo_nil
        refine any_cut2 #[true, true, true, true, true, true, false, true, true, true, true, false, true, false, false, false, false, false] 7 (Value) (fun σ => [(93, .int .i64 s_79), (0, l_0v), (3, .int .i64 t_3), (9, v11), (11, .int .i64 hop_18), (12, .int .i64 shortest_45), (18, v64), (19, .int .i64 s_69), (87, .int .i64 (r9.1.length : Int)), (88, .int .i64 s_69), (92, .int .i64 (r9.1.length : Int)), (20, .int .i64 s_79), (96, l_0v), (101, .int .i64 t_3), (103, l_0v), (106, elemP v11 (s_79.toNat * 1)), (108, .int .i64 t_3), (100, σ)]) (fun σ => [ro l_0v 20 (l_0.map S_api_Segment.enc), nrow v11 NC_L_int_46 r9.1, row v64 1 (r62.map (eInt .i64)), globA, ro σ 1 (x85.map (eInt .i64))]) ?_ (fun hK225 => ?_)
        ·rintro g99
         change AnyL _ _ _ _ _ (VF.of [(93, .int .i64 s_79), (0, l_0v), (3, .int .i64 t_3), (9, v11), (11, .int .i64 hop_18), (12, .int .i64 shortest_45), (18, v64), (19, .int .i64 s_69), (87, .int .i64 (r9.1.length : Int)), (88, .int .i64 s_69), (92, .int .i64 (r9.1.length : Int)), (20, .int .i64 s_79), (96, l_0v), (101, .int .i64 t_3), (103, l_0v), (106, elemP v11 (s_79.toNat * 1)), (108, .int .i64 t_3), (100, g99)]) [ro l_0v 20 (l_0.map S_api_Segment.enc), nrow v11 NC_L_int_46 r9.1, row v64 1 (r62.map (eInt .i64)), globA, ro g99 1 (x85.map (eInt .i64))] _
         refine any_all [6, 11, 14, 15] (by kernel_rfl) rfl ?_
         refine anyo_cons ?_ ?_
         ·
          refine any_t rfl (wn rfl) rfl (t_callx (vs := [l_0v, g99, .int .i64 t_3, .int .i64 100]) (cs := []) [(0, 0), (4, 0)] rfl Tryd.call20 rfl (playlist_Seen_ok n l_0 x85 t_3 100 l_0v g99 hr88) (showsX_view 0 rfl views_ro (showsX_view 4 rfl views_ro showsX_nil)) rfl (.inl rfl)) ?_
          rintro _ _ ⟨_, ⟨v226, rfl, rfl⟩, rfl⟩
          refine ⟨(ss (ss (ss (ss (sn))))), ?_⟩
          exact any_weak2 (hK200 (v226, g99)) [0, 1, 2, 3, 4, 5] (by kernel_rfl) (qw6 rfl rfl rfl rfl rfl rfl (qv10 rfl rfl rfl rfl rfl rfl rfl rfl rfl rfl)) (by decide) rfl
         refine anyo_cons ?_ ?_
         ·
          refine any_t rfl (wn rfl) rfl (t_loadNf (C := NC_L_int_46) (i := s_79.toNat) (j := 0) 1 (fun γ => γ) Tryd.isAgg46 rfl rfl hxx90 (fun _ => rfl)) ?_
          rintro g227 _ ⟨_, rfl, rfl⟩
          refine ⟨(ss (ss (ss (ss (sn))))), ?_⟩
          exact any_weak2 (hK204 (g99, g227)) [0, 1, 2, 3, 4, 5] (by kernel_rfl) (qw6 rfl rfl rfl rfl rfl rfl (qv12 rfl rfl rfl rfl rfl rfl rfl rfl rfl rfl rfl rfl)) (by decide) rfl
         refine anyo_cons ?_ ?_
         ·
          refine any_t rfl (wn rfl) rfl (t_alloc Tryd.zeroValue27) ?_
          rintro _ _ ⟨b228, rfl, rfl⟩
          refine ⟨(ss (ss (ss (ss (sn))))), ?_⟩
          exact any_weak2 (hK208 (g99, b228)) [0, 1, 2, 3, 4, 5] (by kernel_rfl) (qw6 rfl rfl rfl rfl rfl rfl (qw6 rfl rfl rfl rfl rfl rfl (qv7 rfl rfl rfl rfl rfl rfl rfl))) (by decide) rfl
         refine anyo_cons ?_ ?_
         ·
          refine any_t rfl (wn rfl) rfl (t_alloc Tryd.zeroValue27) ?_
          rintro _ _ ⟨b229, rfl, rfl⟩
          refine ⟨(ss (ss (ss (ss (sn))))), ?_⟩
          exact any_weak2 (hK212 (g99, b229)) [0, 1, 2, 3, 4, 5] (by kernel_rfl) (qw6 rfl rfl rfl rfl rfl rfl (qw6 rfl rfl rfl rfl rfl rfl (qv7 rfl rfl rfl rfl rfl rfl rfl))) (by decide) rfl
         exact anyo_nil
        refine any_cut2 #[true, true, true, true, false, true, false, true, true, true, true, true, true, false, false, false, false, false] 7 (Value) (fun σ => [(93, .int .i64 s_79), (0, l_0v), (3, .int .i64 t_3), (9, v11), (11, .int .i64 hop_18), (12, .int .i64 shortest_45), (18, v64), (19, .int .i64 s_69), (87, .int .i64 (r9.1.length : Int)), (88, .int .i64 s_69), (92, .int .i64 (r9.1.length : Int)), (20, .int .i64 s_79), (96, l_0v), (99, elemP v11 (s_69.toNat * 1)), (101, .int .i64 t_3), (103, l_0v), (108, .int .i64 t_3), (107, σ)]) (fun σ => [ro l_0v 20 (l_0.map S_api_Segment.enc), nrow v11 NC_L_int_46 r9.1, row v64 1 (r62.map (eInt .i64)), globA, ro σ 1 (x90.map (eInt .i64))]) ?_ (fun hK230 => ?_)
        ·rintro g100
         change AnyL _ _ _ _ _ (VF.of [(93, .int .i64 s_79), (0, l_0v), (3, .int .i64 t_3), (9, v11), (11, .int .i64 hop_18), (12, .int .i64 shortest_45), (18, v64), (19, .int .i64 s_69), (87, .int .i64 (r9.1.length : Int)), (88, .int .i64 s_69), (92, .int .i64 (r9.1.length : Int)), (20, .int .i64 s_79), (96, l_0v), (99, elemP v11 (s_69.toNat * 1)), (101, .int .i64 t_3), (103, l_0v), (108, .int .i64 t_3), (107, g100)]) [ro l_0v 20 (l_0.map S_api_Segment.enc), nrow v11 NC_L_int_46 r9.1, row v64 1 (r62.map (eInt .i64)), globA, ro g100 1 (x90.map (eInt .i64))] _
         refine any_all [4, 14, 15] (by kernel_rfl) rfl ?_
         refine anyo_cons ?_ ?_
         ·
          refine any_t rfl (wn rfl) rfl (t_loadNf (C := NC_L_int_46) (i := s_69.toNat) (j := 0) 1 (fun γ => γ) Tryd.isAgg46 rfl rfl hxx85 (fun _ => rfl)) ?_
          rintro g231 _ ⟨_, rfl, rfl⟩
          refine ⟨(ss (ss (ss (ss (sn))))), ?_⟩
          exact any_weak2 (hK204 (g231, g100)) [0, 1, 2, 3, 5, 4] (by kernel_rfl) (qw6 rfl rfl rfl rfl rfl rfl (qv12 rfl rfl rfl rfl rfl rfl rfl rfl rfl rfl rfl rfl)) (by decide) rfl
         refine anyo_cons ?_ ?_
         ·
          refine any_t rfl (wn rfl) rfl (t_alloc Tryd.zeroValue27) ?_
          rintro _ _ ⟨b232, rfl, rfl⟩
          refine ⟨(ss (ss (ss (ss (sn))))), ?_⟩
          exact any_weak2 (hK216 (g100, b232)) [0, 1, 2, 3, 4, 5] (by kernel_rfl) (qw6 rfl rfl rfl rfl rfl rfl (qw6 rfl rfl rfl rfl rfl rfl (qv7 rfl rfl rfl rfl rfl rfl rfl))) (by decide) rfl
         refine anyo_cons ?_ ?_
         ·
          refine any_t rfl (wn rfl) rfl (t_alloc Tryd.zeroValue27) ?_
          rintro _ _ ⟨b233, rfl, rfl⟩
          refine ⟨(ss (ss (ss (ss (sn))))), ?_⟩
          exact any_weak2 (hK219 (g100, b233)) [0, 1, 2, 3, 4, 5] (by kernel_rfl) (qw6 rfl rfl rfl rfl rfl rfl (qw6 rfl rfl rfl rfl rfl rfl (qv7 rfl rfl rfl rfl rfl rfl rfl))) (by decide) rfl
         exact anyo_nil
        refine any_cut2 #[true, true, true, true, false, true, false, true, true, true, true, false, true, false, true, false, false, false] 7 (Nat) (fun σ => [(93, .int .i64 s_79), (0, l_0v), (3, .int .i64 t_3), (9, v11), (11, .int .i64 hop_18), (12, .int .i64 shortest_45), (18, v64), (19, .int .i64 s_69), (87, .int .i64 (r9.1.length : Int)), (88, .int .i64 s_69), (92, .int .i64 (r9.1.length : Int)), (20, .int .i64 s_79), (96, l_0v), (99, elemP v11 (s_69.toNat * 1)), (101, .int .i64 t_3), (103, l_0v), (106, elemP v11 (s_79.toNat * 1)), (108, .int .i64 t_3), (21, boxP σ 0)]) (fun σ => [ro l_0v 20 (l_0.map S_api_Segment.enc), nrow v11 NC_L_int_46 r9.1, row v64 1 (r62.map (eInt .i64)), globA, box σ [.int .i64 0, .slice none 0 0, .bool false]]) ?_ (fun hK234 => ?_)
        ·rintro b101
         change AnyL _ _ _ _ _ (VF.of [(93, .int .i64 s_79), (0, l_0v), (3, .int .i64 t_3), (9, v11), (11, .int .i64 hop_18), (12, .int .i64 shortest_45), (18, v64), (19, .int .i64 s_69), (87, .int .i64 (r9.1.length : Int)), (88, .int .i64 s_69), (92, .int .i64 (r9.1.length : Int)), (20, .int .i64 s_79), (96, l_0v), (99, elemP v11 (s_69.toNat * 1)), (101, .int .i64 t_3), (103, l_0v), (106, elemP v11 (s_79.toNat * 1)), (108, .int .i64 t_3), (21, boxP b101 0)]) [ro l_0v 20 (l_0.map S_api_Segment.enc), nrow v11 NC_L_int_46 r9.1, row v64 1 (r62.map (eInt .i64)), globA, box b101 [.int .i64 0, .slice none 0 0, .bool false]] _
         refine any_all [4, 11, 15] (by kernel_rfl) rfl ?_
         refine anyo_cons ?_ ?_
         ·
          refine any_t rfl (wn rfl) rfl (t_loadNf (C := NC_L_int_46) (i := s_69.toNat) (j := 0) 1 (fun γ => γ) Tryd.isAgg46 rfl rfl hxx85 (fun _ => rfl)) ?_
          rintro g235 _ ⟨_, rfl, rfl⟩
          refine ⟨(ss (ss (ss (ss (sn))))), ?_⟩
          exact any_weak2 (hK208 (g235, b101)) [0, 1, 2, 3, 5, 4] (by kernel_rfl) (qw6 rfl rfl rfl rfl rfl rfl (qw6 rfl rfl rfl rfl rfl rfl (qv7 rfl rfl rfl rfl rfl rfl rfl))) (by decide) rfl
         refine anyo_cons ?_ ?_
         ·
          refine any_t rfl (wn rfl) rfl (t_loadNf (C := NC_L_int_46) (i := s_79.toNat) (j := 0) 1 (fun γ => γ) Tryd.isAgg46 rfl rfl hxx90 (fun _ => rfl)) ?_
          rintro g236 _ ⟨_, rfl, rfl⟩
          refine ⟨(ss (ss (ss (ss (sn))))), ?_⟩
          exact any_weak2 (hK216 (g236, b101)) [0, 1, 2, 3, 5, 4] (by kernel_rfl) (qw6 rfl rfl rfl rfl rfl rfl (qw6 rfl rfl rfl rfl rfl rfl (qv7 rfl rfl rfl rfl rfl rfl rfl))) (by decide) rfl
         refine anyo_cons ?_ ?_
         ·
          refine any_t rfl (wn rfl) rfl (t_alloc Tryd.zeroValue27) ?_
          rintro _ _ ⟨b237, rfl, rfl⟩
          refine ⟨(ss (ss (ss (ss (sn))))), ?_⟩
          exact any_weak2 (hK222 (b101, b237)) [0, 1, 2, 3, 4, 5] (by kernel_rfl) (qw6 rfl rfl rfl rfl rfl rfl (qw6 rfl rfl rfl rfl rfl rfl (qv8 rfl rfl rfl rfl rfl rfl rfl rfl))) (by decide) rfl
         exact anyo_nil
        refine any_cut2 #[true, true, true, true, false, true, false, true, true, true, true, false, true, false, false, true, false, false] 7 (Nat) (fun σ => [(93, .int .i64 s_79), (0, l_0v), (3, .int .i64 t_3), (9, v11), (11, .int .i64 hop_18), (12, .int .i64 shortest_45), (18, v64), (19, .int .i64 s_69), (87, .int .i64 (r9.1.length : Int)), (88, .int .i64 s_69), (92, .int .i64 (r9.1.length : Int)), (20, .int .i64 s_79), (96, l_0v), (99, elemP v11 (s_69.toNat * 1)), (101, .int .i64 t_3), (103, l_0v), (106, elemP v11 (s_79.toNat * 1)), (108, .int .i64 t_3), (22, boxP σ 0)]) (fun σ => [ro l_0v 20 (l_0.map S_api_Segment.enc), nrow v11 NC_L_int_46 r9.1, row v64 1 (r62.map (eInt .i64)), globA, box σ [.int .i64 0, .slice none 0 0, .bool false]]) ?_ (fun hK238 => ?_)
        ·rintro b102
         change AnyL _ _ _ _ _ (VF.of [(93, .int .i64 s_79), (0, l_0v), (3, .int .i64 t_3), (9, v11), (11, .int .i64 hop_18), (12, .int .i64 shortest_45), (18, v64), (19, .int .i64 s_69), (87, .int .i64 (r9.1.length : Int)), (88, .int .i64 s_69), (92, .int .i64 (r9.1.length : Int)), (20, .int .i64 s_79), (96, l_0v), (99, elemP v11 (s_69.toNat * 1)), (101, .int .i64 t_3), (103, l_0v), (106, elemP v11 (s_79.toNat * 1)), (108, .int .i64 t_3), (22, boxP b102 0)]) [ro l_0v 20 (l_0.map S_api_Segment.enc), nrow v11 NC_L_int_46 r9.1, row v64 1 (r62.map (eInt .i64)), globA, box b102 [.int .i64 0, .slice none 0 0, .bool false]] _
         refine any_all [4, 11, 14] (by kernel_rfl) rfl ?_
         refine anyo_cons ?_ ?_
         ·
          refine any_t rfl (wn rfl) rfl (t_loadNf (C := NC_L_int_46) (i := s_69.toNat) (j := 0) 1 (fun γ => γ) Tryd.isAgg46 rfl rfl hxx85 (fun _ => rfl)) ?_
          rintro g239 _ ⟨_, rfl, rfl⟩
          refine ⟨(ss (ss (ss (ss (sn))))), ?_⟩
          exact any_weak2 (hK212 (g239, b102)) [0, 1, 2, 3, 5, 4] (by kernel_rfl) (qw6 rfl rfl rfl rfl rfl rfl (qw6 rfl rfl rfl rfl rfl rfl (qv7 rfl rfl rfl rfl rfl rfl rfl))) (by decide) rfl
         refine anyo_cons ?_ ?_
         ·
          refine any_t rfl (wn rfl) rfl (t_loadNf (C := NC_L_int_46) (i := s_79.toNat) (j := 0) 1 (fun γ => γ) Tryd.isAgg46 rfl rfl hxx90 (fun _ => rfl)) ?_
          rintro g240 _ ⟨_, rfl, rfl⟩
          refine ⟨(ss (ss (ss (ss (sn))))), ?_⟩
          exact any_weak2 (hK219 (g240, b102)) [0, 1, 2, 3, 5, 4] (by kernel_rfl) (qw6 rfl rfl rfl rfl rfl rfl (qw6 rfl rfl rfl rfl rfl rfl (qv7 rfl rfl rfl rfl rfl rfl rfl))) (by decide) rfl
         refine anyo_cons ?_ ?_
         ·
          refine any_t rfl (wn rfl) rfl (t_alloc Tryd.zeroValue27) ?_
          rintro _ _ ⟨b241, rfl, rfl⟩
          refine ⟨(ss (ss (ss (ss (sn))))), ?_⟩
          exact any_weak2 (hK222 (b241, b102)) [0, 1, 2, 3, 5, 4] (by kernel_rfl) (qw6 rfl rfl rfl rfl rfl rfl (qw6 rfl rfl rfl rfl rfl rfl (qv8 rfl rfl rfl rfl rfl rfl rfl rfl))) (by decide) rfl
         exact anyo_nil
        refine any_all [4, 11, 14, 15] (by kernel_rfl) rfl ?_
        refine anyo_cons ?_ ?_
        ·
         refine any_t rfl (wn rfl) rfl (t_loadNf (C := NC_L_int_46) (i := s_69.toNat) (j := 0) 1 (fun γ => γ) Tryd.isAgg46 rfl rfl hxx85 (fun _ => rfl)) ?_
         rintro g242 _ ⟨_, rfl, rfl⟩
         refine ⟨(ss (ss (ss (ss (sn))))), ?_⟩
         exact any_weak2 (hK225 g242) [0, 1, 2, 3, 4] (by kernel_rfl) (qw6 rfl rfl rfl rfl rfl rfl (qv12 rfl rfl rfl rfl rfl rfl rfl rfl rfl rfl rfl rfl)) (by decide) rfl
        refine anyo_cons ?_ ?_
        ·
         refine any_t rfl (wn rfl) rfl (t_loadNf (C := NC_L_int_46) (i := s_79.toNat) (j := 0) 1 (fun γ => γ) Tryd.isAgg46 rfl rfl hxx90 (fun _ => rfl)) ?_
         rintro g243 _ ⟨_, rfl, rfl⟩
         refine ⟨(ss (ss (ss (ss (sn))))), ?_⟩
         exact any_weak2 (hK230 g243) [0, 1, 2, 3, 4] (by kernel_rfl) (qw6 rfl rfl rfl rfl rfl rfl (qv12 rfl rfl rfl rfl rfl rfl rfl rfl rfl rfl rfl rfl)) (by decide) rfl
        refine anyo_cons ?_ ?_
        ·
         refine any_t rfl (wn rfl) rfl (t_alloc Tryd.zeroValue27) ?_
         rintro _ _ ⟨b244, rfl, rfl⟩
         refine ⟨(ss (ss (ss (ss (sn))))), ?_⟩
         exact any_weak2 (hK234 b244) [0, 1, 2, 3, 4] (by kernel_rfl) (qw6 rfl rfl rfl rfl rfl rfl (qw6 rfl rfl rfl rfl rfl rfl (qv7 rfl rfl rfl rfl rfl rfl rfl))) (by decide) rfl
        refine anyo_cons ?_ ?_
        ·
         refine any_t rfl (wn rfl) rfl (t_alloc Tryd.zeroValue27) ?_
         rintro _ _ ⟨b245, rfl, rfl⟩
         refine ⟨(ss (ss (ss (ss (sn))))), ?_⟩
         exact any_weak2 (hK238 b245) [0, 1, 2, 3, 4] (by kernel_rfl) (qw6 rfl rfl rfl rfl rfl rfl (qw6 rfl rfl rfl rfl rfl rfl (qv7 rfl rfl rfl rfl rfl rfl rfl))) (by decide) rfl
        exact anyo_nil
       ·replace h := cond_f h hc84
        refine run_exit _ rfl ?_
        refine goes_blk ?_
        obtain rfl := some_eq h
        obtain rfl := hstop82 _ rfl
        exact goes_cut hL77 ((), ()) [0, 1, 2, 3] (qv8 rfl rfl rfl rfl rfl rfl rfl rfl) (by decide) rfl rfl
      rintro ⟨_, _⟩ hj
      obtain rfl : o75 = _ := hj
      replace h := after_go ho76
      clear ho76
      change Run _ _ _ (VF.of [(0, l_0v), (3, .int .i64 t_3), (9, v11), (11, .int .i64 hop_18), (12, .int .i64 shortest_45), (18, v64), (87, .int .i64 (r9.1.length : Int)), (88, .int .i64 s_69)]) [ro l_0v 20 (l_0.map S_api_Segment.enc), nrow v11 NC_L_int_46 r9.1, row v64 1 (r62.map (eInt .i64)), globA]
      refine run_region' ?_
      refine oy rfl rfl (y_add rfl rfl) ?_
      refine oy rfl rfl (y_move rfl) ?_
      refine ops_nil ?_
      obtain rfl := some_eq h
      exact goes_iter hgo71 (IntKind.i64.wrap (s_69 + 1)) () [0, 1, 2, 3] rfl (qv8 rfl rfl rfl rfl rfl rfl rfl rfl) (by decide) rfl
     ·replace h := cond_f h hc74
      refine run_exit _ rfl ?_
      obtain rfl := some_eq h
      obtain rfl := hstop72 _ rfl
      exact goes_cut hL67 ((), ()) [3] vnil (by decide) rfl rfl
    rintro ⟨_, _⟩ hj
    obtain rfl : o65 = _ := hj
    replace h := after_go ho66
    clear ho66
    change Run _ _ _ (VF.of []) [globA]
    refine run_seq ?_
    refine run_region' ?_
    obtain ⟨r246, hr247, h⟩ := obind_some h
    refine ot rfl rfl (t_callx (vs := []) (cs := []) [(0, 0)] rfl Tryd.call8 rfl (law43_sanity_ok n   hr247) (showsX_view 0 rfl views_glob showsX_nil) rfl (.inl rfl)) ?_
    rintro _ _ ⟨_, ⟨rfl, rfl⟩, rfl⟩
    refine oy rfl rfl (y_assign rfl) ?_
    refine ops_nil ?_
    refine goes_code ?_
    refine run_ret ?_
    obtain rfl := some_eq h
    refine fin_slots [8] [.bool r246] [] [] Tryd.results6 rfl (by decide) rfl ?_
    exact ⟨rfl, rfl⟩

end Go.Proofs.YtbgpojdmdnkeaaaDoor
