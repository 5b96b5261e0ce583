/-
  Texts that stand side by side: W5, Pn, AbsEnd, AbsEnd2, AbsEnd3, AbsEnd4, AbsEnd5, AbsLaid, Opn, P5, LaidZ.
-/
import Derived.Test.YtbgpojdmdnkeaaaGreatDoorG5a
import Derived.Test.YtbgpojdmdnkeaaaGreatDoorM8
import Derived.Test.YtbgpojdmdnkeaaaGreatDoorM0
import Derived.WalkKit
import Derived.ProofKit
import Derived.OpenShut
import Derived.ShutString
import Derived.ChangeOld
import Derived.Below
import Derived.SliceStrings
import Derived.Test.YtbgpojdmdnkeaaaGreatDoorM1
import Derived.ChangeArms
import Derived.Test.YtbgpojdmdnkeaaaGreatDoorM2
import Derived.LaidHandle
import Derived.Deep.DeepHandedRow
import Derived.Test.YtbgpojdmdnkeaaaGreatDoorFe
import Derived.Test.YtbgpojdmdnkeaaaGreatDoorRows
import Derived.Test.YtbgpojdmdnkeaaaGreatDoorChecked
namespace Go.Proofs.YtbgpojdmdnkeaaaGreatDoor
open Go.Abs
set_option linter.unusedVariables false
set_option linter.unusedSimpArgs false
set_option maxRecDepth 20000
set_option maxHeartbeats 4000000

def law43_PlaylistSpreadsAsSpecified_L1 (n : Nat) (l_0 : (List S_api_Segment)) (t_3 : Int) (window_4 : Int) (r6 : (List (List Int)) × Int) : (Int) → Option (Lp (Int) (Lp (Unit) (Bool))) :=
 fun s_36 =>
  cond (decide (s_36 < (r6.1.length : Int)))
   (idx r6.1 s_36 fun x42 =>
   obind (playlist_Seen n l_0 x42 t_3 window_4) fun r44 =>
   obind (ref43_Seen n l_0 x42 t_3 window_4) fun r47 =>
   obind (ref43_Same n r44 r47) fun r50 =>
   cond (!r50)
    (some (.stop (.stop false)))
    (some (.go (IntKind.i64.wrap (s_36 + 1)))))
   (some (.stop (.go ())))
def law43_PlaylistSpreadsAsSpecified (n : Nat) (l_0 : (List S_api_Segment)) (parents_1 : (List Int)) (delays_2 : (List (List Int))) (t_3 : Int) (window_4 : Int) : Option (Bool) :=
 obind (law43_small n l_0 parents_1 delays_2) fun r1 =>
 cond (!r1)
  (obind (law43_sanity n) fun r4 =>
  some r4)
  (obind (playlist_Spread n l_0 parents_1 delays_2) fun r6 =>
  obind (ref43_Spread n l_0 parents_1 delays_2) fun r9 =>
  bindJ (S := Bool)
   (cond (decide (r6.2 ≠ r9.E))
    (some (.go true))
    (obind (ref43_SameTimes n r6.1 r9.L) fun r20 =>
    some (.go (!r20))))
  (fun b14 =>
   cond b14
    (some false)
    (cond ((decide (r6.2 ≠ 0) || decide (window_4 < 1)) || decide (100 < window_4))
     (obind (law43_sanity n) fun r30 =>
     some r30)
     (bindJ (S := Unit)
      (iter (law43_PlaylistSpreadsAsSpecified_L1 n l_0 t_3 window_4 r6) n 0)
     (fun _ =>
      obind (law43_sanity n) fun r53 =>
      some r53)))))
theorem law43_PlaylistSpreadsAsSpecified_ok (n : Nat) (l_0 : (List S_api_Segment)) (parents_1 : (List Int)) (delays_2 : (List (List Int))) (t_3 : Int) (window_4 : Int) (l_0v : Value) (parents_1v : Value) (delays_2v : Value) {r : Bool} (h : law43_PlaylistSpreadsAsSpecified n l_0 parents_1 delays_2 t_3 window_4 = some r) :
  Meets Tryz.prog 5 [l_0v, parents_1v, delays_2v, .int .i64 t_3, .int .i64 window_4] [ro l_0v 20 (l_0.map S_api_Segment.enc), ro parents_1v 1 (parents_1.map (eInt .i64)), nro delays_2v NC_L_int_43 delays_2, globA] (fun v G => v = .bool r ∧ G = []) := by
 refine fn_of_run Tryz.func5 rfl Tryz.ntmps5 rfl (fun w0 o0 => ?_)
 refine run_seq ?_
 refine run_region' ?_
 refine oy rfl rfl (y_assign rfl) ?_
 refine ops_nil ?_
 refine goes_code ?_
 refine run_seq ?_
 refine run_seq ?_
 refine run_region' ?_
 refine oy rfl rfl (y_move rfl) ?_
 refine oy rfl rfl (y_move rfl) ?_
 refine oy rfl rfl (y_move rfl) ?_
 obtain ⟨r1, hr2, h⟩ := obind_some h
 refine ot rfl rfl (t_callx (vs := [l_0v, parents_1v, delays_2v]) (cs := []) [(0, 0), (1, 0), (2, 0)] rfl Tryz.call16 rfl (law43_small_ok n l_0 parents_1 delays_2 l_0v parents_1v delays_2v hr2) (showsX_view 0 rfl views_ro (showsX_view 1 rfl views_ro (showsX_view 2 rfl views_nro showsX_nil))) rfl (.inl rfl)) ?_
 rintro _ _ ⟨_, ⟨rfl, rfl⟩, rfl⟩
 refine oy rfl rfl (y_not rfl) ?_
 refine ops_nil ?_
 refine goes_code ?_
 refine run_cond (!r1) rfl (fun hc3 => ?_) (fun hc3 => ?_)
 ·replace h := cond_t h hc3
  refine run_seq ?_
  refine run_region' ?_
  obtain ⟨r4, hr5, h⟩ := obind_some h
  refine ot rfl rfl (t_callx (vs := []) (cs := []) [(3, 0)] rfl Tryz.call8 rfl (law43_sanity_ok n   hr5) (showsX_view 3 rfl views_glob showsX_nil) rfl (.inl rfl)) ?_
  rintro _ _ ⟨_, ⟨rfl, rfl⟩, rfl⟩
  refine oy rfl rfl (y_assign rfl) ?_
  refine ops_nil ?_
  refine goes_code ?_
  refine run_ret ?_
  obtain rfl := some_eq h
  refine fin_slots [10] [.bool r4] [] [] Tryz.results5 rfl (by decide) rfl ?_
  exact ⟨rfl, rfl⟩
 ·replace h := cond_f h hc3
  refine run_skip ?_
  refine goes_code ?_
  refine run_seq ?_
  refine run_region' ?_
  refine oy rfl rfl (y_move rfl) ?_
  refine oy rfl rfl (y_move rfl) ?_
  refine oy rfl rfl (y_move rfl) ?_
  obtain ⟨r6, hr7, h⟩ := obind_some h
  refine ot rfl rfl (t_callx (vs := [l_0v, parents_1v, delays_2v]) (cs := []) [(0, 0), (1, 0), (2, 0)] rfl Tryz.call17 rfl (playlist_Spread_ok n l_0 parents_1 delays_2 l_0v parents_1v delays_2v hr7) (showsX_view 0 rfl views_ro (showsX_view 1 rfl views_ro (showsX_view 2 rfl views_nro showsX_nil))) rfl (.inl rfl)) ?_
  rintro _ _ ⟨_, ⟨v8, rfl, rfl⟩, rfl⟩
  refine oy rfl rfl (y_move rfl) ?_
  refine oy rfl rfl (y_extract rfl rfl) ?_
  refine oy rfl rfl (y_extract rfl rfl) ?_
  refine oy rfl rfl (y_assign rfl) ?_
  refine oy rfl rfl (y_assign rfl) ?_
  refine ops_nil ?_
  refine goes_code ?_
  refine run_seq ?_
  refine run_weak [(0, l_0v), (1, parents_1v), (2, delays_2v), (3, .int .i64 t_3), (4, .int .i64 window_4), (11, v8), (12, .int .i64 r6.2)] [0, 1, 2, 3, 4] [ro l_0v 20 (l_0.map S_api_Segment.enc), ro parents_1v 1 (parents_1.map (eInt .i64)), nro delays_2v NC_L_int_43 delays_2, globA, nrow v8 NC_L_int_43 r6.1] (qv7 rfl rfl rfl rfl rfl rfl rfl) (by decide) rfl ?_
  refine run_region' ?_
  refine oy rfl rfl (y_move rfl) ?_
  refine oy rfl rfl (y_move rfl) ?_
  refine oy rfl rfl (y_move rfl) ?_
  obtain ⟨r9, hr10, h⟩ := obind_some h
  refine ot rfl rfl (t_callx (vs := [l_0v, parents_1v, delays_2v]) (cs := []) [(0, 0), (1, 0), (2, 0)] rfl Tryz.call18 rfl (ref43_Spread_ok n l_0 parents_1 delays_2 l_0v parents_1v delays_2v hr10) (showsX_view 0 rfl views_ro (showsX_view 1 rfl views_ro (showsX_view 2 rfl views_nro showsX_nil))) rfl (.inl rfl)) ?_
  rintro _ _ ⟨_, ⟨v11, rfl, rfl⟩, rfl⟩
  refine ot rfl rfl (t_alloc Tryz.zeroValue49) ?_
  rintro _ _ ⟨b12, rfl, rfl⟩
  refine ops_slcN 5 rfl readsN_row (fun hs13 hs13o => ?_)
  refine ot rfl rfl (t_store 6 Tryz.sizeOf49 rfl rfl rfl rfl (by simp [Value.cells, boxP]) (allL_cons hs13o (allL_cons rfl (allL_nil)))) ?_
  rintro _ _ ⟨rfl, rfl⟩
  refine ops_turn (retell 6 (g := box b12 [v11, .int .i64 r9.E]) rfl rfl) ?_
  refine ops_nil ?_
  refine goes_code ?_
  refine run_seq ?_
  refine run_seq ?_
  refine run_region' ?_
  refine oy rfl rfl (y_move rfl) ?_
  refine oy rfl rfl (y_fieldAddr_box (sz := 0) Tryz.runUnderlying49 rfl Tryz.sizeOf27 rfl) ?_
  refine oy rfl rfl (y_load_box 6 Tryz.isAgg27 rfl rfl rfl) ?_
  refine oy rfl rfl (y_neq rfl rfl) ?_
  refine oy rfl rfl (y_move rfl) ?_
  obtain ⟨o15, h, ho16⟩ := bindJ_some h
  refine ops_cut 6 (Bool) (fun σ => [(0, l_0v), (3, .int .i64 t_3), (4, .int .i64 window_4), (11, v8), (12, .int .i64 r6.2), (43, .bool σ)]) (fun σ => [ro l_0v 20 (l_0.map S_api_Segment.enc), globA, nrow v8 NC_L_int_43 r6.1]) (fun σ => o15 = .go σ) (fun L17 hL18 => ?_) ?_
  ·refine ops_split 37 (decide (r6.2 ≠ r9.E)) rfl (fun hg19 => ?_) (fun hg19 => ?_)
   ·replace h := cond_t h hg19
    refine ops_no 4 false 37 rfl rfl rfl rfl rfl ?_
    refine ops_no 4 false 37 rfl rfl rfl rfl rfl ?_
    refine ops_no 4 false 37 rfl rfl rfl rfl rfl ?_
    refine ops_no 4 false 37 rfl rfl rfl rfl rfl ?_
    refine ops_weak [(0, l_0v), (3, .int .i64 t_3), (4, .int .i64 window_4), (11, v8), (12, .int .i64 r6.2), (37, .bool true), (41, undef)] [0, 3, 4] [ro l_0v 20 (l_0.map S_api_Segment.enc), globA, nrow v8 NC_L_int_43 r6.1] (qv7 rfl rfl rfl rfl rfl rfl rfl) (by decide) rfl ?_
    refine ops_no 4 false 37 rfl rfl rfl rfl rfl ?_
    refine oy rfl rfl (y_pick (b := true) rfl rfl) ?_
    refine ops_nil ?_
    obtain rfl := some_eq h
    exact goes_cut hL18 true [0, 1, 2] (qv6 rfl rfl rfl rfl rfl rfl) (by decide) rfl rfl
   ·replace h := cond_f h hg19
    refine ops_y (wg 4 false 37 rfl rfl rfl rfl) rfl (y_move rfl) ?_
    refine ops_y (wg 4 false 37 rfl rfl rfl rfl) rfl (y_fieldAddr_box (sz := 0) Tryz.runUnderlying49 rfl Tryz.sizeOf44 rfl) ?_
    refine ops_y (wg 4 false 37 rfl rfl rfl rfl) rfl (y_load_box 6 Tryz.isAgg44 rfl rfl rfl) ?_
    obtain ⟨r20, hr21, h⟩ := obind_some h
    refine ops_t (wg 4 false 37 rfl rfl rfl rfl) rfl (t_callx (vs := [v8, v11]) (cs := []) [(4, 1), (5, 1)] rfl Tryz.call19 rfl (ref43_SameTimes_ok n r6.1 r9.L v8 v11 hr21) (showsX_look 4 rfl views_nrow (showsX_look 5 rfl views_nrow showsX_nil)) rfl (.inr (by rintro _ _ ⟨rfl, rfl⟩ g hg; first | (cases hg; done) | (simp only [List.mem_cons, List.not_mem_nil, or_false] at hg; first | (subst hg; first | exact strict_row | exact strict_box) | (rcases hg with rfl | rfl <;> first | exact strict_row | exact strict_box) | (rcases hg with rfl | rfl | rfl <;> first | exact strict_row | exact strict_box))))) ?_
    rintro _ _ ⟨_, ⟨rfl, rfl⟩, rfl⟩
    refine ops_weak [(0, l_0v), (3, .int .i64 t_3), (4, .int .i64 window_4), (11, v8), (12, .int .i64 r6.2), (37, .bool false), (41, .bool r20)] [0, 3, 4] [ro l_0v 20 (l_0.map S_api_Segment.enc), globA, nrow v8 NC_L_int_43 r6.1] (qv7 rfl rfl rfl rfl rfl rfl rfl) (by decide) rfl ?_
    refine ops_y (wg 4 false 37 rfl rfl rfl rfl) rfl (y_not rfl) ?_
    refine oy rfl rfl (y_pick (b := false) rfl rfl) ?_
    refine ops_nil ?_
    obtain rfl := some_eq h
    exact goes_cut hL18 (!r20) [0, 1, 2] (qv6 rfl rfl rfl rfl rfl rfl) (by decide) rfl rfl
  rintro b14 hj
  obtain rfl : o15 = _ := hj
  replace h := after_go ho16
  clear ho16
  refine ops_nil ?_
  refine goes_code ?_
  refine run_cond b14 rfl (fun hc22 => ?_) (fun hc22 => ?_)
  ·replace h := cond_t h hc22
   refine run_seq ?_
   refine run_region' ?_
   refine oy rfl rfl (y_assign rfl) ?_
   refine ops_nil ?_
   refine goes_code ?_
   refine run_ret ?_
   obtain rfl := some_eq h
   refine fin_slots [10] [.bool false] [] [] Tryz.results5 rfl (by decide) rfl ?_
   exact ⟨rfl, rfl⟩
  ·replace h := cond_f h hc22
   refine run_skip ?_
   refine goes_code ?_
   refine run_seq ?_
   refine run_seq ?_
   refine run_region' ?_
   refine oy rfl rfl (y_move rfl) ?_
   refine oy rfl rfl (y_neq rfl rfl) ?_
   refine oy rfl rfl (y_move rfl) ?_
   refine ops_cut 3 (Bool) (fun σ => [(0, l_0v), (3, .int .i64 t_3), (4, .int .i64 window_4), (11, v8), (49, .bool σ)]) (fun σ => [ro l_0v 20 (l_0.map S_api_Segment.enc), globA, nrow v8 NC_L_int_43 r6.1]) (fun σ => σ = (decide (r6.2 ≠ 0) || decide (window_4 < 1))) (fun L23 hL24 => ?_) ?_
   ·refine ops_split 46 (decide (r6.2 ≠ 0)) rfl (fun hg25 => ?_) (fun hg25 => ?_)
    ·skip
     refine ops_no 2 false 46 rfl rfl rfl rfl rfl ?_
     refine ops_no 2 false 46 rfl rfl rfl rfl rfl ?_
     refine oy rfl rfl (y_pick (b := true) rfl rfl) ?_
     refine ops_nil ?_
     exact goes_cut hL24 true [0, 1, 2] (qv5 rfl rfl rfl rfl rfl) (by decide) rfl (by rw [hg25]; simp)
    ·skip
     refine ops_y (wg 2 false 46 rfl rfl rfl rfl) rfl (y_move rfl) ?_
     refine ops_y (wg 2 false 46 rfl rfl rfl rfl) rfl (y_lss rfl rfl) ?_
     refine oy rfl rfl (y_pick (b := false) rfl rfl) ?_
     refine ops_nil ?_
     exact goes_cut hL24 (decide (window_4 < 1)) [0, 1, 2] (qv5 rfl rfl rfl rfl rfl) (by decide) rfl (by rw [hg25]; simp)
   rintro _ rfl
   refine oy rfl rfl (y_move rfl) ?_
   refine ops_cut 3 (Bool) (fun σ => [(0, l_0v), (3, .int .i64 t_3), (4, .int .i64 window_4), (11, v8), (53, .bool σ)]) (fun σ => [ro l_0v 20 (l_0.map S_api_Segment.enc), globA, nrow v8 NC_L_int_43 r6.1]) (fun σ => σ = ((decide (r6.2 ≠ 0) || decide (window_4 < 1)) || decide (100 < window_4))) (fun L26 hL27 => ?_) ?_
   ·refine ops_split 50 (decide (r6.2 ≠ 0) || decide (window_4 < 1)) rfl (fun hg28 => ?_) (fun hg28 => ?_)
    ·skip
     refine ops_no 6 false 50 rfl rfl rfl rfl rfl ?_
     refine ops_no 6 false 50 rfl rfl rfl rfl rfl ?_
     refine oy rfl rfl (y_pick (b := true) rfl rfl) ?_
     refine ops_nil ?_
     exact goes_cut hL27 true [0, 1, 2] (qv5 rfl rfl rfl rfl rfl) (by decide) rfl (by rw [hg28]; simp)
    ·skip
     refine ops_y (wg 6 false 50 rfl rfl rfl rfl) rfl (y_move rfl) ?_
     refine ops_y (wg 6 false 50 rfl rfl rfl rfl) rfl (y_gtr rfl rfl) ?_
     refine oy rfl rfl (y_pick (b := false) rfl rfl) ?_
     refine ops_nil ?_
     exact goes_cut hL27 (decide (100 < window_4)) [0, 1, 2] (qv5 rfl rfl rfl rfl rfl) (by decide) rfl (by rw [hg28]; simp)
   rintro _ rfl
   refine ops_nil ?_
   refine goes_code ?_
   refine run_cond ((decide (r6.2 ≠ 0) || decide (window_4 < 1)) || decide (100 < window_4)) rfl (fun hc29 => ?_) (fun hc29 => ?_)
   ·replace h := cond_t h hc29
    refine run_seq ?_
    refine run_region' ?_
    obtain ⟨r30, hr31, h⟩ := obind_some h
    refine ot rfl rfl (t_callx (vs := []) (cs := []) [(1, 0)] rfl Tryz.call8 rfl (law43_sanity_ok n   hr31) (showsX_view 1 rfl views_glob showsX_nil) rfl (.inl rfl)) ?_
    rintro _ _ ⟨_, ⟨rfl, rfl⟩, rfl⟩
    refine oy rfl rfl (y_assign rfl) ?_
    refine ops_nil ?_
    refine goes_code ?_
    refine run_ret ?_
    obtain rfl := some_eq h
    refine fin_slots [10] [.bool r30] [] [] Tryz.results5 rfl (by decide) rfl ?_
    exact ⟨rfl, rfl⟩
   ·replace h := cond_f h hc29
    refine run_skip ?_
    refine goes_code ?_
    obtain ⟨o32, h, ho33⟩ := bindJ_some h
    refine run_cut ((Unit) × (Unit)) (fun σ => []) (fun σ => [globA]) (fun σ => o32 = .go σ.1) (fun L35 hL34 => ?_) ?_
    ·
     refine run_seq ?_
     refine run_region' ?_
     refine oy rfl rfl (y_move rfl) ?_
     refine oy rfl rfl (y_lenN 2 rfl Tryz.runUnderlying44 rfl rfl readsN_row) ?_
     refine oy rfl rfl (y_move rfl) ?_
     refine ops_nil ?_
     refine goes_code ?_
     refine run_block ?_
     refine run_iter (step := law43_PlaylistSpreadsAsSpecified_L1 n l_0 t_3 window_4 r6) (n := n) (s0 := 0) h (G := Unit) () (fun σ γ => [(57, .int .i64 σ), (0, l_0v), (3, .int .i64 t_3), (4, .int .i64 window_4), (55, v8), (56, .int .i64 (r6.1.length : Int))]) (fun σ γ => [ro l_0v 20 (l_0.map S_api_Segment.enc), nrow v8 NC_L_int_43 r6.1, globA]) [0, 2, 1] (qv6 rfl rfl rfl rfl rfl rfl) (by decide) rfl ?_
     rintro s_36 _ o37 h L40 hgo38 hstop39
     change Run _ _ _ (VF.of [(57, .int .i64 s_36), (0, l_0v), (3, .int .i64 t_3), (4, .int .i64 window_4), (55, v8), (56, .int .i64 (r6.1.length : Int))]) [ro l_0v 20 (l_0.map S_api_Segment.enc), nrow v8 NC_L_int_43 r6.1, globA]
     refine run_seq ?_
     refine run_region' ?_
     refine oy rfl rfl (y_lss rfl rfl) ?_
     refine ops_nil ?_
     refine goes_code ?_
     refine run_seq ?_
     refine run_cond (decide (s_36 < (r6.1.length : Int))) rfl (fun hc41 => ?_) (fun hc41 => ?_)
     ·replace h := cond_t h hc41
      refine run_skip ?_
      refine goes_code ?_
      refine run_seq ?_
      refine run_block ?_
      refine run_seq ?_
      refine run_region' ?_
      obtain ⟨x42, hzx42, hlx42, hxx42, h⟩ := idx_some h
      refine oy rfl rfl (y_indexAddrN (kd := .i64) (i := s_36) 1 Tryz.runUnderlying44 Tryz.sizeOf43 rfl rfl rfl readsN_row hzx42 hlx42) ?_
      refine ot rfl rfl (t_loadNf (C := NC_L_int_43) (i := s_36.toNat) (j := 0) 1 (fun γ => γ) Tryz.isAgg43 rfl rfl hxx42 (fun _ => rfl)) ?_
      rintro g43 _ ⟨_, rfl, rfl⟩
      refine oy rfl rfl (y_assign rfl) ?_
      refine ops_nil ?_
      refine goes_code ?_
      refine run_seq ?_
      refine run_region' ?_
      refine oy rfl rfl (y_move rfl) ?_
      refine oy rfl rfl (y_move rfl) ?_
      refine oy rfl rfl (y_move rfl) ?_
      refine oy rfl rfl (y_move rfl) ?_
      obtain ⟨r44, hr45, h⟩ := obind_some h
      refine ot rfl rfl (t_callx (vs := [l_0v, g43, .int .i64 t_3, .int .i64 window_4]) (cs := []) [(0, 0), (3, 0)] rfl Tryz.call20 rfl (playlist_Seen_ok n l_0 x42 t_3 window_4 l_0v g43 hr45) (showsX_view 0 rfl views_ro (showsX_view 3 rfl views_ro showsX_nil)) rfl (.inl rfl)) ?_
      rintro _ _ ⟨_, ⟨v46, rfl, rfl⟩, rfl⟩
      refine oy rfl rfl (y_move rfl) ?_
      refine oy rfl rfl (y_move rfl) ?_
      refine oy rfl rfl (y_move rfl) ?_
      refine oy rfl rfl (y_move rfl) ?_
      obtain ⟨r47, hr48, h⟩ := obind_some h
      refine ot rfl rfl (t_callx (vs := [l_0v, g43, .int .i64 t_3, .int .i64 window_4]) (cs := []) [(0, 0), (3, 0)] rfl Tryz.call21 rfl (ref43_Seen_ok n l_0 x42 t_3 window_4 l_0v g43 hr48) (showsX_view 0 rfl views_ro (showsX_view 3 rfl views_ro showsX_nil)) rfl (.inl rfl)) ?_
      rintro _ _ ⟨_, ⟨v49, rfl, rfl⟩, rfl⟩
      obtain ⟨r50, hr51, h⟩ := obind_some h
      refine ot rfl rfl (t_callx (vs := [.agg #[.int .i64 r44.First, v46, .bool r44.Done], .agg #[.int .i64 r47.First, v49, .bool r47.Done]]) (cs := []) [(4, 0), (5, 0)] rfl Tryz.call11 rfl (ref43_Same_ok n r44 r47 v46 v49 hr51) (showsX_view 4 rfl views_ro (showsX_view 5 rfl views_ro showsX_nil)) rfl (.inl rfl)) ?_
      rintro _ _ ⟨_, ⟨rfl, rfl⟩, rfl⟩
      refine oy rfl rfl (y_not rfl) ?_
      refine ops_nil ?_
      refine goes_code ?_
      refine run_cond (!r50) rfl (fun hc52 => ?_) (fun hc52 => ?_)
      ·replace h := cond_t h hc52
       refine run_seq ?_
       refine run_weak [] [2] [globA] vnil (by decide) rfl ?_
       refine run_region' ?_
       refine oy rfl rfl (y_assign rfl) ?_
       refine ops_nil ?_
       refine goes_code ?_
       refine run_ret ?_
       obtain rfl := some_eq h
       obtain rfl := hstop39 _ rfl
       skip
       obtain rfl := after_stop ho33
       refine fin_slots [10] [.bool false] [] [] Tryz.results5 rfl (by decide) rfl ?_
       exact ⟨rfl, rfl⟩
      ·replace h := cond_f h hc52
       refine run_skip ?_
       refine goes_blk ?_
       refine goes_code ?_
       refine run_weak [(57, .int .i64 s_36), (0, l_0v), (3, .int .i64 t_3), (4, .int .i64 window_4), (55, v8), (56, .int .i64 (r6.1.length : Int))] [0, 1, 2] [ro l_0v 20 (l_0.map S_api_Segment.enc), nrow v8 NC_L_int_43 r6.1, globA] (qv6 rfl rfl rfl rfl rfl rfl) (by decide) rfl ?_
       refine run_region' ?_
       refine oy rfl rfl (y_add rfl rfl) ?_
       refine oy rfl rfl (y_move rfl) ?_
       refine ops_nil ?_
       obtain rfl := some_eq h
       exact goes_iter hgo38 (IntKind.i64.wrap (s_36 + 1)) () [0, 1, 2] rfl (qv6 rfl rfl rfl rfl rfl rfl) (by decide) rfl
     ·replace h := cond_f h hc41
      refine run_exit _ rfl ?_
      obtain rfl := some_eq h
      obtain rfl := hstop39 _ rfl
      exact goes_cut hL34 ((), ()) [2] vnil (by decide) rfl rfl
    rintro ⟨_, _⟩ hj
    obtain rfl : o32 = _ := hj
    replace h := after_go ho33
    clear ho33
    change Run _ _ _ (VF.of []) [globA]
    refine run_seq ?_
    refine run_region' ?_
    obtain ⟨r53, hr54, h⟩ := obind_some h
    refine ot rfl rfl (t_callx (vs := []) (cs := []) [(0, 0)] rfl Tryz.call8 rfl (law43_sanity_ok n   hr54) (showsX_view 0 rfl views_glob showsX_nil) rfl (.inl rfl)) ?_
    rintro _ _ ⟨_, ⟨rfl, rfl⟩, rfl⟩
    refine oy rfl rfl (y_assign rfl) ?_
    refine ops_nil ?_
    refine goes_code ?_
    refine run_ret ?_
    obtain rfl := some_eq h
    refine fin_slots [10] [.bool r53] [] [] Tryz.results5 rfl (by decide) rfl ?_
    exact ⟨rfl, rfl⟩

end Go.Proofs.YtbgpojdmdnkeaaaGreatDoor
namespace Go.Proofs.YtbgpojdmdnkeaaaGreatDoor
open Go.Abs
set_option linter.unusedSimpArgs false
set_option linter.unusedVariables false
theorem gl_app {x : List (List Int)} {a : List Int} {j : Nat} (h : j < x.length) : gl (x ++ [a]) j = gl x j := by unfold gl; rw [List.getElem?_append_left h]
theorem gl_new {x : List (List Int)} {a : List Int} : gl (x ++ [a]) x.length = a := by unfold gl; simp
theorem gi_app {x : List Int} {a : Int} {j : Nat} (h : j < x.length) : gi (x ++ [a]) j = gi x j := by unfold gi; rw [List.getElem?_append_left h]
theorem gi_new {x : List Int} {a : Int} : gi (x ++ [a]) x.length = a := by unfold gi; simp
theorem spr_uniq {l : List S_api_Segment} {parents : List Int} {delays a b : List (List Int)} (hT : ∀ k, 1 ≤ k → k < parents.length → TreeAt l.length parents delays k) (hp : 1 ≤ parents.length) (ha : Spr l parents delays a) (hb : Spr l parents delays b) : a = b := by
  have e : ∀ k, k < parents.length → gl a k = gl b k := by
    intro k
    induction k using Nat.strongRecOn with
    | _ k ih =>
      intro hk
      by_cases h0 : k = 0
      · subst h0; exact ha.2.1.uniq hb.2.1
      · have t := hT k (by omega) hk
        have h1 := ha.2.2 k (by omega) hk
        have h2 := hb.2.2 k (by omega) hk
        have := ih (gi parents k).toNat (by have := t.1; have := t.2.1; omega) (by have := t.1; have := t.2.1; omega)
        rw [this] at h1
        exact h1.uniq h2
  apply List.ext_getElem (ha.1.trans hb.1.symm)
  intro i h1 h2
  have := e i (by rw [← ha.1]; exact h1)
  unfold gl at this
  rw [List.getElem?_eq_getElem h1, List.getElem?_eq_getElem h2] at this
  exact this
theorem rtree_in (N : Nat) (hN : N ≤ 1000) (delays : List (List Int)) (k : Nat) (hk : k < delays.length) (hl : (gl delays k).length = N) (n : Nat) (hn : 1000 < n) :
    (iter (ref43_tree_L2 (N : Int) delays (k : Int)) n 0 = some (.go ()) ∧ ∀ d ∈ gl delays k, 0 ≤ d ∧ d ≤ 1099511627776) ∨ (iter (ref43_tree_L2 (N : Int) delays (k : Int)) n 0 = some (.stop (.stop (.stop false))) ∧ ¬ ∀ d ∈ gl delays k, 0 ≤ d ∧ d ≤ 1099511627776) := by
  obtain ⟨r, e, h⟩ := iter_inv (step := ref43_tree_L2 (N : Int) delays (k : Int)) (fun s => ∃ i : Nat, s = (i : Int) ∧ i ≤ N ∧ ∀ j, j < i → 0 ≤ gi (gl delays k) j ∧ gi (gl delays k) j ≤ 1099511627776) (fun s => N - s.toNat)
    (fun r => (r = .go () ∧ ∀ d ∈ gl delays k, 0 ≤ d ∧ d ≤ 1099511627776) ∨ (r = .stop (.stop (.stop false)) ∧ ¬ ∀ d ∈ gl delays k, 0 ≤ d ∧ d ≤ 1099511627776)) (by
    rintro s ⟨i, rfl, hi, hj⟩
    unfold ref43_tree_L2
    by_cases hlt : i < N
    · rw [decide_eq_true (by omega), cond_true, idx_get (gl_at hk), idx_get (gi_at (by omega))]
      by_cases hb : gi (gl delays k) i < 0 ∨ 1099511627776 < gi (gl delays k) i
      · rw [show (decide (gi (gl delays k) i < 0) || decide (1099511627776 < gi (gl delays k) i)) = true by simp only [Bool.or_eq_true, decide_eq_true_eq]; exact hb, cond_true]
        refine .inr ⟨_, rfl, .inr ⟨rfl, fun q => ?_⟩⟩
        have := q (gi (gl delays k) i) (by rw [gi_get (by omega)]; exact List.getElem_mem _)
        omega
      · rw [show (decide (gi (gl delays k) i < 0) || decide (1099511627776 < gi (gl delays k) i)) = false by rw [Bool.eq_false_iff]; intro h; simp only [Bool.or_eq_true, decide_eq_true_eq] at h; exact hb h, cond_false, w64 (by omega) (by omega)]
        refine .inl ⟨((i + 1 : Nat) : Int), rfl, ⟨i + 1, rfl, by omega, fun j a => ?_⟩, by simp; omega⟩
        by_cases ej : j = i
        · subst ej; omega
        · exact hj j (by omega)
    · rw [decide_eq_false (by omega), cond_false]
      refine .inr ⟨_, rfl, .inl ⟨rfl, fun d hd => ?_⟩⟩
      obtain ⟨j, a, rfl⟩ := List.getElem_of_mem hd
      have := hj j (by omega)
      rwa [gi_get a] at this) n 0 ⟨0, rfl, by omega, fun j a => by omega⟩ (by simp; omega)
  rcases h with ⟨rfl, h⟩ | ⟨rfl, h⟩
  · exact .inl ⟨e, h⟩
  · exact .inr ⟨e, h⟩
open Classical in
theorem rtree_eq (N : Nat) (hN : N ≤ 1000) (parents : List Int) (delays : List (List Int)) (hdl : ∀ d ∈ delays, d.length ≤ 1000000) (n : Nat) (hn : 2000000 < n) : ref43_tree n (N : Int) parents delays = some (decide (Tree N parents delays)) := by
  unfold ref43_tree
  by_cases hc : parents.length < 1 ∨ 100 < parents.length ∨ delays.length ≠ parents.length
  · have e : ((decide ((parents.length : Int) < 1) || decide (100 < (parents.length : Int))) || decide ((delays.length : Int) ≠ (parents.length : Int))) = true := by
      simp only [Bool.or_eq_true, decide_eq_true_eq]; omega
    rw [e, cond_true, decide_eq_false (fun h => by obtain ⟨a, b, c, _⟩ := h; omega)]
  · have e : ((decide ((parents.length : Int) < 1) || decide (100 < (parents.length : Int))) || decide ((delays.length : Int) ≠ (parents.length : Int))) = false := by
      rw [Bool.eq_false_iff]; intro h; simp only [Bool.or_eq_true, decide_eq_true_eq] at h; omega
    rw [e, cond_false]
    have hd : delays.length = parents.length := by omega
    obtain ⟨r, e2, h⟩ := iter_inv (step := ref43_tree_L1 n (N : Int) parents delays) (fun s => ∃ k : Nat, s = (k : Int) ∧ 1 ≤ k ∧ k ≤ parents.length ∧ ∀ j, 1 ≤ j → j < k → TreeAt N parents delays j) (fun s => parents.length - s.toNat)
      (fun r => (r = .go () ∧ ∀ k, 1 ≤ k → k < parents.length → TreeAt N parents delays k) ∨ (r = .stop false ∧ ¬ ∀ k, 1 ≤ k → k < parents.length → TreeAt N parents delays k)) (by
      rintro s ⟨k, rfl, hk1, hk, hj⟩
      unfold ref43_tree_L1
      by_cases hlt : k < parents.length
      · rw [decide_eq_true (by omega), cond_true, idx_get (gi_at hlt)]
        have bad : ¬ TreeAt N parents delays k → ¬ ∀ k, 1 ≤ k → k < parents.length → TreeAt N parents delays k := fun h q => h (q k hk1 hlt)
        by_cases hr : gi parents k < 0 ∨ (k : Int) ≤ gi parents k
        · rw [show (decide (gi parents k < 0) || decide ((k : Int) ≤ gi parents k)) = true by simp only [Bool.or_eq_true, decide_eq_true_eq]; exact hr]
          exact .inr ⟨_, rfl, .inr ⟨rfl, bad fun q => by have := q.1; have := q.2.1; omega⟩⟩
        · rw [show (decide (gi parents k < 0) || decide ((k : Int) ≤ gi parents k)) = false by rw [Bool.eq_false_iff]; intro h; simp only [Bool.or_eq_true, decide_eq_true_eq] at h; exact hr h]
          have hkd : k < delays.length := by omega
          simp only [cond_false]
          rw [idx_get (gl_at hkd)]
          simp only [bindJ_go]
          by_cases hq : (gl delays k).length = N
          · rw [decide_eq_false (show ¬ ((gl delays k).length : Int) ≠ (N : Int) by omega), cond_false]
            rcases rtree_in N hN delays k hkd hq n (by omega) with ⟨h1, h2⟩ | ⟨h1, h2⟩
            · rw [h1, bindJ_go, w64 (by omega) (by omega)]
              refine .inl ⟨((k + 1 : Nat) : Int), rfl, ⟨k + 1, rfl, by omega, by omega, fun j a b => ?_⟩, by simp; omega⟩
              by_cases ej : j = k
              · subst ej; exact ⟨by omega, by omega, hq, h2⟩
              · exact hj j a (by omega)
            · rw [h1]
              exact .inr ⟨_, rfl, .inr ⟨rfl, bad fun q => h2 q.2.2.2⟩⟩
          · rw [decide_eq_true (show ((gl delays k).length : Int) ≠ (N : Int) by omega)]
            exact .inr ⟨_, rfl, .inr ⟨rfl, bad fun q => hq q.2.2.1⟩⟩
      · rw [decide_eq_false (by omega), cond_false]
        obtain rfl : k = parents.length := by omega
        exact .inr ⟨_, rfl, .inl ⟨rfl, hj⟩⟩) n 1 ⟨1, rfl, by omega, by omega, fun j a b => by omega⟩ (by simp; omega)
    rw [e2]
    rcases h with ⟨rfl, h⟩ | ⟨rfl, h⟩
    · rw [bindJ_go, decide_eq_true (show Tree N parents delays from ⟨by omega, by omega, hd, h⟩)]
    · rw [bindJ_stop, decide_eq_false (fun q => h q.2.2.2)]
def rowF (l : List S_api_Segment) (parents : List Int) (delays x : List (List Int)) (k : Nat) (i : Nat) : Int := if k = 0 then sEnd l i else gi (gl x (gi parents k).toNat) i + gi (gl delays k) i
theorem rspread_in (l : List S_api_Segment) (hs : Strm l) (hl : l.length ≤ 1000) (parents : List Int) (delays x : List (List Int)) (hd : delays.length = parents.length) (k : Nat) (hk : k < parents.length) (hx : x.length = k) (hk100 : k ≤ 100)
    (hT : ∀ k, 1 ≤ k → k < parents.length → TreeAt l.length parents delays k) (hS : 1 ≤ k → SprTo l parents delays x k) (n : Nat) (hn : 1000 < n) :
    ∃ a, iter (ref43_Spread_L2 l parents delays (k : Int) x) n ([], 0) = some (.go a) ∧ Pmx (rowF l parents delays x k) a l.length := by
  obtain ⟨r, e, a, rfl, h⟩ := iter_inv (step := ref43_Spread_L2 l parents delays (k : Int) x) (fun s => ∃ (i : Nat) (a : List Int), s = (a, (i : Int)) ∧ i ≤ l.length ∧ Pmx (rowF l parents delays x k) a i) (fun s => l.length - s.2.toNat) (fun r => ∃ a, r = .go a ∧ Pmx (rowF l parents delays x k) a l.length) (by
    rintro s ⟨i, a, rfl, hi, h1, h2, h3⟩
    unfold ref43_Spread_L2
    by_cases hlt : i < l.length
    · simp only
      rw [decide_eq_true (by omega), cond_true, idx_get' hlt]
      have step : (bindJ (S := Int) (R := Lp (List Int × Int) (Lp (List Int) (Lp (Int × List (List Int)) (Lp (List (List Int)) S_ref43_Times)))) (cond (decide (0 < (k : Int))) (idx parents (k : Int) fun x51 => idx x x51 fun x52 => idx x52 (i : Int) fun x54 => idx delays (k : Int) fun x55 => idx x55 (i : Int) fun x57 => some (.go (IntKind.i64.wrap (x54 + x57)))) (some (.go (IntKind.i64.wrap (l[i].Begin + l[i].Len))))) = fun q => q (rowF l parents delays x k i)) := by
        funext q
        by_cases h0 : k = 0
        · subst h0
          have := sEnd_bounds hs hlt
          rw [decide_eq_false (by omega), cond_false, ← sEnd_at hlt, w64 (by omega) (by omega)]
          rfl
        · have t := hT k (by omega) hk
          obtain ⟨t1, t2, t3, t4⟩ := t
          rw [decide_eq_true (by omega), cond_true, idx_get (gi_at hk)]
          have hS' := hS (by omega)
          have hb := spr_bounds hs (fun j a b => hT j a (by omega)) hS' (gi parents k).toNat (by omega) i hlt
          have hlen : (gl x (gi parents k).toNat).length = l.length := by
            by_cases e0 : (gi parents k).toNat = 0
            · rw [e0]; exact hS'.1.1
            · exact (hS'.2 _ (by omega) (by omega)).1
          have hdm := t4 (gi (gl delays k) i) (by rw [gi_get (by omega)]; exact List.getElem_mem _)
          have ix : ∀ q : List Int → Option (Lp Int (Lp (List Int × Int) (Lp (List Int) (Lp (Int × List (List Int)) (Lp (List (List Int)) S_ref43_Times))))), idx x (gi parents k) q = q (gl x (gi parents k).toNat) := fun q => by
            have := idx_get (gl_at (a := x) (k := (gi parents k).toNat) (by omega)) q
            rwa [show (((gi parents k).toNat : Nat) : Int) = gi parents k by omega] at this
          rw [ix, idx_get (gi_at (by omega)), idx_get (gl_at (by omega)), idx_get (gi_at (by omega)), w64 (by omega) (by omega), bindJ_go]
          unfold rowF
          rw [if_neg h0]
      rw [step]
      simp only
      left
      by_cases hz : i = 0
      · subst hz
        rw [decide_eq_false (by omega), cond_false, bindJ_go, need_pos (by simp; omega), w64 (by omega) (by omega)]
        obtain rfl : a = [] := List.length_eq_zero_iff.1 h1
        exact ⟨_, rfl, ⟨1, _, rfl, by omega, rfl, fun _ => rfl, fun j hj => by omega⟩, by simp; omega⟩
      · rw [decide_eq_true (by omega), cond_true, w64 (x := (i : Int) - 1) (by omega) (by omega), show (i : Int) - 1 = ((i - 1 : Nat) : Int) by omega, idx_get (gi_at (l := a) (i := i - 1) (by omega)), bindJ_go, need_pos (by simp; omega), w64 (by omega) (by omega)]
        refine ⟨_, rfl, ⟨i + 1, _, rfl, by omega, by simp [h1], fun _ => ?_, fun j hj => ?_⟩, by simp; omega⟩
        · rw [gi_app (by omega)]; exact h2 (by omega)
        · by_cases ej : j + 1 = i
          · rw [ej, gi_app (j := j) (by omega)]
            have := gi_new (x := a) (a := max (rowF l parents delays x k i) (gi a (i - 1)))
            rw [h1] at this
            rw [this, show i - 1 = j by omega]
          · rw [gi_app (by omega), gi_app (by omega)]; exact h3 j (by omega)
    · obtain rfl : i = l.length := by omega
      right
      exact ⟨.go a, by simp only [decide_eq_false (show ¬ ((l.length : Int) < (l.length : Int)) by omega), cond_false], a, rfl, h1, h2, h3⟩) n ([], 0) ⟨0, [], rfl, by omega, rfl, fun h => by omega, fun j h => by omega⟩ (by simp; omega)
  exact ⟨a, e, h⟩
open Classical in
theorem rspread_eq (l : List S_api_Segment) (hl : l.length ≤ 1000) (parents : List Int) (delays : List (List Int)) (hdl : ∀ d ∈ delays, d.length ≤ 1000000) (n : Nat) (hn : 2000000 < n) :
    ∃ r, ref43_Spread n l parents delays = some r ∧ ((r.E = 0 ∧ Strm l ∧ Tree l.length parents delays ∧ Spr l parents delays r.L) ∨ (r = ⟨[], 1⟩ ∧ ¬ (Strm l ∧ Tree l.length parents delays))) := by
  unfold ref43_Spread
  rw [rstream_eq l (by omega) n (by omega)]
  simp only [obind, Option.bind_some]
  by_cases hs : Strm l
  · rw [decide_eq_true (show Strm l ∧ l.length ≤ 1000 from ⟨hs, hl⟩)]
    simp only [Bool.not_true, cond_false]
    rw [rtree_eq l.length hl parents delays hdl n hn]
    simp only [Option.bind_some, bindJ_go]
    by_cases hT : Tree l.length parents delays
    · rw [decide_eq_true hT]
      simp only [Bool.not_true, cond_false]
      obtain ⟨t1, t2, t3, t4⟩ := hT
      obtain ⟨r, e, o, rfl, h⟩ := iter_inv (step := ref43_Spread_L1 n l parents delays) (fun s => ∃ (k : Nat) (x : List (List Int)), s = ((k : Int), x) ∧ k ≤ parents.length ∧ x.length = k ∧ (1 ≤ k → SprTo l parents delays x k)) (fun s => parents.length - s.1.toNat) (fun r => ∃ o, r = .go o ∧ Spr l parents delays o) (by
        rintro s ⟨k, x, rfl, hk, hx, hS⟩
        unfold ref43_Spread_L1
        by_cases hlt : k < parents.length
        · simp only
          rw [decide_eq_true (by omega), cond_true]
          obtain ⟨a, e, ha⟩ := rspread_in l hs hl parents delays x t3 k hlt hx (by omega) t4 hS n (by omega)
          rw [e, bindJ_go, need_pos (by simp; omega), w64 (by omega) (by omega)]
          refine .inl ⟨_, rfl, ⟨k + 1, _, rfl, by omega, by simp [hx], fun _ => ⟨?_, fun j h1 h2 => ?_⟩⟩, by simp; omega⟩
          · by_cases h0 : k = 0
            · subst h0
              obtain rfl : x = [] := List.length_eq_zero_iff.1 hx
              exact ha
            · rw [gl_app (by omega)]; exact (hS (by omega)).1
          · have tj := t4 j h1 (by omega)
            have tj1 := tj.1; have tj2 := tj.2.1
            rw [gl_app (x := x) (a := a) (j := (gi parents j).toNat) (by omega)]
            by_cases ej : j = k
            · subst ej
              have g : gl (x ++ [a]) j = a := by have := gl_new (x := x) (a := a); rwa [hx] at this
              rw [g]
              have ha' : Pmx (rowF l parents delays x j) a l.length := ha
              have er : rowF l parents delays x j = fun i => gi (gl x (gi parents j).toNat) i + gi (gl delays j) i := by funext i; unfold rowF; rw [if_neg (by omega)]
              rwa [er] at ha'
            · rw [gl_app (by omega)]; exact (hS (by omega)).2 j h1 (by omega)
        · obtain rfl : k = parents.length := by omega
          right
          exact ⟨.go x, by simp only [decide_eq_false (show ¬ ((parents.length : Int) < (parents.length : Int)) by omega), cond_false], x, rfl, hx, hS (by omega)⟩) n (0, []) ⟨0, [], rfl, by omega, rfl, fun h => by omega⟩ (by simp; omega)
      rw [e, bindJ_go]
      exact ⟨_, rfl, .inl ⟨rfl, hs, ⟨t1, t2, t3, t4⟩, h⟩⟩
    · rw [decide_eq_false hT]
      exact ⟨_, rfl, .inr ⟨rfl, fun h => hT h.2⟩⟩
  · rw [decide_eq_false (show ¬ (Strm l ∧ l.length ≤ 1000) from fun h => hs h.1)]
    exact ⟨_, rfl, .inr ⟨rfl, fun h => hs h.1⟩⟩
theorem times_refl (a : List (List Int)) (ha : a.length ≤ 1000000) (hb : ∀ x ∈ a, x.length ≤ 1000000) (n : Nat) (hn : 1000000 < n) : ref43_SameTimes n a a = some true := by
  unfold ref43_SameTimes
  rw [decide_eq_false (fun h => h rfl), cond_false]
  rw [iter_allgo (step := ref43_SameTimes_L1 n a a) a.length (.go ()) (fun i hi => by
    unfold ref43_SameTimes_L1
    have hx := hb _ (List.getElem_mem hi)
    rw [decide_eq_true (by omega), cond_true, idx_get' hi, idx_get' hi, decide_eq_false (fun h => h rfl), cond_false]
    rw [iter_allgo (step := ref43_SameTimes_L2 a a (i : Int)) a[i].length (.go ()) (fun j hj => by
      unfold ref43_SameTimes_L2
      rw [idx_get' hi, decide_eq_true (by omega), cond_true, idx_get' hj, idx_get' hi, idx_get' hj, decide_eq_false (fun h => h rfl), cond_false, w64 (by omega) (by omega)]
      rfl) (by unfold ref43_SameTimes_L2; rw [idx_get' hi]; simp) n (by omega), bindJ_go, w64 (by omega) (by omega)]
    rfl) (by unfold ref43_SameTimes_L1; simp) n (by omega)]
  rfl
theorem num_stream {l : List S_api_Segment} (hs : Strm l) : ∀ i (h : i < l.length), l[i].Num = (l[0]'(by omega)).Num + i
  | 0, h => by simp
  | i + 1, h => by
    have := num_stream hs i (by omega)
    have := (hs.2 i h).1
    omega
theorem numd_seen {l : List S_api_Segment} (hs : Strm l) (a : List Int) (t : Int) : Numd (seenP l a t) := by
  intro k hk
  unfold seenP at hk ⊢
  simp only [List.length_take] at hk
  simp only [List.getElem_take]
  have h0 : 0 < l.length := by omega
  rw [num_stream hs k (by omega), List.getElem?_eq_getElem h0]
  rfl
theorem rseen_eq {l : List S_api_Segment} (hs : Strm l) (hl : l.length ≤ 1000) (a : List Int) (ha : a.length = l.length) (t w : Int) (hw0 : 1 ≤ w) (hw : w ≤ 100) (n : Nat) (hn : 1000 < n) : ref43_Seen n l a t w = some (cutP (seenP l a t) w) := by
  unfold ref43_Seen
  have hc := cnt_le a t
  have hfst : bindJ (S := Int) (R := S_api_Playlist) (cond (decide (0 < (l.length : Int))) (idx l 0 fun x9 => some (.go x9.Num)) (some (.go 0))) = fun k => k (seenP l a t).First := by
    funext k
    by_cases h0 : 0 < l.length
    · rw [decide_eq_true (by omega), cond_true, idx_0 h0]
      unfold seenP
      rw [List.getElem?_eq_getElem h0]; rfl
    · rw [decide_eq_false (by omega)]
      unfold seenP
      rw [List.getElem?_eq_none (by omega)]; rfl
  rw [hfst]
  simp only
  have hloop : iter (ref43_Seen_L1 l a t) n (0, []) = some (.go (l.take (cnt a t))) := by
    obtain ⟨r, e, rfl⟩ := iter_inv (step := ref43_Seen_L1 l a t) (fun s => ∃ i : Nat, s = ((i : Int), l.take i) ∧ i ≤ cnt a t) (fun s => l.length - s.1.toNat) (fun r => r = .go (l.take (cnt a t))) (by
      rintro s ⟨i, rfl, hi⟩
      unfold ref43_Seen_L1
      by_cases hlt : i < cnt a t
      · have h1 := cnt_lt a t i hlt
        simp only
        rw [decide_eq_true (show (i : Int) < (l.length : Int) by omega), cond_true, idx_get (gi_at (by omega)), bindJ_go, decide_eq_true h1, cond_true, idx_get' (show i < l.length by omega), need_pos (by simp; omega), w64 (by omega) (by omega), List.take_append_getElem (by omega)]
        exact .inl ⟨_, rfl, ⟨i + 1, rfl, by omega⟩, by simp; omega⟩
      · obtain rfl : i = cnt a t := by omega
        right
        simp only
        by_cases hl' : cnt a t < l.length
        · have h1 := cnt_at a t (by omega)
          rw [decide_eq_true (by omega), cond_true, idx_get (gi_at (by omega)), bindJ_go, decide_eq_false (by omega)]
          exact ⟨_, rfl, rfl⟩
        · rw [decide_eq_false (by omega)]
          exact ⟨_, rfl, rfl⟩) n (0, []) ⟨0, by simp, by omega⟩ (by simp; omega)
    exact e
  rw [hloop, bindJ_go]
  have e0 : (⟨(seenP l a t).First, l.take (cnt a t), false⟩ : S_api_Playlist) = seenP l a t := rfl
  rw [e0, rcut_eq _ (numd_seen hs a t) w hw0 (by omega) (by unfold seenP; simp; omega)]
  rfl
theorem seen_cut {l : List S_api_Segment} (hs : Strm l) (hl : l.length ≤ 1000) (a : List Int) (ha : a.length = l.length) (t w : Int) (hw0 : 1 ≤ w) (hw : w ≤ 100) (n : Nat) (hn : 1000 < n) : playlist_Seen n l a t w = some (cutP (seenP l a t) w) := by
  rw [seen_eq hs hl a ha t w (by omega) (by omega) n hn, cut_id _ w (by omega) (by omega) (by unfold seenP; simp; omega) (by
    unfold seenP
    by_cases h0 : 0 < l.length
    · have := hs.1 0 h0
      unfold okSeg at this
      simp only [List.getElem?_eq_getElem h0, Option.map_some, Option.getD_some]; omega
    · rw [List.getElem?_eq_none (by omega)]; simp)]
  rfl
theorem small_eq (l : List S_api_Segment) (parents : List Int) (delays : List (List Int)) (hd : delays.length ≤ 9223372036854775807) (n : Nat) (hn : delays.length < n) :
    law43_small n l parents delays = some (decide ((∀ d ∈ delays, d.length ≤ 60) ∧ l.length ≤ 60 ∧ parents.length ≤ 12 ∧ delays.length ≤ 12)) := by
  unfold law43_small
  obtain ⟨r, e, h⟩ := iter_inv (step := law43_small_L1 delays) (fun s => ∃ i : Nat, s = (i : Int) ∧ i ≤ delays.length ∧ ∀ j (h : j < delays.length), j < i → delays[j].length ≤ 60) (fun s => delays.length - s.toNat)
    (fun r => (r = .go () ∧ ∀ d ∈ delays, d.length ≤ 60) ∨ (r = .stop false ∧ ¬ ∀ d ∈ delays, d.length ≤ 60)) (by
    rintro s ⟨i, rfl, hi, hj⟩
    unfold law43_small_L1
    by_cases hlt : i < delays.length
    · have e : decide ((i : Int) < (delays.length : Int)) = true := decide_eq_true (by omega)
      simp only [e, cond_true]
      rw [idx_get' hlt]
      by_cases h : 60 < delays[i].length
      · rw [decide_eq_true (by omega), cond_true]
        exact .inr ⟨_, rfl, .inr ⟨rfl, fun q => by have := q _ (List.getElem_mem hlt); omega⟩⟩
      · rw [decide_eq_false (by omega), cond_false, w64 (by omega) (by omega)]
        refine .inl ⟨((i + 1 : Nat) : Int), rfl, ⟨i + 1, rfl, by omega, fun j a b => ?_⟩, by simp; omega⟩
        by_cases ej : j = i
        · subst ej; omega
        · exact hj j a (by omega)
    · have e : decide ((i : Int) < (delays.length : Int)) = false := decide_eq_false (by omega)
      refine .inr ⟨.go (), by simp only [e, cond_false], .inl ⟨rfl, fun d hd => ?_⟩⟩
      obtain ⟨j, hj', rfl⟩ := List.getElem_of_mem hd
      exact hj j hj' (by omega)) n 0 ⟨0, rfl, by omega, fun j a b => by omega⟩ (by simpa using hn)
  rw [e]
  rcases h with ⟨rfl, h⟩ | ⟨rfl, h⟩
  · simp only [bindJ_go]
    congr 1
    rw [Bool.eq_iff_iff]
    simp only [Bool.and_eq_true, decide_eq_true_eq]
    constructor
    · rintro ⟨⟨a, b⟩, c⟩; exact ⟨h, by omega, by omega, by omega⟩
    · rintro ⟨_, a, b, c⟩; omega
  · simp only [bindJ_stop]
    rw [decide_eq_false (fun q => h q.1)]
theorem law5_of (l : List S_api_Segment) (parents : List Int) (delays : List (List Int)) (t w : Int) (hdl : delays.length ≤ 9223372036854775807) : ∃ m, law43_PlaylistSpreadsAsSpecified m l parents delays t w = some true := by
  obtain ⟨k, hk⟩ : ∃ k : Nat, delays.length + 3000000 ≤ k := ⟨_, Nat.le_refl _⟩
  obtain ⟨n, hsane, hn⟩ : ∃ n, law43_sanity n = some true ∧ k ≤ n := ⟨k + 40, sane k, Nat.le_add_right _ _⟩
  refine ⟨n, ?_⟩
  unfold law43_PlaylistSpreadsAsSpecified
  rw [small_eq l parents delays hdl n (by omega), hsane]
  simp only [obind, Option.bind_some]
  by_cases hc : (∀ d ∈ delays, d.length ≤ 60) ∧ l.length ≤ 60 ∧ parents.length ≤ 12 ∧ delays.length ≤ 12
  · rw [decide_eq_true hc]
    obtain ⟨c1, c2, c3, c4⟩ := hc
    simp only [Bool.not_true, cond_false]
    obtain ⟨r, e, h⟩ := spread_eq l (by omega) parents delays (fun d hd => by have := c1 d hd; omega) n (by omega)
    obtain ⟨r', e', h'⟩ := rspread_eq l (by omega) parents delays (fun d hd => by have := c1 d hd; omega) n (by omega)
    rw [e, e']
    simp only [Option.bind_some]
    rcases h with ⟨hr, hs, hT, hS⟩ | ⟨rfl, hno⟩
    · rcases h' with ⟨hr', _, _, hS'⟩ | ⟨_, hno⟩
      · have hu := spr_uniq hT.2.2.2 hT.1 hS hS'
        have hol : r.1.length = parents.length := hS.1
        have len : ∀ j, j < parents.length → (gl r.1 j).length = l.length := fun j hj => by
          by_cases e0 : j = 0
          · subst e0; exact hS.2.1.1
          · exact (hS.2.2 j (by omega) hj).1
        rw [decide_eq_false (show ¬ r.2 ≠ r'.E by omega), cond_false, ← hu, times_refl r.1 (by omega) (fun x hx => by
          obtain ⟨j, hj, rfl⟩ := List.getElem_of_mem hx
          have := len j (by omega)
          unfold gl at this
          rw [List.getElem?_eq_getElem hj] at this
          have h3 : r.1[j].length = l.length := this
          omega) n (by omega)]
        simp only [Option.bind_some, bindJ_go, Bool.not_true, cond_false]
        by_cases hw : 1 ≤ w ∧ w ≤ 100
        · rw [show ((decide (r.2 ≠ 0) || decide (w < 1)) || decide (100 < w)) = false by rw [Bool.eq_false_iff]; intro h; simp only [Bool.or_eq_true, decide_eq_true_eq] at h; omega, cond_false]
          rw [iter_allgo (step := law43_PlaylistSpreadsAsSpecified_L1 n l t w r) r.1.length (.go ()) (fun i hi => by
            unfold law43_PlaylistSpreadsAsSpecified_L1
            have hli := len i (by omega)
            rw [decide_eq_true (by omega), cond_true, idx_get (gl_at hi), seen_cut hs (by omega) _ hli t w hw.1 hw.2 n (by omega), rseen_eq hs (by omega) _ hli t w hw.1 hw.2 n (by omega)]
            simp only [obind, Option.bind_some]
            have := cutP_len (seenP l (gl r.1 i) t) w hw.1 hw.2
            rw [same_refl _ (by omega) n (by omega)]
            simp only [Option.bind_some, Bool.not_true, cond_false]
            rw [w64 (by omega) (by omega)]
            rfl) (by unfold law43_PlaylistSpreadsAsSpecified_L1; simp) n (by omega)]
          rfl
        · rw [show ((decide (r.2 ≠ 0) || decide (w < 1)) || decide (100 < w)) = true by simp only [Bool.or_eq_true, decide_eq_true_eq]; omega, cond_true]
      · exact absurd ⟨hs, hT⟩ hno
    · rcases h' with ⟨_, hs, hT, _⟩ | ⟨rfl, _⟩
      · exact absurd ⟨hs, hT⟩ hno
      · rw [decide_eq_false (fun h => h rfl), cond_false, times_refl [] (by simp) (fun x hx => by simp at hx) n (by omega)]
        rfl
  · rw [decide_eq_false hc]; rfl
end Go.Proofs.YtbgpojdmdnkeaaaGreatDoor
namespace Go.Abs
open Go.Sem Go.ChangeShapes Go.RowKit

/-- a law's contract, as the claim's frame wants it -/
theorem Meets.law {P : Program} {f : FuncId} {args : List Value} {H : List HA} (h : Meets P f args H (fun v G => v = .bool true ∧ G = [])) {w : World} (hs : Sats w (fun _ => .no) H) :
    Calls P f args.toArray w fun e w' => e = .returned (.bool true) ∧ Below w.heap.size w w' := by
  refine (h w (fun _ => .no) (fun _ _ => rfl) hs).mono fun e w' ⟨v, G, o', he, ⟨hv, _⟩, _, ht, _⟩ => ?_
  subst hv
  exact ⟨he, ht.os, ht.tape, ht.output, ht.size, fun k hk => (ht.no k hk rfl).2⟩

theorem cells_open {w : World} {a : Option Addr} {len cap es : Nat} {cells : List (List Value)} (hcl : cells.length = len) (h1 : len ≤ cap) (h2 : cap ≤ maxLen) (h3 : a = none → cap = 0) (hes : 0 < es)
    (he : ∀ c ∈ cells, c.length = es) (hc : ∀ x, a = some x → ∀ i c, cells[i]? = some c → ∀ j v, c[j]? = some v → w.cell? (x.add (i * es + j)) = some v) :
    SliceIs w (fun b => (fun _ => Ow.no : Own) b = .no) (.slice a len cap) es cells := by
  refine ⟨a, cap, by rw [hcl], by omega, h2, h3, ?_⟩
  intro i c hi
  have hlen := he c (List.mem_of_getElem? hi)
  cases a with
  | none =>
    have := (List.getElem?_eq_some_iff.1 hi).1
    have := h3 rfl
    omega
  | some x =>
    have e0 : c[0]? = some (c[0]'(by omega)) := List.getElem?_eq_getElem (by omega)
    have h := hc x rfl i c hi 0 _ e0
    have hs0 := World.cell?_spot h
    have hb : x.block < w.heap.size := by
      unfold World.cell? at h
      have e : (x.add (i * es + 0)).block = x.block := by unfold Addr.add; split <;> rfl
      rw [e] at h
      cases hh : w.heap[x.block]? with
      | none => rw [hh] at h; simp at h
      | some o => exact (Array.getElem?_eq_some_iff.1 hh).1
    obtain ⟨b, off, spot⟩ := x
    refine ⟨hlen, b, off, ?_, hb, rfl, ?_⟩
    · cases spot with
      | none => rfl
      | some q =>
        exfalso
        have hi0 : ∀ i c, cells[i]? = some c → i = 0 := by
          intro i c hi
          false_or_by_contra
          have hlen := he c (List.mem_of_getElem? hi)
          have hi00 : cells[0]? = some (cells[0]'(by have := (List.getElem?_eq_some_iff.1 hi).1; omega)) := List.getElem?_eq_getElem _
          have hl0 := he _ (List.mem_of_getElem? hi00)
          have h := hc _ rfl 0 _ hi00 0 _ (List.getElem?_eq_getElem (by omega))
          have := World.cell?_spot h
          simp [Addr.add] at this
        have := hi0 i c hi
        subst this
        simp [Addr.add] at hs0
    · intro j v hj
      have h' := hc _ rfl i c hi j v hj
      have hsp := World.cell?_spot h'
      rw [← h']
      congr 1
      unfold Addr.add at hsp ⊢
      split
      · rename_i h0
        rw [if_pos h0] at hsp
        simp only at hsp
        rw [hsp]
        have : off + i * es + j = off := by omega
        rw [this]
      · rw [Nat.add_assoc]
theorem slice_nil {w : World} {B : Nat → Prop} {es : Nat} : SliceIs w B (.slice none 0 0) es [] := ⟨none, 0, rfl, by simp, by unfold maxLen; omega, fun _ => rfl, fun i c h => by simp at h⟩
end Go.Abs
namespace Go.Abs
open Go.Sem Go.ChangeShapes Go.RowKit
end Go.Abs
namespace Go.Abs
open Go.Sem Go.ChangeShapes Go.RowKit
section
variable {H : Type} {enc : TypeId × Value → H} {P : Program} {w : World} {base : Nat} {sp : Nat → Bool} {held : Bool}
end
end Go.Abs
namespace Go.Abs
open Go.Sem Go.ChangeShapes Go.RowKit
section
variable {H : Type} {enc : TypeId × Value → H} {P : Program} {w : World} {base : Nat} {sp : Nat → Bool} {held : Bool}
def wfI (k : IntKind) (n : Int) : Prop := (Lit.int k n).wf = true
/-- a type is opened: what is read of it lies in the cells 'F a', and a is well formed -/
def Opens (enc : TypeId × Value → H) (P : Program) (w : World) (base : Nat) (sp : Nat → Bool) (held : Bool) (t : TypeId) {α : Type} (F : α → List Value) (wf : α → Prop) : Prop :=
  ∀ (fuel : Nat) (cs : List Value) (x : DataW H × List MemPlace), DataW.trod enc P w base sp held fuel t cs = some x → ∃ a, cs = F a ∧ wf a
theorem opn_int {t : TypeId} {k : IntKind} (ht : P.underlying t = some (.int k)) : Opens enc P w base sp held t (eInt k) (wfI k) := by
  intro fuel cs x h
  obtain ⟨n, hc, _, hw⟩ := DataW.trod_int ht h
  exact ⟨n, hc, hw⟩
/-- the elements of a slice that is opened -/
theorem opn_slice {t e : TypeId} {es : Nat} {α : Type} {F : α → List Value} {wf : α → Prop} (ht : P.underlying t = some (.slice e)) (hce : P.cellsOf e = es) (hes : 0 < es) (hF : ∀ a, (F a).length = es)
    (ho : Opens enc P w base sp held e F wf) {fuel : Nat} {cs : List Value} {x : DataW H × List MemPlace} (h : DataW.trod enc P w base sp held fuel t cs = some x) :
    ∃ (v : Value) (l : List α), cs = [v] ∧ (∀ a ∈ l, wf a) ∧ SliceIs w (fun b => (fun _ => Ow.no : Own) b = .no) v es (l.map F) ∧
      ((x = (.nil, []) ∧ l = []) ∨ ∃ ys rs ps, x = (.slice ys rs, ps) ∧ ys.length = l.length) := by
  rcases DataW.trod_slice ht h with ⟨rfl, hx⟩ | ⟨a, len, cap, elems, rest, m, _, rfl, rfl, hb, hl, hm, hlen, hel', hsp, hns⟩
  · exact ⟨_, [], rfl, by simp, slice_nil, .inl ⟨hx, rfl⟩⟩
  · have each : ∀ i, i < len → ∃ d : α, wf d ∧ ∀ j v, (F d)[j]? = some v → w.cell? (a.add (i * es + j)) = some v := by
      intro i hi
      have h1 := hel' i hi
      rw [List.getElem?_eq_getElem (by omega), hce, Option.bind_eq_some_iff] at h1
      obtain ⟨cs', hcs, hy⟩ := h1
      obtain ⟨d, rfl, hd⟩ := ho _ _ _ hy
      refine ⟨d, hd, fun j v hj => ?_⟩
      have hjlt : j < es := by have := (List.getElem?_eq_some_iff.1 hj).1; rw [hF] at this; omega
      have := (World.cells?_some hcs).2.2 j hjlt
      rw [hj] at this
      rw [← this]
      congr 1
      unfold Addr.add
      by_cases e1 : i * es = 0
      · rw [if_pos e1]; simp [e1]
      · rw [if_neg e1, if_neg (by omega)]
        by_cases e2 : j = 0
        · simp [e2]
        · rw [if_neg e2]; simp [Nat.add_assoc]
    have hch : ∃ l : List α, l.length = len ∧ ∀ i d, l[i]? = some d → wf d ∧ ∀ j v, (F d)[j]? = some v → w.cell? (a.add (i * es + j)) = some v := by
      clear hel' hlen hsp hns hl h
      induction len with
      | zero => exact ⟨[], rfl, by simp⟩
      | succ k ih =>
        obtain ⟨l, hl1, hl2⟩ := ih (fun i hi => each i (by omega))
        obtain ⟨d, hd1, hd2⟩ := each k (by omega)
        refine ⟨l ++ [d], by simp [hl1], fun i d' hi => ?_⟩
        by_cases hik : i < k
        · rw [List.getElem?_append_left (by omega)] at hi; exact hl2 i d' hi
        · rw [List.getElem?_append_right (by omega)] at hi
          have : i = k := by have := (List.getElem?_eq_some_iff.1 hi).1; simp at this; omega
          subst this
          rw [hl1, Nat.sub_self] at hi
          simp at hi
          subst hi
          exact ⟨hd1, hd2⟩
    obtain ⟨l, hl1, hl2⟩ := hch
    refine ⟨_, l, rfl, ?_, ?_, .inr ⟨_, _, _, rfl, by simp [hlen, hl1]⟩⟩
    · intro d hd
      obtain ⟨i, hi⟩ := List.getElem?_of_mem hd
      exact (hl2 i d hi).1
    · refine cells_open (by rw [List.length_map, hl1]) hl hm (by simp) hes ?_ ?_
      · intro c hc
        obtain ⟨d, hd, rfl⟩ := List.mem_map.1 hc
        exact hF d
      · intro x hx i c hi j v hj
        cases hx
        simp only [List.getElem?_map, Option.map_eq_some_iff] at hi
        obtain ⟨d, hd, rfl⟩ := hi
        exact (hl2 i d hd).2 j v hj
end
end Go.Abs
namespace Go.Abs
open Go.Sem Go.ChangeShapes Go.RowKit
section
variable {H : Type} {enc : TypeId × Value → H} {P : Program} {w : World} {base : Nat} {sp : Nat → Bool} {held : Bool}
def noO : Own := fun _ => .no
def OpensN (enc : TypeId × Value → H) (P : Program) (w : World) (base : Nat) (sp : Nat → Bool) (held : Bool) (t : TypeId) {α : Type} (C : NC α) (wf : α → Prop) : Prop :=
  ∀ (fuel : Nat) (cs : List Value) (x : DataW H × List MemPlace), DataW.trod enc P w base sp held fuel t cs = some x → ∃ a g, cs = C.F a g ∧ wf a ∧ ∀ k, HsP (C.S a g) w noO k
theorem slice_len {t e : TypeId} (ht : P.underlying t = some (.slice e)) {fuel : Nat} {cs : List Value} {x : DataW H × List MemPlace} (h : DataW.trod enc P w base sp held fuel t cs = some x) {N : Nat}
    (hx : (x = (.nil, []) ∧ N = 0) ∨ ∃ ys rs ps, x = (.slice ys rs, ps) ∧ ys.length = N) : N ≤ maxLen := by
  rcases DataW.trod_slice ht h with ⟨_, h0⟩ | ⟨a, len, cap, elems, rest, m, _, _, h0, _, hl, hm, hlen, _⟩
  · rcases hx with ⟨_, rfl⟩ | ⟨ys, rs, ps, h1, _⟩
    · exact Nat.zero_le _
    · rw [h0] at h1; cases h1
  · rcases hx with ⟨h1, _⟩ | ⟨ys, rs, ps, h1, h2⟩
    · rw [h0] at h1; cases h1
    · rw [h0] at h1; cases h1; rw [List.length_map] at h2; omega
theorem opn_leafL {t e : TypeId} {es : Nat} {α : Type} {F : α → List Value} {wf : α → Prop} (ht : P.underlying t = some (.slice e)) (hce : P.cellsOf e = es) (hes : 0 < es) (hF : ∀ a, (F a).length = es)
    (ho : Opens enc P w base sp held e F wf) {fuel : Nat} {cs : List Value} {x : DataW H × List MemPlace} (h : DataW.trod enc P w base sp held fuel t cs = some x) :
    ∃ (v : Value) (l : List α), cs = [v] ∧ (l.length ≤ maxLen ∧ ∀ a ∈ l, wf a) ∧ ∀ k, (ro v es (l.map F)).p w noO k := by
  obtain ⟨v, l, h1, h2, h3, h4⟩ := opn_slice ht hce hes hF ho h
  refine ⟨v, l, h1, ⟨slice_len ht h ?_, h2⟩, fun _ => h3⟩
  rcases h4 with ⟨h5, rfl⟩ | h5
  · exact .inl ⟨h5, rfl⟩
  · exact .inr h5
theorem opn_leafNL {t e : TypeId} {α : Type} {C : NC α} {wf : α → Prop} (ht : P.underlying t = some (.slice e)) (hce : P.cellsOf e = C.es) (hes : 0 < C.es) (hF : ∀ a g, (C.F a g).length = C.es)
    (ho : OpensN enc P w base sp held e C wf) {fuel : Nat} {cs : List Value} {x : DataW H × List MemPlace} (h : DataW.trod enc P w base sp held fuel t cs = some x)
    (hn : C.nn = true → False := by exact fun h => absurd h (by decide)) : ∃ (v : Value) (l : List α), cs = [v] ∧ (l.length ≤ maxLen ∧ ∀ a ∈ l, wf a) ∧ ∀ k, (nro v C l).p w noO k := by
  have ho' : Opens enc P w base sp held e (fun p : α × C.G => C.F p.1 p.2) (fun p => wf p.1 ∧ ∀ k, HsP (C.S p.1 p.2) w noO k) := fun fuel cs x h => let ⟨a, g, h1, h2, h3⟩ := ho fuel cs x h; ⟨(a, g), h1, h2, h3⟩
  obtain ⟨v, lg, h1, h2, h3, h4⟩ := opn_slice ht hce hes (fun p : α × C.G => hF p.1 p.2) ho' h
  refine ⟨v, lg.map (·.1), h1, ⟨slice_len ht h ?_, ?_⟩, fun k => ⟨⟨lg, rfl, h3, fun p hp => (h2 p hp).2 k⟩, fun h => (hn h).elim⟩⟩
  · rcases h4 with ⟨h5, rfl⟩ | h5
    · exact .inl ⟨h5, rfl⟩
    · exact .inr (by simpa using h5)
  intro a ha
  obtain ⟨p, hp, rfl⟩ := List.mem_map.1 ha
  exact (h2 p hp).1
end
end Go.Abs
namespace Go.Abs
open Go.Sem Go.ChangeShapes Go.RowKit
theorem laid_at {P : Program} {w : World} {n : String} {d : DataW Unit} : ∀ {l : List (String × DataW Unit)} {ps : List MemPlace}, DataW.LaidVars P w l ps → (n, d) ∈ l →
    ∃ g t cs fuel p, P.globalNamed n = some g ∧ (P.globals[g]?).map (·.type) = some t ∧ w.var? P n = some cs ∧ DataW.trod (fun _ => ()) P w 0 (fun _ => true) false fuel t cs.toList = some (d, p)
  | [], _, _, h => by simp at h
  | (m, e) :: r, ps, ⟨g, t, cs, fuel, p, q, h1, h2, h3, h4, h5, _⟩, h => by
    rcases List.mem_cons.1 h with h | h
    · cases h; exact ⟨g, t, cs, fuel, p, h1, h2, h3, h4⟩
    · exact laid_at h5 h
theorem laid_tab {P : Program} {w : World} {l : List (String × DataW Unit)} {name : String} {k : IntKind} {zs : List Int} {g t e : Nat} {n : Nat} (h : laidMet P l w) (hm : (name, Lib.tabData k zs) ∈ l)
    (hg : P.globalNamed name = some g) (hty : (P.globals[g]?).map (·.type) = some t) (ht : P.underlying t = some (.array n e)) (he : P.underlying e = some (.int k)) (hce : P.cellsOf e = 1) (hct : P.cellsOf t = n) : Lib.TabIs P w name k zs := by
  obtain ⟨ps, hl, _⟩ := h
  obtain ⟨g', t', cs, fuel, p, hg', ht', hvar, hd⟩ := laid_at hl hm
  obtain rfl := Option.some.inj (hg.symm.trans hg')
  obtain rfl := Option.some.inj (hty.symm.trans ht')
  unfold Lib.TabIs
  rw [hvar, ← Lib.cells_of_tab ht he hce hct hd]
theorem laid_iface {P : Program} {w : World} {l : List (String × DataW Unit)} {name s : String} {d : DataW Unit} {g t : Nat} {ms : Array (String × TypeId)} (h : laidMet P l w) (hm : (name, DataW.iface s d) ∈ l)
    (hg : P.globalNamed name = some g) (hty : (P.globals[g]?).map (·.type) = some t) (ht : P.underlying t = some (.interface ms)) : ∃ u v, w.cell? ⟨g, 0, none⟩ = some (.iface u v) := by
  obtain ⟨ps, hl, _⟩ := h
  obtain ⟨g', t', cs, fuel, p, hg', ht', hvar, hd⟩ := laid_at hl hm
  obtain rfl := Option.some.inj (hg.symm.trans hg')
  obtain rfl := Option.some.inj (hty.symm.trans ht')
  have hc : ∃ u v, cs.toList = [.iface u v] := by
    cases fuel with
    | zero => simp [DataW.trod] at hd
    | succ fuel =>
      unfold DataW.trod at hd
      rw [ht] at hd
      split at hd <;> simp_all
  obtain ⟨u, v, hc⟩ := hc
  refine ⟨u, v, ?_⟩
  have := World.var?_cell hg hvar 0
  rw [this, ← Array.getElem?_toList, hc]; rfl
section
variable {H : Type} {enc : TypeId × Value → H} {P : Program} {w : World} {base : Nat} {sp : Nat → Bool} {held : Bool}
theorem opn_arr {t e : TypeId} {n : Nat} {k : IntKind} (ht : P.underlying t = some (.array n e)) (he : P.underlying e = some (.int k)) (hce : P.cellsOf e = 1) (hct : P.cellsOf t = n) {fuel : Nat} {cs : List Value} {x : DataW H × List MemPlace}
    (h : DataW.trod enc P w base sp held fuel t cs = some x) : ∃ l : List Int, l.length = n ∧ cs = l.map (Value.int k) ∧ ∀ a ∈ l, wfI k a := by
  obtain ⟨xs, m, _, _, hl, hx, hf⟩ := DataW.trod_array ht h
  rw [hct] at hl
  have key : ∀ i, i < n → ∃ a, cs[i]? = some (.int k a) ∧ wfI k a := by
    intro i hi
    have h1 := hf i hi
    rw [List.getElem?_eq_getElem (show i < xs.length by omega)] at h1
    obtain ⟨a, hc, _, hw⟩ := DataW.trod_int he h1
    refine ⟨a, ?_, hw⟩
    have := congrArg (·[0]?) hc
    simpa [hce, List.getElem?_take, List.getElem?_drop] using this
  clear hf hx
  have all : ∀ (n : Nat) (cs : List Value), cs.length = n → (∀ i, i < n → ∃ a, cs[i]? = some (.int k a) ∧ wfI k a) → ∃ l : List Int, l.length = n ∧ cs = l.map (Value.int k) ∧ ∀ a ∈ l, wfI k a := by
    intro n
    induction n with
    | zero => intro cs hl _; exact ⟨[], rfl, by simpa using hl, by simp⟩
    | succ n ih =>
      intro cs hl key
      match cs, hl with
      | c :: r, hl =>
        obtain ⟨l, e1, e2, e3⟩ := ih r (by simpa using hl) (fun i hi => by simpa using key (i + 1) (by omega))
        obtain ⟨a, e4, e5⟩ := key 0 (by omega)
        refine ⟨a :: l, by simp [e1], ?_, ?_⟩
        · simp at e4; simp [e4, ← e2]
        · intro b hb
          rcases List.mem_cons.1 hb with rfl | hb
          · exact e5
          · exact e3 b hb
  exact all n cs hl key
end
end Go.Abs
namespace Go.Proofs.YtbgpojdmdnkeaaaGreatDoor
open Go.Abs Go.ChangeShapes Go.RowKit
set_option maxRecDepth 100000
set_option linter.unusedVariables false
def S_api_Digest.wf (x : S_api_Digest) : Prop := ∀ a ∈ x.toL, wfI .u8 a
theorem S_api_Digest.opn {H : Type} {enc : TypeId × Value → H} {w : World} {base : Nat} {sp : Nat → Bool} {held : Bool} : Opens enc Tryz.prog w base sp held 55 S_api_Digest.enc S_api_Digest.wf := by
  intro fuel cs x h
  obtain ⟨l, hl, e, hw⟩ := opn_arr Tryz.underlying55 Tryz.underlying5 (by kernel_rfl) (by kernel_rfl) h
  match l, hl with
  | [y0, y1, y2, y3, y4, y5, y6, y7, y8, y9, y10, y11, y12, y13, y14, y15], _ => exact ⟨⟨y0, y1, y2, y3, y4, y5, y6, y7, y8, y9, y10, y11, y12, y13, y14, y15⟩, e, hw⟩
def S_api_Segment.wf (x : S_api_Segment) : Prop := wfI .i64 x.Num ∧ wfI .i64 x.Begin ∧ wfI .i64 x.Len ∧ S_api_Digest.wf x.Body ∧ wfI .i64 x.Size
theorem S_api_Segment.opn {H : Type} {enc : TypeId × Value → H} {w : World} {base : Nat} {sp : Nat → Bool} {held : Bool} : Opens enc Tryz.prog w base sp held 57 S_api_Segment.enc S_api_Segment.wf := by
  intro fuel cs x h
  obtain ⟨xs, n, _, _, hl, hlen, hf⟩ := DataW.trod_struct Tryz.underlying57 h
  have hl' : cs.length = 20 := hl.trans (by kernel_rfl)
  have hx : xs.length = 5 := hlen
  have k3 : Tryz.prog.cellsOf 3 = 1 := by kernel_rfl
  have k55 : Tryz.prog.cellsOf 55 = 16 := by kernel_rfl
  match cs, hl' with
  | [c0, c1, c2, c3, c4, c5, c6, c7, c8, c9, c10, c11, c12, c13, c14, c15, c16, c17, c18, c19], _ =>
    have f0 := hf 0 _ rfl
    rw [List.getElem?_eq_getElem (show 0 < xs.length by omega)] at f0
    obtain ⟨a0, e0, w0⟩ := (opn_int Tryz.underlying3) _ _ _ f0
    simp [k3, eInt, eStr, eBool] at e0
    have f1 := hf 1 _ rfl
    rw [List.getElem?_eq_getElem (show 1 < xs.length by omega)] at f1
    obtain ⟨a1, e1, w1⟩ := (opn_int Tryz.underlying3) _ _ _ f1
    simp [k3, eInt, eStr, eBool] at e1
    have f2 := hf 2 _ rfl
    rw [List.getElem?_eq_getElem (show 2 < xs.length by omega)] at f2
    obtain ⟨a2, e2, w2⟩ := (opn_int Tryz.underlying3) _ _ _ f2
    simp [k3, eInt, eStr, eBool] at e2
    have f3 := hf 3 _ rfl
    rw [List.getElem?_eq_getElem (show 3 < xs.length by omega)] at f3
    obtain ⟨a3, e3, w3⟩ := S_api_Digest.opn _ _ _ f3
    simp [k55, S_api_Digest.enc] at e3
    have f4 := hf 4 _ rfl
    rw [List.getElem?_eq_getElem (show 4 < xs.length by omega)] at f4
    obtain ⟨a4, e4, w4⟩ := (opn_int Tryz.underlying3) _ _ _ f4
    simp [k3, eInt, eStr, eBool] at e4
    exact ⟨⟨a0, a1, a2, a3, a4⟩, by simp [S_api_Segment.enc, e0, e1, e2, e3, e4], w0, w1, w2, w3, w4⟩
def S_api_Playlist.wf (x : S_api_Playlist) : Prop := wfI .i64 x.First ∧ (x.L.length ≤ maxLen ∧ ∀ a ∈ x.L, S_api_Segment.wf a) ∧ True
theorem NC_L_int_43.opn {H : Type} {enc : TypeId × Value → H} {w : World} {base : Nat} {sp : Nat → Bool} {held : Bool} : OpensN enc Tryz.prog w base sp held 43 NC_L_int_43 (fun a => (a.length ≤ maxLen ∧ ∀ c ∈ a, wfI .i64 c)) := by
  intro fuel cs x h
  obtain ⟨v, l, e, hw, hs⟩ := opn_leafL (es := 1) (F := (eInt .i64)) (wf := (fun a => wfI .i64 a)) Tryz.underlying43 (by kernel_rfl) (by decide) (fun a => ((eInt_ok _) a).1) (opn_int Tryz.underlying3) h
  exact ⟨l, v, e, hw, fun k h hh => by simp only [NC_L_int_43, List.mem_cons, List.not_mem_nil, or_false] at hh; subst hh; exact hs k⟩

end Go.Proofs.YtbgpojdmdnkeaaaGreatDoor
namespace Go.Proofs.YtbgpojdmdnkeaaaGreatDoor
open Go.Abs
theorem law5 (l : List S_api_Segment) (parents : List Int) (delays : List (List Int)) (t w : Int) (_ : l.length ≤ maxLen ∧ ∀ a ∈ l, S_api_Segment.wf a) (_ : parents.length ≤ maxLen ∧ ∀ a ∈ parents, wfI .i64 a) (hd : delays.length ≤ maxLen ∧ ∀ a ∈ delays, (a.length ≤ maxLen ∧ ∀ c ∈ a, wfI .i64 c)) (_ : wfI .i64 t) (_ : wfI .i64 w) :
    ∃ m, law43_PlaylistSpreadsAsSpecified m l parents delays t w = some true := law5_of l parents delays t w (by have := hd.1; unfold maxLen at this; omega)
end Go.Proofs.YtbgpojdmdnkeaaaGreatDoor
namespace Go.Proofs.YtbgpojdmdnkeaaaGreatDoor
open Go.Abs
/-- so many blocks has the settled world -/
noncomputable def low : Nat := (World.holding Tryz.prog default ⟨#[], #[], []⟩).heap.size
/-- the settled world with the laid variables -/
noncomputable def laidWorld (os : Os) : World :=
  let w0 := World.holding Tryz.prog os ⟨#[.cells #[.string ⟨#[105, 110, 118, 97, 108, 105, 100, 32, 115, 121, 110, 116, 97, 120]⟩] 156, .cells #[.string ⟨#[118, 97, 108, 117, 101, 32, 111, 117, 116, 32, 111, 102, 32, 114, 97, 110, 103, 101]⟩] 156], #[], []⟩
  { w0 with heap := (((((((w0.heap.modify 3 fun
      | .cells _ t frozen => .cells (([1, 10, 100, 1000, 10000, 100000, 1000000, 10000000, 100000000, 1000000000, 10000000000, 100000000000, 1000000000000, 10000000000000, 100000000000000, 1000000000000000, 10000000000000000, 100000000000000000, 1000000000000000000, 10000000000000000000] : List Int).map (Value.int .u64)).toArray t frozen
      | o => o).modify 4 fun
      | .cells _ t frozen => .cells (Go.Pinned.utf8FirstZ.map fun (n : Nat) => Value.int .u8 (n : Int)).toArray t frozen
      | o => o).modify 5 fun
      | .cells _ t frozen => .cells (([128, 191, 160, 191, 128, 159, 144, 191, 128, 143, 0, 0, 0, 0, 0, 0, 0, 0, 0, 0, 0, 0, 0, 0, 0, 0, 0, 0, 0, 0, 0, 0] : List Int).map (Value.int .u8)).toArray t frozen
      | o => o).modify 6 fun
      | .cells _ t frozen => .cells (([0, 1, 28, 2, 29, 14, 24, 3, 30, 22, 20, 15, 25, 17, 4, 8, 31, 27, 13, 23, 21, 19, 16, 7, 26, 12, 18, 6, 11, 5, 10, 9] : List Int).map (Value.int .u8)).toArray t frozen
      | o => o).modify 7 fun
      | .cells _ t frozen => .cells (([0, 1, 56, 2, 57, 49, 28, 3, 61, 58, 42, 50, 38, 29, 17, 4, 62, 47, 59, 36, 45, 43, 51, 22, 53, 39, 33, 30, 24, 18, 12, 5, 63, 55, 48, 27, 60, 41, 37, 16, 46, 35, 44, 21, 52, 32, 23, 11, 54, 26, 40, 15, 34, 20, 31, 10, 25, 14, 19, 9, 13, 8, 7, 6] : List Int).map (Value.int .u8)).toArray t frozen
      | o => o).modify 1 fun
      | .cells _ t frozen => .cells #[.iface 154 (.pointer (some ⟨low, 0, none⟩))] t frozen
      | o => o).modify 2 fun
      | .cells _ t frozen => .cells #[.iface 154 (.pointer (some ⟨low + 1, 0, none⟩))] t frozen
      | o => o) }
def laidL : List (String × DataW Unit) := [("math/bits.deBruijn32tab", Rows.laid_math_bits_deBruijn32tab), ("math/bits.deBruijn64tab", Rows.laid_math_bits_deBruijn64tab), ("internal/strconv.uint64pow10", Rows.laid_internal_strconv_uint64pow10), ("unicode/utf8.acceptRanges", Rows.laid_unicode_utf8_acceptRanges), ("strconv.ErrRange", Rows.laid_strconv_ErrRange), ("strconv.ErrSyntax", Rows.laid_strconv_ErrSyntax), ("unicode/utf8.first", Rows.laid_unicode_utf8_first)]
theorem laidWorld_met (os : Os) (args : Array Value) : laidMet Tryz.prog laidL ((laidWorld os).forCall (fun _ _ => 0) ⟨#[], args, []⟩).memory :=
  laidMet_of_run' 8 (by kernel_rfl) (by kernel_rfl)
theorem gPow : Tryz.prog.globalNamed "internal/strconv.uint64pow10" = some 3 := by kernel_rfl
theorem globIs {W : World} (h : laidMet Tryz.prog laidL W) (hs : W.ShapedOpen Tryz.prog) : GlobIs Tryz.prog 8 W where
  maxLen := let ⟨m, hm⟩ := Tryz.laysM146.s1_3 W hs; ⟨0, m, gMax, by decide, hm⟩
  errSyntax := let ⟨u, v, hc⟩ := laid_iface (s := "*errors.errorString") (d := .ptr (.agg [.lit (.string [105, 110, 118, 97, 108, 105, 100, 32, 115, 121, 110, 116, 97, 120])])) h (by simp [laidL, Rows.laid_strconv_ErrSyntax]) gSyn (t := 102) (by kernel_rfl) Tryz.underlying102; ⟨1, u, v, gSyn, by decide, hc⟩
  errRange := let ⟨u, v, hc⟩ := laid_iface (s := "*errors.errorString") (d := .ptr (.agg [.lit (.string [118, 97, 108, 117, 101, 32, 111, 117, 116, 32, 111, 102, 32, 114, 97, 110, 103, 101])])) h (by simp [laidL, Rows.laid_strconv_ErrRange]) gRng (t := 102) (by kernel_rfl) Tryz.underlying102; ⟨2, u, v, gRng, by decide, hc⟩
  pow10 := ⟨3, gPow, by decide, laid_tab h (List.mem_cons_of_mem _ (List.mem_cons_of_mem _ (List.mem_cons.2 (.inl (by kernel_rfl))))) gPow (t := 143) (by kernel_rfl) Tryz.underlying143 Tryz.underlying128 (by kernel_rfl) (by kernel_rfl)⟩
theorem laid_size {W : World} (h : laidMet Tryz.prog laidL W) : 8 ≤ W.heap.size := by
  obtain ⟨ps, hl, _⟩ := h
  obtain ⟨g, t, cs, fuel, p, e1, _, e3, _⟩ := laid_at (n := "math/bits.deBruijn64tab") hl (List.mem_cons_of_mem _ (List.mem_cons_self ..))
  have eg : Tryz.prog.globalNamed "math/bits.deBruijn64tab" = some 7 := by kernel_rfl
  obtain rfl := Option.some.inj (eg.symm.trans e1)
  unfold World.var? at e3
  rw [eg] at e3
  simp only [Option.bind_some] at e3
  by_cases h : 7 < W.heap.size
  · omega
  · rw [Array.getElem?_eq_none (by omega)] at e3; simp at e3
theorem globP {W : World} (h : laidMet Tryz.prog laidL W) (hs : W.ShapedOpen Tryz.prog) (k : Nat) : globA.p W noO k := ⟨laid_size h, fun _ _ => rfl, globIs h hs⟩
end Go.Proofs.YtbgpojdmdnkeaaaGreatDoor
