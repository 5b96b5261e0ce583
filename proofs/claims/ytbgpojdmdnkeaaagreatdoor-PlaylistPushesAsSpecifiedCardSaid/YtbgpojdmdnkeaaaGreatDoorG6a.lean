/-
  Functions that the law PlaylistPushesAsSpecified needs, lifted.
-/
import Derived.Test.YtbgpojdmdnkeaaaGreatDoorM10
namespace Go.Proofs.YtbgpojdmdnkeaaaGreatDoor
open Go.Abs
set_option linter.unusedVariables false
set_option linter.unusedSimpArgs false
set_option maxRecDepth 20000
set_option maxHeartbeats 4000000

def playlist_At_1_69 (s_0 : S_api_Segment) (a_1 : Int) : Option (Bool) :=
 bindJ (S := Bool)
  (cond (decide (s_0.Begin ≤ a_1))
   (obind (playlist_end s_0) fun r8 =>
   some (.go (decide (a_1 < r8))))
   (some (.go false)))
 (fun b2 =>
  some b2)
theorem playlist_At_1_69_ok (s_0 : S_api_Segment) (a_1 : Int) (a_1b : Nat) {r : Bool} (h : playlist_At_1_69 s_0 a_1 = some r) :
  Meets Tryz.prog 69 [.agg #[.int .i64 s_0.Num, .int .i64 s_0.Begin, .int .i64 s_0.Len, .int .u8 s_0.Body.a0_, .int .u8 s_0.Body.a1_, .int .u8 s_0.Body.a2_, .int .u8 s_0.Body.a3_, .int .u8 s_0.Body.a4_, .int .u8 s_0.Body.a5_, .int .u8 s_0.Body.a6_, .int .u8 s_0.Body.a7_, .int .u8 s_0.Body.a8_, .int .u8 s_0.Body.a9_, .int .u8 s_0.Body.a10_, .int .u8 s_0.Body.a11_, .int .u8 s_0.Body.a12_, .int .u8 s_0.Body.a13_, .int .u8 s_0.Body.a14_, .int .u8 s_0.Body.a15_, .int .i64 s_0.Size], boxP a_1b 0] [box a_1b [.int .i64 a_1]] (fun v G => v = .bool r ∧ G = [box a_1b [.int .i64 a_1]]) := by
 refine fn_of_run Tryz.func69 rfl Tryz.ntmps69 rfl (fun w0 o0 => ?_)
 refine run_seq ?_
 refine run_region' ?_
 refine ot rfl rfl (t_box rfl) ?_
 rintro _ _ ⟨b1, rfl, rfl⟩
 refine oy rfl rfl (y_assign rfl) ?_
 refine ops_nil ?_
 refine goes_code ?_
 refine run_seq ?_
 refine run_drawany [box a_1b [qI a_1], box b1 [qI s_0.Num, qI s_0.Begin, qI s_0.Len, qB s_0.Body.a0_, qB s_0.Body.a1_, qB s_0.Body.a2_, qB s_0.Body.a3_, qB s_0.Body.a4_, qB s_0.Body.a5_, qB s_0.Body.a6_, qB s_0.Body.a7_, qB s_0.Body.a8_, qB s_0.Body.a9_, qB s_0.Body.a10_, qB s_0.Body.a11_, qB s_0.Body.a12_, qB s_0.Body.a13_, qB s_0.Body.a14_, qB s_0.Body.a15_, qI s_0.Size]] (by kernel_rfl) ?_
 refine any_y 0 rfl (by kernel_rfl) (by kernel_rfl) (by kernel_rfl) (ss (ss (sn))) (wn rfl) rfl (y_fieldAddr_box (sz := 0) Tryz.runUnderlying57 rfl Tryz.sizeOf3 rfl) ?_
 refine any_y 1 rfl (by kernel_rfl) (by kernel_rfl) (by kernel_rfl) (ss (ss (sn))) (wn rfl) rfl (y_load_box 1 Tryz.isAgg3 rfl rfl rfl) ?_
 refine any_y 2 rfl (by kernel_rfl) (by kernel_rfl) (by kernel_rfl) (ss (ss (sn))) (wn rfl) rfl (y_load_box 0 Tryz.isAgg3 rfl rfl rfl) ?_
 refine any_y 3 rfl (by kernel_rfl) (by kernel_rfl) (by kernel_rfl) (ss (ss (sn))) (wn rfl) rfl (y_leq rfl rfl) ?_
 refine any_y 4 rfl (by kernel_rfl) (by kernel_rfl) (by kernel_rfl) (ss (ss (sn))) (wn rfl) rfl (y_move rfl) ?_
 obtain ⟨o3, h, ho4⟩ := bindJ_some h
 refine any_cut #[true, true, true, true, true, true, true, true, true, true, false] 1 Bool (fun σ => [(13, .bool σ)]) (fun σ => [box a_1b [qI a_1], box b1 [qI s_0.Num, qI s_0.Begin, qI s_0.Len, qB s_0.Body.a0_, qB s_0.Body.a1_, qB s_0.Body.a2_, qB s_0.Body.a3_, qB s_0.Body.a4_, qB s_0.Body.a5_, qB s_0.Body.a6_, qB s_0.Body.a7_, qB s_0.Body.a8_, qB s_0.Body.a9_, qB s_0.Body.a10_, qB s_0.Body.a11_, qB s_0.Body.a12_, qB s_0.Body.a13_, qB s_0.Body.a14_, qB s_0.Body.a15_, qI s_0.Size]]) (fun σ => o3 = .go σ) (fun hL6 => ?_) ?_
 ·refine any_split 8 (decide (s_0.Begin ≤ a_1)) rfl (fun hg7 => ?_) (fun hg7 => ?_)
  ·replace h := cond_t h hg7
   refine any_y 5 rfl (by kernel_rfl) (by kernel_rfl) (by kernel_rfl) (ss (ss (sn))) (wg 4 true 8 rfl rfl rfl rfl) rfl (y_load_box 0 Tryz.isAgg3 rfl rfl rfl) ?_
   refine any_y 6 rfl (by kernel_rfl) (by kernel_rfl) (by kernel_rfl) (ss (ss (sn))) (wg 4 true 8 rfl rfl rfl rfl) rfl (y_load_boxagg (c := [qI s_0.Num, qI s_0.Begin, qI s_0.Len, qB s_0.Body.a0_, qB s_0.Body.a1_, qB s_0.Body.a2_, qB s_0.Body.a3_, qB s_0.Body.a4_, qB s_0.Body.a5_, qB s_0.Body.a6_, qB s_0.Body.a7_, qB s_0.Body.a8_, qB s_0.Body.a9_, qB s_0.Body.a10_, qB s_0.Body.a11_, qB s_0.Body.a12_, qB s_0.Body.a13_, qB s_0.Body.a14_, qB s_0.Body.a15_, qI s_0.Size]) 1 Tryz.isAgg57 Tryz.sizeOf57 rfl rfl rfl) ?_
   refine any_all [7] (by kernel_rfl) rfl (anyo_cons ?_ anyo_nil)
   obtain ⟨r8, hr9, h⟩ := obind_some h
   refine any_t rfl (wg 4 true 8 rfl rfl rfl rfl) rfl (t_callx (vs := [.agg #[qI s_0.Num, qI s_0.Begin, qI s_0.Len, qB s_0.Body.a0_, qB s_0.Body.a1_, qB s_0.Body.a2_, qB s_0.Body.a3_, qB s_0.Body.a4_, qB s_0.Body.a5_, qB s_0.Body.a6_, qB s_0.Body.a7_, qB s_0.Body.a8_, qB s_0.Body.a9_, qB s_0.Body.a10_, qB s_0.Body.a11_, qB s_0.Body.a12_, qB s_0.Body.a13_, qB s_0.Body.a14_, qB s_0.Body.a15_, qI s_0.Size]]) (cs := []) [] rfl Tryz.call60 rfl (playlist_end_ok s_0  hr9) showsX_nil rfl (.inl rfl)) ?_
   rintro _ _ ⟨_, ⟨rfl, rfl⟩, rfl⟩
   refine ⟨(ss (ss (sn))), ?_⟩
   refine any_y 8 rfl (by kernel_rfl) (by kernel_rfl) (by kernel_rfl) (ss (ss (sn))) (wg 4 true 8 rfl rfl rfl rfl) rfl (y_lss rfl rfl) ?_
   refine any_y 9 rfl (by kernel_rfl) (by kernel_rfl) (by kernel_rfl) (ss (ss (sn))) (wn rfl) rfl (y_pick (b := true) rfl rfl) ?_
   obtain rfl := some_eq h
   exact any_weak [(13, .bool (decide (a_1 < r8)))] [0, 1] [box a_1b [qI a_1], box b1 [qI s_0.Num, qI s_0.Begin, qI s_0.Len, qB s_0.Body.a0_, qB s_0.Body.a1_, qB s_0.Body.a2_, qB s_0.Body.a3_, qB s_0.Body.a4_, qB s_0.Body.a5_, qB s_0.Body.a6_, qB s_0.Body.a7_, qB s_0.Body.a8_, qB s_0.Body.a9_, qB s_0.Body.a10_, qB s_0.Body.a11_, qB s_0.Body.a12_, qB s_0.Body.a13_, qB s_0.Body.a14_, qB s_0.Body.a15_, qI s_0.Size]] (by kernel_rfl) (qv1 rfl) (by decide) rfl (hL6 (decide (a_1 < r8)) rfl)
  ·replace h := cond_f h hg7
   refine any_no 5 rfl (by kernel_rfl) (by kernel_rfl) (by kernel_rfl) (ss (ss (sn))) 4 true 8 rfl rfl rfl rfl rfl ?_
   refine any_no 6 rfl (by kernel_rfl) (by kernel_rfl) (by kernel_rfl) (ss (ss (sn))) 4 true 8 rfl rfl rfl rfl rfl ?_
   refine any_no 7 rfl (by kernel_rfl) (by kernel_rfl) (by kernel_rfl) (ss (ss (sn))) 4 true 8 rfl rfl rfl rfl rfl ?_
   refine any_no 8 rfl (by kernel_rfl) (by kernel_rfl) (by kernel_rfl) (ss (ss (sn))) 4 true 8 rfl rfl rfl rfl rfl ?_
   refine any_y 9 rfl (by kernel_rfl) (by kernel_rfl) (by kernel_rfl) (ss (ss (sn))) (wn rfl) rfl (y_pick (b := false) rfl rfl) ?_
   obtain rfl := some_eq h
   exact any_weak [(13, .bool false)] [0, 1] [box a_1b [qI a_1], box b1 [qI s_0.Num, qI s_0.Begin, qI s_0.Len, qB s_0.Body.a0_, qB s_0.Body.a1_, qB s_0.Body.a2_, qB s_0.Body.a3_, qB s_0.Body.a4_, qB s_0.Body.a5_, qB s_0.Body.a6_, qB s_0.Body.a7_, qB s_0.Body.a8_, qB s_0.Body.a9_, qB s_0.Body.a10_, qB s_0.Body.a11_, qB s_0.Body.a12_, qB s_0.Body.a13_, qB s_0.Body.a14_, qB s_0.Body.a15_, qI s_0.Size]] (by kernel_rfl) (qv1 rfl) (by decide) rfl (hL6 false rfl)
 rintro b2 hj
 obtain rfl : o3 = _ := hj
 replace h := after_go ho4
 clear ho4
 refine any_y 10 rfl (by kernel_rfl) (by kernel_rfl) (by kernel_rfl) (ss (ss (sn))) (wn rfl) rfl (y_assign rfl) ?_
 refine any_nil (by kernel_rfl) ?_
 refine goes_code ?_
 refine run_ret ?_
 obtain rfl := some_eq h
 refine fin_slots [3] [.bool b2] [0] [box a_1b [qI a_1]] Tryz.results69 rfl (by decide) rfl ?_
 exact ⟨rfl, rfl⟩

def slices_IndexFunc_weirgate_api_Segment_weirgate_api_Segment_80_v1_L1 (s_0 : (List S_api_Segment)) (f_1_0 : Int) : (Int) → Option (Lp (Int) (Lp (Unit) (Int))) :=
 fun s_5 =>
  cond (decide (s_5 < (s_0.length : Int)))
   (idx s_0 s_5 fun x11 =>
   obind (playlist_At_1_69 x11 f_1_0) fun r12 =>
   cond r12
    (some (.stop (.stop s_5)))
    (some (.go (IntKind.i64.wrap (s_5 + 1)))))
   (some (.stop (.go ())))
def slices_IndexFunc_weirgate_api_Segment_weirgate_api_Segment_80_v1 (n : Nat) (s_0 : (List S_api_Segment)) (f_1_0 : Int) : Option (Int) :=
 bindJ (S := Unit)
  (iter (slices_IndexFunc_weirgate_api_Segment_weirgate_api_Segment_80_v1_L1 s_0 f_1_0) n 0)
 (fun _ =>
  some (-1))
theorem slices_IndexFunc_weirgate_api_Segment_weirgate_api_Segment_80_v1_ok (n : Nat) (s_0 : (List S_api_Segment)) (f_1_0 : Int) (s_0v : Value) (f_1_0b : Nat) {r : Int} (h : slices_IndexFunc_weirgate_api_Segment_weirgate_api_Segment_80_v1 n s_0 f_1_0 = some r) :
  Meets Tryz.prog 80 [s_0v, .func (.func 69) #[] #[boxP f_1_0b 0]] [ro s_0v 20 (s_0.map S_api_Segment.enc), box f_1_0b [.int .i64 f_1_0]] (fun v G => v = .int .i64 r ∧ G = [box f_1_0b [.int .i64 f_1_0]]) := by
 refine fn_of_run Tryz.func80 rfl Tryz.ntmps80 rfl (fun w0 o0 => ?_)
 refine run_seq ?_
 refine run_region' ?_
 refine oy rfl rfl (y_assign rfl) ?_
 refine ops_nil ?_
 refine goes_code ?_
 obtain ⟨o1, h, ho2⟩ := bindJ_some h
 refine run_cut ((Unit) × (Unit)) (fun σ => []) (fun σ => [box f_1_0b [qI f_1_0]]) (fun σ => o1 = .go σ.1) (fun L4 hL3 => ?_) ?_
 ·
  refine run_seq ?_
  refine run_region' ?_
  refine oy rfl rfl (y_move rfl) ?_
  refine oy rfl rfl ((y_len 0 rfl Tryz.runUnderlying22 rfl rfl reads_ro).to (v_len S_api_Segment.enc _)) ?_
  refine oy rfl rfl (y_move rfl) ?_
  refine ops_nil ?_
  refine goes_code ?_
  refine run_block ?_
  refine run_iter (step := slices_IndexFunc_weirgate_api_Segment_weirgate_api_Segment_80_v1_L1 s_0 f_1_0) (n := n) (s0 := 0) h (G := Unit) () (fun σ γ => [(8, qI σ), (0, s_0v), (1, .func (.func 69) #[] #[boxP f_1_0b 0]), (7, qI (s_0.length : Int))]) (fun σ γ => [ro s_0v 20 (s_0.map S_api_Segment.enc), box f_1_0b [qI f_1_0]]) [0, 1] (qv4 rfl rfl rfl rfl) (by decide) rfl ?_
  rintro s_5 _ o6 h L9 hgo7 hstop8
  change Run _ _ _ (VF.of [(8, qI s_5), (0, s_0v), (1, .func (.func 69) #[] #[boxP f_1_0b 0]), (7, qI (s_0.length : Int))]) [ro s_0v 20 (s_0.map S_api_Segment.enc), box f_1_0b [qI f_1_0]]
  refine run_seq ?_
  refine run_region' ?_
  refine oy rfl rfl (y_lss rfl rfl) ?_
  refine ops_nil ?_
  refine goes_code ?_
  refine run_seq ?_
  refine run_cond (decide (s_5 < (s_0.length : Int))) rfl (fun hc10 => ?_) (fun hc10 => ?_)
  ·replace h := cond_t h hc10
   refine run_skip ?_
   refine goes_code ?_
   refine run_seq ?_
   refine run_block ?_
   refine run_seq ?_
   refine run_region' ?_
   refine oy rfl rfl (y_move rfl) ?_
   refine oy rfl rfl (y_assign rfl) ?_
   refine ops_nil ?_
   refine goes_code ?_
   refine run_seq ?_
   refine run_region' ?_
   refine oy rfl rfl (y_move rfl) ?_
   refine oy rfl rfl (y_move rfl) ?_
   refine oy rfl rfl (y_move rfl) ?_
   obtain ⟨x11, hzx11, hlx11, hxx11, h⟩ := idx_some h
   refine oy rfl rfl (y_indexAddrI (kd := .i64) (i := s_5) 0 Tryz.runUnderlying22 Tryz.sizeOf57 rfl rfl rfl reads_ro hzx11 (map_lt hlx11)) ?_
   refine oy rfl rfl (y_load_agg (i := s_5.toNat) (c := [qI x11.Num, qI x11.Begin, qI x11.Len, qB x11.Body.a0_, qB x11.Body.a1_, qB x11.Body.a2_, qB x11.Body.a3_, qB x11.Body.a4_, qB x11.Body.a5_, qB x11.Body.a6_, qB x11.Body.a7_, qB x11.Body.a8_, qB x11.Body.a9_, qB x11.Body.a10_, qB x11.Body.a11_, qB x11.Body.a12_, qB x11.Body.a13_, qB x11.Body.a14_, qB x11.Body.a15_, qI x11.Size]) 0 Tryz.isAgg57 Tryz.sizeOf57 rfl rfl reads_ro (map_get hxx11)) ?_
   obtain ⟨r12, hr13, h⟩ := obind_some h
   refine ot rfl rfl (t_callx (vs := [.agg #[qI x11.Num, qI x11.Begin, qI x11.Len, qB x11.Body.a0_, qB x11.Body.a1_, qB x11.Body.a2_, qB x11.Body.a3_, qB x11.Body.a4_, qB x11.Body.a5_, qB x11.Body.a6_, qB x11.Body.a7_, qB x11.Body.a8_, qB x11.Body.a9_, qB x11.Body.a10_, qB x11.Body.a11_, qB x11.Body.a12_, qB x11.Body.a13_, qB x11.Body.a14_, qB x11.Body.a15_, qI x11.Size]]) (cs := [boxP f_1_0b 0]) [(1, 2)] rfl Tryz.call69 rfl (playlist_At_1_69_ok x11 f_1_0 f_1_0b hr13) (showsX_lend 1 rfl showsX_nil) rfl (.inl rfl)) ?_
   rintro _ _ ⟨_, ⟨rfl, rfl⟩, rfl⟩
   refine ops_nil ?_
   refine goes_code ?_
   refine run_cond r12 rfl (fun hc14 => ?_) (fun hc14 => ?_)
   ·replace h := cond_t h hc14
    refine run_seq ?_
    refine run_weak [(5, qI s_5)] [2] [box f_1_0b [qI f_1_0]] (qv1 rfl) (by decide) rfl ?_
    refine run_region' ?_
    refine oy rfl rfl (y_move rfl) ?_
    refine oy rfl rfl (y_assign rfl) ?_
    refine ops_nil ?_
    refine goes_code ?_
    refine run_ret ?_
    obtain rfl := some_eq h
    obtain rfl := hstop8 _ rfl
    skip
    obtain rfl := after_stop ho2
    refine fin_slots [4] [qI s_5] [0] [box f_1_0b [qI f_1_0]] Tryz.results80 rfl (by decide) rfl ?_
    exact ⟨rfl, rfl⟩
   ·replace h := cond_f h hc14
    refine run_skip ?_
    refine goes_blk ?_
    refine goes_code ?_
    refine run_weak [(8, qI s_5), (0, s_0v), (1, .func (.func 69) #[] #[boxP f_1_0b 0]), (7, qI (s_0.length : Int))] [0, 2] [ro s_0v 20 (s_0.map S_api_Segment.enc), box f_1_0b [qI f_1_0]] (qv4 rfl rfl rfl rfl) (by decide) rfl ?_
    refine run_region' ?_
    refine oy rfl rfl (y_add rfl rfl) ?_
    refine oy rfl rfl (y_move rfl) ?_
    refine ops_nil ?_
    obtain rfl := some_eq h
    exact goes_iter hgo7 (IntKind.i64.wrap (s_5 + 1)) () [0, 1] rfl (qv4 rfl rfl rfl rfl) (by decide) rfl
  ·replace h := cond_f h hc10
   refine run_exit _ rfl ?_
   obtain rfl := some_eq h
   obtain rfl := hstop8 _ rfl
   exact goes_cut hL3 ((), ()) [1] vnil (by decide) rfl rfl
 rintro ⟨_, _⟩ hj
 obtain rfl : o1 = _ := hj
 replace h := after_go ho2
 clear ho2
 change Run _ _ _ (VF.of []) [box f_1_0b [qI f_1_0]]
 refine run_seq ?_
 refine run_region' ?_
 refine oy rfl rfl (y_assign rfl) ?_
 refine ops_nil ?_
 refine goes_code ?_
 refine run_ret ?_
 obtain rfl := some_eq h
 refine fin_slots [4] [qI (-1)] [0] [box f_1_0b [qI f_1_0]] Tryz.results80 rfl (by decide) rfl ?_
 exact ⟨rfl, rfl⟩

def playlist_one_v1 (n : Nat) (p_0 : S_api_Playlist) (is_1_0 : Int) : Option (S_api_Segment × Int) :=
 obind (slices_IndexFunc_weirgate_api_Segment_weirgate_api_Segment_80_v1 n p_0.L is_1_0) fun r3 =>
 cond (decide (0 ≤ r3))
  (idx p_0.L r3 fun x6 =>
  some (x6, 0))
  (some ((S_api_Segment.mk 0 0 0 (S_api_Digest.mk 0 0 0 0 0 0 0 0 0 0 0 0 0 0 0 0) 0), 5))
theorem playlist_one_v1_ok (n : Nat) (p_0 : S_api_Playlist) (is_1_0 : Int) (p_0_Lv : Value) (is_1_0b : Nat) {r : S_api_Segment × Int} (h : playlist_one_v1 n p_0 is_1_0 = some r) :
  Meets Tryz.prog 67 [.agg #[.int .i64 p_0.First, p_0_Lv, .bool p_0.Done], .func (.func 69) #[] #[boxP is_1_0b 0]] [ro p_0_Lv 20 (p_0.L.map S_api_Segment.enc), box is_1_0b [.int .i64 is_1_0]] (fun v G => v = .tuple #[.agg #[.int .i64 r.1.Num, .int .i64 r.1.Begin, .int .i64 r.1.Len, .int .u8 r.1.Body.a0_, .int .u8 r.1.Body.a1_, .int .u8 r.1.Body.a2_, .int .u8 r.1.Body.a3_, .int .u8 r.1.Body.a4_, .int .u8 r.1.Body.a5_, .int .u8 r.1.Body.a6_, .int .u8 r.1.Body.a7_, .int .u8 r.1.Body.a8_, .int .u8 r.1.Body.a9_, .int .u8 r.1.Body.a10_, .int .u8 r.1.Body.a11_, .int .u8 r.1.Body.a12_, .int .u8 r.1.Body.a13_, .int .u8 r.1.Body.a14_, .int .u8 r.1.Body.a15_, .int .i64 r.1.Size], .int .i64 r.2] ∧ G = [box is_1_0b [.int .i64 is_1_0]]) := by
 refine fn_of_run Tryz.func67 rfl Tryz.ntmps67 rfl (fun w0 o0 => ?_)
 refine run_seq ?_
 refine run_region' ?_
 refine ot rfl rfl (t_box rfl) ?_
 rintro _ _ ⟨b1, rfl, rfl⟩
 refine ot rfl rfl (t_alloc Tryz.zeroValue57) ?_
 rintro _ _ ⟨b2, rfl, rfl⟩
 refine oy rfl rfl (y_assign rfl) ?_
 refine ops_nil ?_
 refine goes_code ?_
 refine run_seq ?_
 refine run_seq ?_
 refine run_region' ?_
 refine oy rfl rfl (y_fieldAddr_box (sz := 0) Tryz.runUnderlying24 rfl Tryz.sizeOf22 rfl) ?_
 refine oy rfl rfl (y_load_box 2 Tryz.isAgg22 rfl rfl rfl) ?_
 refine oy rfl rfl (y_move rfl) ?_
 obtain ⟨r3, hr4, h⟩ := obind_some h
 refine ot rfl rfl (t_callx (vs := [p_0_Lv, .func (.func 69) #[] #[boxP is_1_0b 0]]) (cs := []) [(0, 0), (1, 2)] rfl Tryz.call80 rfl (slices_IndexFunc_weirgate_api_Segment_weirgate_api_Segment_80_v1_ok n p_0.L is_1_0 p_0_Lv is_1_0b hr4) (showsX_view 0 rfl views_ro (showsX_lend 1 rfl showsX_nil)) rfl (.inl rfl)) ?_
 rintro _ _ ⟨_, ⟨rfl, rfl⟩, rfl⟩
 refine oy rfl rfl (y_assign rfl) ?_
 refine ops_nil ?_
 refine goes_code ?_
 refine run_seq ?_
 refine run_weak [(2, boxP b1 0), (4, boxP b2 0), (6, qI r3)] [0, 2, 3, 4] [ro p_0_Lv 20 (p_0.L.map S_api_Segment.enc), box b1 [qI p_0.First, p_0_Lv, .bool p_0.Done], box b2 [qI 0, qI 0, qI 0, qB 0, qB 0, qB 0, qB 0, qB 0, qB 0, qB 0, qB 0, qB 0, qB 0, qB 0, qB 0, qB 0, qB 0, qB 0, qB 0, qI 0], box is_1_0b [qI is_1_0]] (qv3 rfl rfl rfl) (by decide) rfl ?_
 refine run_region' ?_
 refine oy rfl rfl (y_move rfl) ?_
 refine oy rfl rfl (y_geq rfl rfl) ?_
 refine ops_nil ?_
 refine goes_code ?_
 refine run_cond (decide (0 ≤ r3)) rfl (fun hc5 => ?_) (fun hc5 => ?_)
 ·replace h := cond_t h hc5
  refine run_seq ?_
  refine run_region' ?_
  refine oy rfl rfl (y_fieldAddr_box (sz := 0) Tryz.runUnderlying24 rfl Tryz.sizeOf22 rfl) ?_
  refine oy rfl rfl (y_load_box 1 Tryz.isAgg22 rfl rfl rfl) ?_
  refine oy rfl rfl (y_move rfl) ?_
  obtain ⟨x6, hzx6, hlx6, hxx6, h⟩ := idx_some h
  refine oy rfl rfl (y_indexAddrI (kd := .i64) (i := r3) 0 Tryz.runUnderlying22 Tryz.sizeOf57 rfl rfl rfl reads_ro hzx6 (map_lt hlx6)) ?_
  refine oy rfl rfl (y_load_agg (i := r3.toNat) (c := [qI x6.Num, qI x6.Begin, qI x6.Len, qB x6.Body.a0_, qB x6.Body.a1_, qB x6.Body.a2_, qB x6.Body.a3_, qB x6.Body.a4_, qB x6.Body.a5_, qB x6.Body.a6_, qB x6.Body.a7_, qB x6.Body.a8_, qB x6.Body.a9_, qB x6.Body.a10_, qB x6.Body.a11_, qB x6.Body.a12_, qB x6.Body.a13_, qB x6.Body.a14_, qB x6.Body.a15_, qI x6.Size]) 0 Tryz.isAgg57 Tryz.sizeOf57 rfl rfl reads_ro (map_get hxx6)) ?_
  refine ot rfl rfl (t_store 2 Tryz.sizeOf57 rfl rfl rfl rfl (by simp [Value.cells, boxP]) (by simp [Value.cells, Value.oneCell', boxP])) ?_
  rintro _ _ ⟨rfl, rfl⟩
  refine ops_turn (retell 2 (g := box b2 [qI x6.Num, qI x6.Begin, qI x6.Len, qB x6.Body.a0_, qB x6.Body.a1_, qB x6.Body.a2_, qB x6.Body.a3_, qB x6.Body.a4_, qB x6.Body.a5_, qB x6.Body.a6_, qB x6.Body.a7_, qB x6.Body.a8_, qB x6.Body.a9_, qB x6.Body.a10_, qB x6.Body.a11_, qB x6.Body.a12_, qB x6.Body.a13_, qB x6.Body.a14_, qB x6.Body.a15_, qI x6.Size]) rfl (by kernel_rfl)) ?_
  refine oy rfl rfl (y_assign rfl) ?_
  refine ops_nil ?_
  refine goes_code ?_
  refine run_ret ?_
  obtain rfl := some_eq h
  refine fin_res [.cell 4 57, .tmp 5] [.agg #[qI x6.Num, qI x6.Begin, qI x6.Len, qB x6.Body.a0_, qB x6.Body.a1_, qB x6.Body.a2_, qB x6.Body.a3_, qB x6.Body.a4_, qB x6.Body.a5_, qB x6.Body.a6_, qB x6.Body.a7_, qB x6.Body.a8_, qB x6.Body.a9_, qB x6.Body.a10_, qB x6.Body.a11_, qB x6.Body.a12_, qB x6.Body.a13_, qB x6.Body.a14_, qB x6.Body.a15_, qI x6.Size], qI 0] [3] [box is_1_0b [qI is_1_0]] Tryz.results67 rfl (rescons (res_box 2 Tryz.isAgg57 Tryz.sizeOf57 rfl rfl rfl) (rescons (res_tmp rfl) resnil)) (by decide) rfl ?_
  exact ⟨rfl, rfl⟩
 ·replace h := cond_f h hc5
  refine run_skip ?_
  refine goes_code ?_
  refine run_seq ?_
  refine run_region' ?_
  refine oy rfl rfl (y_build_struct (cells := #[qI 0, qI 0, qI 0, qB 0, qB 0, qB 0, qB 0, qB 0, qB 0, qB 0, qB 0, qB 0, qB 0, qB 0, qB 0, qB 0, qB 0, qB 0, qB 0, qI 0]) [] [] Tryz.zeroValue57 Tryz.runUnderlying57 (fs_cons Tryz.sizeOf3 (fs_cons Tryz.sizeOf3 (fs_cons Tryz.sizeOf3 (fs_cons Tryz.sizeOf55 (fs_cons Tryz.sizeOf3 fs_nil))))) rfl (by kernel_rfl) (by kernel_rfl)) ?_
  refine ot rfl rfl (t_store 2 Tryz.sizeOf57 rfl rfl rfl rfl (by simp [Value.cells, boxP]) (by simp [Value.cells, Value.oneCell', boxP])) ?_
  rintro _ _ ⟨rfl, rfl⟩
  refine ops_turn (retell 2 (g := box b2 [qI 0, qI 0, qI 0, qB 0, qB 0, qB 0, qB 0, qB 0, qB 0, qB 0, qB 0, qB 0, qB 0, qB 0, qB 0, qB 0, qB 0, qB 0, qB 0, qI 0]) rfl (by kernel_rfl)) ?_
  refine oy rfl rfl (y_assign rfl) ?_
  refine ops_nil ?_
  refine goes_code ?_
  refine run_ret ?_
  obtain rfl := some_eq h
  refine fin_res [.cell 4 57, .tmp 5] [.agg #[qI 0, qI 0, qI 0, qB 0, qB 0, qB 0, qB 0, qB 0, qB 0, qB 0, qB 0, qB 0, qB 0, qB 0, qB 0, qB 0, qB 0, qB 0, qB 0, qI 0], qI 5] [3] [box is_1_0b [qI is_1_0]] Tryz.results67 rfl (rescons (res_box 2 Tryz.isAgg57 Tryz.sizeOf57 rfl rfl rfl) (rescons (res_tmp rfl) resnil)) (by decide) rfl ?_
  exact ⟨rfl, rfl⟩

def playlist_At (n : Nat) (p_0 : S_api_Playlist) (t_1 : Int) : Option (S_api_Segment × Int) :=
 obind (playlist_one_v1 n p_0 t_1) fun r4 =>
 some (r4.1, r4.2)
theorem playlist_At_ok (n : Nat) (p_0 : S_api_Playlist) (t_1 : Int) (p_0_Lv : Value) {r : S_api_Segment × Int} (h : playlist_At n p_0 t_1 = some r) :
  Meets Tryz.prog 24 [.agg #[.int .i64 p_0.First, p_0_Lv, .bool p_0.Done], .int .i64 t_1] [ro p_0_Lv 20 (p_0.L.map S_api_Segment.enc)] (fun v G => v = .tuple #[.agg #[.int .i64 r.1.Num, .int .i64 r.1.Begin, .int .i64 r.1.Len, .int .u8 r.1.Body.a0_, .int .u8 r.1.Body.a1_, .int .u8 r.1.Body.a2_, .int .u8 r.1.Body.a3_, .int .u8 r.1.Body.a4_, .int .u8 r.1.Body.a5_, .int .u8 r.1.Body.a6_, .int .u8 r.1.Body.a7_, .int .u8 r.1.Body.a8_, .int .u8 r.1.Body.a9_, .int .u8 r.1.Body.a10_, .int .u8 r.1.Body.a11_, .int .u8 r.1.Body.a12_, .int .u8 r.1.Body.a13_, .int .u8 r.1.Body.a14_, .int .u8 r.1.Body.a15_, .int .i64 r.1.Size], .int .i64 r.2] ∧ G = []) := by
 refine fn_of_run Tryz.func24 rfl Tryz.ntmps24 rfl (fun w0 o0 => ?_)
 refine run_seq ?_
 refine run_region' ?_
 refine ot rfl rfl (t_box rfl) ?_
 rintro _ _ ⟨b1, rfl, rfl⟩
 refine ot rfl rfl (t_box rfl) ?_
 rintro _ _ ⟨b2, rfl, rfl⟩
 refine ot rfl rfl (t_alloc Tryz.zeroValue57) ?_
 rintro _ _ ⟨b3, rfl, rfl⟩
 refine oy rfl rfl (y_assign rfl) ?_
 refine ops_nil ?_
 refine goes_code ?_
 refine run_seq ?_
 refine run_region' ?_
 refine oy rfl rfl (y_load_boxagg (c := [qI p_0.First, p_0_Lv, .bool p_0.Done]) 1 Tryz.isAgg24 Tryz.sizeOf24 rfl rfl rfl) ?_
 refine oy rfl rfl (y_makeFunc (vs := [boxP b2 0]) rfl) ?_
 obtain ⟨r4, hr5, h⟩ := obind_some h
 refine ot rfl rfl (t_callx (vs := [.agg #[qI p_0.First, p_0_Lv, .bool p_0.Done], .func (.func 69) #[] #[boxP b2 0]]) (cs := []) [(0, 0), (2, 2)] rfl Tryz.call67 rfl (playlist_one_v1_ok n p_0 t_1 p_0_Lv b2 hr5) (showsX_view 0 rfl views_ro (showsX_lend 2 rfl showsX_nil)) rfl (.inl rfl)) ?_
 rintro _ _ ⟨_, ⟨rfl, rfl⟩, rfl⟩
 refine oy rfl rfl (y_extract rfl rfl) ?_
 refine oy rfl rfl (y_extract rfl rfl) ?_
 refine ot rfl rfl (t_store 3 Tryz.sizeOf57 rfl rfl rfl rfl (by simp [Value.cells, boxP]) (by simp [Value.cells, Value.oneCell', boxP])) ?_
 rintro _ _ ⟨rfl, rfl⟩
 refine ops_turn (retell 3 (g := box b3 [qI r4.1.Num, qI r4.1.Begin, qI r4.1.Len, qB r4.1.Body.a0_, qB r4.1.Body.a1_, qB r4.1.Body.a2_, qB r4.1.Body.a3_, qB r4.1.Body.a4_, qB r4.1.Body.a5_, qB r4.1.Body.a6_, qB r4.1.Body.a7_, qB r4.1.Body.a8_, qB r4.1.Body.a9_, qB r4.1.Body.a10_, qB r4.1.Body.a11_, qB r4.1.Body.a12_, qB r4.1.Body.a13_, qB r4.1.Body.a14_, qB r4.1.Body.a15_, qI r4.1.Size]) rfl (by kernel_rfl)) ?_
 refine oy rfl rfl (y_assign rfl) ?_
 refine ops_nil ?_
 refine goes_code ?_
 refine run_ret ?_
 obtain rfl := some_eq h
 refine fin_res [.cell 4 57, .tmp 5] [.agg #[qI r4.1.Num, qI r4.1.Begin, qI r4.1.Len, qB r4.1.Body.a0_, qB r4.1.Body.a1_, qB r4.1.Body.a2_, qB r4.1.Body.a3_, qB r4.1.Body.a4_, qB r4.1.Body.a5_, qB r4.1.Body.a6_, qB r4.1.Body.a7_, qB r4.1.Body.a8_, qB r4.1.Body.a9_, qB r4.1.Body.a10_, qB r4.1.Body.a11_, qB r4.1.Body.a12_, qB r4.1.Body.a13_, qB r4.1.Body.a14_, qB r4.1.Body.a15_, qI r4.1.Size], qI r4.2] [] [] Tryz.results24 rfl (rescons (res_box 3 Tryz.isAgg57 Tryz.sizeOf57 rfl rfl rfl) (rescons (res_tmp rfl) resnil)) (by decide) rfl ?_
 exact ⟨rfl, rfl⟩

def ref43_At_L1 (p_0 : S_api_Playlist) (t_1 : Int) : (Int) → Option (Lp (Int) (Lp (Unit) (S_ref43_Got))) :=
 fun i_7 =>
  cond (decide (i_7 < (p_0.L.length : Int)))
   (idx p_0.L i_7 fun x13 =>
   cond (decide (x13.Begin ≤ t_1) && decide (t_1 < (IntKind.i64.wrap (x13.Begin + x13.Len))))
    (idx p_0.L i_7 fun x18 =>
    some (.stop (.stop (S_ref43_Got.mk x18 0))))
    (some (.go (IntKind.i64.wrap (i_7 + 1)))))
   (some (.stop (.go ())))
def ref43_At (n : Nat) (p_0 : S_api_Playlist) (t_1 : Int) : Option (S_ref43_Got) :=
 bindJ (S := Unit)
  (iter (ref43_At_L1 p_0 t_1) n 0)
 (fun _ =>
  some (S_ref43_Got.mk (S_api_Segment.mk 0 0 0 (S_api_Digest.mk 0 0 0 0 0 0 0 0 0 0 0 0 0 0 0 0) 0) 5))
theorem ref43_At_ok (n : Nat) (p_0 : S_api_Playlist) (t_1 : Int) (p_0_Lv : Value) {r : S_ref43_Got} (h : ref43_At n p_0 t_1 = some r) :
  Meets Tryz.prog 26 [.agg #[.int .i64 p_0.First, p_0_Lv, .bool p_0.Done], .int .i64 t_1] [ro p_0_Lv 20 (p_0.L.map S_api_Segment.enc)] (fun v G => v = .agg #[.int .i64 r.S.Num, .int .i64 r.S.Begin, .int .i64 r.S.Len, .int .u8 r.S.Body.a0_, .int .u8 r.S.Body.a1_, .int .u8 r.S.Body.a2_, .int .u8 r.S.Body.a3_, .int .u8 r.S.Body.a4_, .int .u8 r.S.Body.a5_, .int .u8 r.S.Body.a6_, .int .u8 r.S.Body.a7_, .int .u8 r.S.Body.a8_, .int .u8 r.S.Body.a9_, .int .u8 r.S.Body.a10_, .int .u8 r.S.Body.a11_, .int .u8 r.S.Body.a12_, .int .u8 r.S.Body.a13_, .int .u8 r.S.Body.a14_, .int .u8 r.S.Body.a15_, .int .i64 r.S.Size, .int .i64 r.E] ∧ G = []) := by
 refine fn_of_run Tryz.func26 rfl Tryz.ntmps26 rfl (fun w0 o0 => ?_)
 refine run_seq ?_
 refine run_region' ?_
 refine ot rfl rfl (t_box rfl) ?_
 rintro _ _ ⟨b1, rfl, rfl⟩
 refine ot rfl rfl (t_alloc Tryz.zeroValue61) ?_
 rintro _ _ ⟨b2, rfl, rfl⟩
 refine ops_nil ?_
 refine goes_code ?_
 obtain ⟨o3, h, ho4⟩ := bindJ_some h
 refine run_cut ((Unit) × (Unit)) (fun σ => [(4, boxP b2 0)]) (fun σ => [box b2 [qI 0, qI 0, qI 0, qB 0, qB 0, qB 0, qB 0, qB 0, qB 0, qB 0, qB 0, qB 0, qB 0, qB 0, qB 0, qB 0, qB 0, qB 0, qB 0, qI 0, qI 0]]) (fun σ => o3 = .go σ.1) (fun L6 hL5 => ?_) ?_
 ·
  refine run_seq ?_
  refine run_region' ?_
  refine oy rfl rfl (y_assign rfl) ?_
  refine ops_nil ?_
  refine goes_code ?_
  refine run_block ?_
  refine run_iter (step := ref43_At_L1 p_0 t_1) (n := n) (s0 := 0) h (G := Unit) () (fun σ γ => [(5, qI σ), (1, qI t_1), (2, boxP b1 0), (4, boxP b2 0)]) (fun σ γ => [box b1 [qI p_0.First, p_0_Lv, .bool p_0.Done], ro p_0_Lv 20 (p_0.L.map S_api_Segment.enc), box b2 [qI 0, qI 0, qI 0, qB 0, qB 0, qB 0, qB 0, qB 0, qB 0, qB 0, qB 0, qB 0, qB 0, qB 0, qB 0, qB 0, qB 0, qB 0, qB 0, qI 0, qI 0]]) [1, 0, 2] (qv4 rfl rfl rfl rfl) (by decide) rfl ?_
  rintro i_7 _ o8 h L11 hgo9 hstop10
  change Run _ _ _ (VF.of [(5, qI i_7), (1, qI t_1), (2, boxP b1 0), (4, boxP b2 0)]) [box b1 [qI p_0.First, p_0_Lv, .bool p_0.Done], ro p_0_Lv 20 (p_0.L.map S_api_Segment.enc), box b2 [qI 0, qI 0, qI 0, qB 0, qB 0, qB 0, qB 0, qB 0, qB 0, qB 0, qB 0, qB 0, qB 0, qB 0, qB 0, qB 0, qB 0, qB 0, qB 0, qI 0, qI 0]]
  refine run_seq ?_
  refine run_seq ?_
  refine run_region' ?_
  refine oy rfl rfl (y_move rfl) ?_
  refine oy rfl rfl (y_fieldAddr_box (sz := 0) Tryz.runUnderlying24 rfl Tryz.sizeOf22 rfl) ?_
  refine oy rfl rfl (y_load_box 0 Tryz.isAgg22 rfl rfl rfl) ?_
  refine oy rfl rfl ((y_len 1 rfl Tryz.runUnderlying22 rfl rfl reads_ro).to (v_len S_api_Segment.enc _)) ?_
  refine oy rfl rfl (y_lss rfl rfl) ?_
  refine ops_nil ?_
  refine goes_code ?_
  refine run_cond (decide (i_7 < (p_0.L.length : Int))) rfl (fun hc12 => ?_) (fun hc12 => ?_)
  ·replace h := cond_t h hc12
   refine run_skip ?_
   refine goes_code ?_
   refine run_seq ?_
   refine run_block ?_
   refine run_seq ?_
   refine run_draw (by kernel_rfl) (by kernel_rfl) ?_
   refine sy rfl rfl (y_fieldAddr_box (sz := 0) Tryz.runUnderlying24 rfl Tryz.sizeOf22 rfl) ?_
   refine sy rfl rfl (y_load_box 0 Tryz.isAgg22 rfl rfl rfl) ?_
   refine sy rfl rfl (y_move rfl) ?_
   obtain ⟨x13, hzx13, hlx13, hxx13, h⟩ := idx_some h
   refine sy rfl rfl (y_indexAddrI (kd := .i64) (i := i_7) 1 Tryz.runUnderlying22 Tryz.sizeOf57 rfl rfl rfl reads_ro hzx13 (map_lt hlx13)) ?_
   refine sy rfl rfl (y_fieldAddr_elem (sz := 0) Tryz.runUnderlying57 rfl Tryz.sizeOf3 rfl) ?_
   refine sy rfl rfl (y_load_field (i := i_7.toNat) (j := 1) 1 Tryz.isAgg3 rfl rfl reads_ro (map_get hxx13) rfl) ?_
   refine sy rfl rfl (y_move rfl) ?_
   refine sy rfl rfl (y_leq rfl rfl) ?_
   refine sy rfl rfl (y_move rfl) ?_
   refine still_cut 16 (Bool) (fun σ => [(5, qI i_7), (1, qI t_1), (2, boxP b1 0), (4, boxP b2 0), (37, .bool σ)]) (fun σ => [box b1 [qI p_0.First, p_0_Lv, .bool p_0.Done], ro p_0_Lv 20 (p_0.L.map S_api_Segment.enc), box b2 [qI 0, qI 0, qI 0, qB 0, qB 0, qB 0, qB 0, qB 0, qB 0, qB 0, qB 0, qB 0, qB 0, qB 0, qB 0, qB 0, qB 0, qB 0, qB 0, qI 0, qI 0]]) (fun σ => σ = (decide (x13.Begin ≤ t_1) && decide (t_1 < (IntKind.i64.wrap (x13.Begin + x13.Len))))) (fun L14 hL15 => ?_) ?_
   ·refine still_split 21 (decide (x13.Begin ≤ t_1)) rfl (fun hg16 => ?_) (fun hg16 => ?_)
    ·skip
     refine still_y (wg 8 true 21 rfl rfl rfl rfl) rfl (y_move rfl) ?_
     refine still_y (wg 8 true 21 rfl rfl rfl rfl) rfl (y_fieldAddr_box (sz := 0) Tryz.runUnderlying24 rfl Tryz.sizeOf22 rfl) ?_
     refine still_y (wg 8 true 21 rfl rfl rfl rfl) rfl (y_load_box 0 Tryz.isAgg22 rfl rfl rfl) ?_
     refine still_y (wg 8 true 21 rfl rfl rfl rfl) rfl (y_move rfl) ?_
     refine still_y (wg 8 true 21 rfl rfl rfl rfl) rfl (y_indexAddrI (kd := .i64) (i := i_7) 1 Tryz.runUnderlying22 Tryz.sizeOf57 rfl rfl rfl reads_ro hzx13 (map_lt hlx13)) ?_
     refine still_y (wg 8 true 21 rfl rfl rfl rfl) rfl (y_fieldAddr_elem (sz := 0) Tryz.runUnderlying57 rfl Tryz.sizeOf3 rfl) ?_
     refine still_y (wg 8 true 21 rfl rfl rfl rfl) rfl (y_load_field (i := i_7.toNat) (j := 1) 1 Tryz.isAgg3 rfl rfl reads_ro (map_get hxx13) rfl) ?_
     refine still_y (wg 8 true 21 rfl rfl rfl rfl) rfl (y_fieldAddr_box (sz := 0) Tryz.runUnderlying24 rfl Tryz.sizeOf22 rfl) ?_
     refine still_y (wg 8 true 21 rfl rfl rfl rfl) rfl (y_load_box 0 Tryz.isAgg22 rfl rfl rfl) ?_
     refine still_y (wg 8 true 21 rfl rfl rfl rfl) rfl (y_move rfl) ?_
     refine still_y (wg 8 true 21 rfl rfl rfl rfl) rfl (y_indexAddrI (kd := .i64) (i := i_7) 1 Tryz.runUnderlying22 Tryz.sizeOf57 rfl rfl rfl reads_ro hzx13 (map_lt hlx13)) ?_
     refine still_y (wg 8 true 21 rfl rfl rfl rfl) rfl (y_fieldAddr_elem (sz := 0) Tryz.runUnderlying57 rfl Tryz.sizeOf3 rfl) ?_
     refine still_y (wg 8 true 21 rfl rfl rfl rfl) rfl (y_load_field (i := i_7.toNat) (j := 2) 1 Tryz.isAgg3 rfl rfl reads_ro (map_get hxx13) rfl) ?_
     refine still_y (wg 8 true 21 rfl rfl rfl rfl) rfl (y_add rfl rfl) ?_
     refine still_y (wg 8 true 21 rfl rfl rfl rfl) rfl (y_lss rfl rfl) ?_
     refine sy rfl rfl (y_pick (b := true) rfl rfl) ?_
     refine still_nil ?_
     exact goes_cut hL15 (decide (t_1 < (IntKind.i64.wrap (x13.Begin + x13.Len)))) [0, 1, 2] (qv5 rfl rfl rfl rfl rfl) (by decide) rfl (by rw [hg16]; simp)
    ·skip
     refine still_no 8 true 21 rfl rfl rfl rfl rfl ?_
     refine still_no 8 true 21 rfl rfl rfl rfl rfl ?_
     refine still_no 8 true 21 rfl rfl rfl rfl rfl ?_
     refine still_no 8 true 21 rfl rfl rfl rfl rfl ?_
     refine still_no 8 true 21 rfl rfl rfl rfl rfl ?_
     refine still_no 8 true 21 rfl rfl rfl rfl rfl ?_
     refine still_no 8 true 21 rfl rfl rfl rfl rfl ?_
     refine still_no 8 true 21 rfl rfl rfl rfl rfl ?_
     refine still_no 8 true 21 rfl rfl rfl rfl rfl ?_
     refine still_no 8 true 21 rfl rfl rfl rfl rfl ?_
     refine still_no 8 true 21 rfl rfl rfl rfl rfl ?_
     refine still_no 8 true 21 rfl rfl rfl rfl rfl ?_
     refine still_no 8 true 21 rfl rfl rfl rfl rfl ?_
     refine still_no 8 true 21 rfl rfl rfl rfl rfl ?_
     refine still_no 8 true 21 rfl rfl rfl rfl rfl ?_
     refine sy rfl rfl (y_pick (b := false) rfl rfl) ?_
     refine still_nil ?_
     exact goes_cut hL15 false [0, 1, 2] (qv5 rfl rfl rfl rfl rfl) (by decide) rfl (by rw [hg16]; simp)
   rintro _ rfl
   refine still_nil ?_
   refine goes_code ?_
   refine run_cond (decide (x13.Begin ≤ t_1) && decide (t_1 < (IntKind.i64.wrap (x13.Begin + x13.Len)))) rfl (fun hc17 => ?_) (fun hc17 => ?_)
   ·replace h := cond_t h hc17
    refine run_seq ?_
    refine run_region' ?_
    refine oy rfl rfl (y_fieldAddr_box (sz := 0) Tryz.runUnderlying24 rfl Tryz.sizeOf22 rfl) ?_
    refine oy rfl rfl (y_load_box 0 Tryz.isAgg22 rfl rfl rfl) ?_
    refine oy rfl rfl (y_move rfl) ?_
    obtain ⟨x18, hzx18, hlx18, hxx18, h⟩ := idx_some h
    refine oy rfl rfl (y_indexAddrI (kd := .i64) (i := i_7) 1 Tryz.runUnderlying22 Tryz.sizeOf57 rfl rfl rfl reads_ro hzx18 (map_lt hlx18)) ?_
    refine oy rfl rfl (y_load_agg (i := i_7.toNat) (c := [qI x18.Num, qI x18.Begin, qI x18.Len, qB x18.Body.a0_, qB x18.Body.a1_, qB x18.Body.a2_, qB x18.Body.a3_, qB x18.Body.a4_, qB x18.Body.a5_, qB x18.Body.a6_, qB x18.Body.a7_, qB x18.Body.a8_, qB x18.Body.a9_, qB x18.Body.a10_, qB x18.Body.a11_, qB x18.Body.a12_, qB x18.Body.a13_, qB x18.Body.a14_, qB x18.Body.a15_, qI x18.Size]) 1 Tryz.isAgg57 Tryz.sizeOf57 rfl rfl reads_ro (map_get hxx18)) ?_
    refine oy rfl rfl (y_build_struct (cells := #[qI x18.Num, qI x18.Begin, qI x18.Len, qB x18.Body.a0_, qB x18.Body.a1_, qB x18.Body.a2_, qB x18.Body.a3_, qB x18.Body.a4_, qB x18.Body.a5_, qB x18.Body.a6_, qB x18.Body.a7_, qB x18.Body.a8_, qB x18.Body.a9_, qB x18.Body.a10_, qB x18.Body.a11_, qB x18.Body.a12_, qB x18.Body.a13_, qB x18.Body.a14_, qB x18.Body.a15_, qI x18.Size, qI 0]) [(0, .agg #[qI x18.Num, qI x18.Begin, qI x18.Len, qB x18.Body.a0_, qB x18.Body.a1_, qB x18.Body.a2_, qB x18.Body.a3_, qB x18.Body.a4_, qB x18.Body.a5_, qB x18.Body.a6_, qB x18.Body.a7_, qB x18.Body.a8_, qB x18.Body.a9_, qB x18.Body.a10_, qB x18.Body.a11_, qB x18.Body.a12_, qB x18.Body.a13_, qB x18.Body.a14_, qB x18.Body.a15_, qI x18.Size])] [(0, [qI x18.Num, qI x18.Begin, qI x18.Len, qB x18.Body.a0_, qB x18.Body.a1_, qB x18.Body.a2_, qB x18.Body.a3_, qB x18.Body.a4_, qB x18.Body.a5_, qB x18.Body.a6_, qB x18.Body.a7_, qB x18.Body.a8_, qB x18.Body.a9_, qB x18.Body.a10_, qB x18.Body.a11_, qB x18.Body.a12_, qB x18.Body.a13_, qB x18.Body.a14_, qB x18.Body.a15_, qI x18.Size])] Tryz.zeroValue61 Tryz.runUnderlying61 (fs_cons Tryz.sizeOf57 (fs_cons Tryz.sizeOf27 fs_nil)) rfl (by kernel_rfl) (by kernel_rfl)) ?_
    refine ot rfl rfl (t_store 2 Tryz.sizeOf61 rfl rfl rfl rfl (by simp [Value.cells, boxP]) (by simp [Value.cells, Value.oneCell', boxP])) ?_
    rintro _ _ ⟨rfl, rfl⟩
    refine ops_turn (retell 2 (g := box b2 [qI x18.Num, qI x18.Begin, qI x18.Len, qB x18.Body.a0_, qB x18.Body.a1_, qB x18.Body.a2_, qB x18.Body.a3_, qB x18.Body.a4_, qB x18.Body.a5_, qB x18.Body.a6_, qB x18.Body.a7_, qB x18.Body.a8_, qB x18.Body.a9_, qB x18.Body.a10_, qB x18.Body.a11_, qB x18.Body.a12_, qB x18.Body.a13_, qB x18.Body.a14_, qB x18.Body.a15_, qI x18.Size, qI 0]) rfl (by kernel_rfl)) ?_
    refine ops_nil ?_
    refine goes_code ?_
    refine run_ret ?_
    obtain rfl := some_eq h
    obtain rfl := hstop10 _ rfl
    skip
    obtain rfl := after_stop ho4
    refine fin_res [.cell 4 61] [.agg #[qI x18.Num, qI x18.Begin, qI x18.Len, qB x18.Body.a0_, qB x18.Body.a1_, qB x18.Body.a2_, qB x18.Body.a3_, qB x18.Body.a4_, qB x18.Body.a5_, qB x18.Body.a6_, qB x18.Body.a7_, qB x18.Body.a8_, qB x18.Body.a9_, qB x18.Body.a10_, qB x18.Body.a11_, qB x18.Body.a12_, qB x18.Body.a13_, qB x18.Body.a14_, qB x18.Body.a15_, qI x18.Size, qI 0]] [] [] Tryz.results26 rfl (rescons (res_box 2 Tryz.isAgg61 Tryz.sizeOf61 rfl rfl rfl) resnil) (by decide) rfl ?_
    exact ⟨rfl, rfl⟩
   ·replace h := cond_f h hc17
    refine run_skip ?_
    refine goes_blk ?_
    refine goes_code ?_
    refine run_region' ?_
    refine oy rfl rfl (y_move rfl) ?_
    refine oy rfl rfl (y_add rfl rfl) ?_
    refine oy rfl rfl (y_assign rfl) ?_
    refine ops_nil ?_
    obtain rfl := some_eq h
    exact goes_iter hgo9 (IntKind.i64.wrap (i_7 + 1)) () [0, 1, 2] rfl (qv4 rfl rfl rfl rfl) (by decide) rfl
  ·replace h := cond_f h hc12
   refine run_exit _ rfl ?_
   obtain rfl := some_eq h
   obtain rfl := hstop10 _ rfl
   exact goes_cut hL5 ((), ()) [2] (qv1 rfl) (by decide) rfl rfl
 rintro ⟨_, _⟩ hj
 obtain rfl : o3 = _ := hj
 replace h := after_go ho4
 clear ho4
 change Run _ _ _ (VF.of [(4, boxP b2 0)]) [box b2 [qI 0, qI 0, qI 0, qB 0, qB 0, qB 0, qB 0, qB 0, qB 0, qB 0, qB 0, qB 0, qB 0, qB 0, qB 0, qB 0, qB 0, qB 0, qB 0, qI 0, qI 0]]
 refine run_seq ?_
 refine run_region' ?_
 refine oy rfl rfl (y_build_struct (cells := #[qI 0, qI 0, qI 0, qB 0, qB 0, qB 0, qB 0, qB 0, qB 0, qB 0, qB 0, qB 0, qB 0, qB 0, qB 0, qB 0, qB 0, qB 0, qB 0, qI 0, qI 5]) [(1, qI 5)] [(1, [qI 5])] Tryz.zeroValue61 Tryz.runUnderlying61 (fs_cons Tryz.sizeOf57 (fs_cons Tryz.sizeOf27 fs_nil)) rfl (by kernel_rfl) (by kernel_rfl)) ?_
 refine ot rfl rfl (t_store 0 Tryz.sizeOf61 rfl rfl rfl rfl (by simp [Value.cells, boxP]) (by simp [Value.cells, Value.oneCell', boxP])) ?_
 rintro _ _ ⟨rfl, rfl⟩
 refine ops_turn (retell 0 (g := box b2 [qI 0, qI 0, qI 0, qB 0, qB 0, qB 0, qB 0, qB 0, qB 0, qB 0, qB 0, qB 0, qB 0, qB 0, qB 0, qB 0, qB 0, qB 0, qB 0, qI 0, qI 5]) rfl (by kernel_rfl)) ?_
 refine ops_nil ?_
 refine goes_code ?_
 refine run_ret ?_
 obtain rfl := some_eq h
 refine fin_res [.cell 4 61] [.agg #[qI 0, qI 0, qI 0, qB 0, qB 0, qB 0, qB 0, qB 0, qB 0, qB 0, qB 0, qB 0, qB 0, qB 0, qB 0, qB 0, qB 0, qB 0, qB 0, qI 0, qI 5]] [] [] Tryz.results26 rfl (rescons (res_box 0 Tryz.isAgg61 Tryz.sizeOf61 rfl rfl rfl) resnil) (by decide) rfl ?_
 exact ⟨rfl, rfl⟩

def playlist_End (p_0 : S_api_Playlist) : Option (S_api_Playlist) :=
 obind (slices_Clone_weirgate_api_Segment_weirgate_api_Segment_40 p_0.L) fun r3 =>
 some (S_api_Playlist.mk p_0.First r3 true)
theorem playlist_End_ok (p_0 : S_api_Playlist) (p_0_Lv : Value) {r : S_api_Playlist} (h : playlist_End p_0 = some r) :
  Meets Tryz.prog 31 [.agg #[.int .i64 p_0.First, p_0_Lv, .bool p_0.Done]] [ro p_0_Lv 20 (p_0.L.map S_api_Segment.enc)] (fun v G => ∃ v0, v = .agg #[.int .i64 r.First, v0, .bool r.Done] ∧ G = [row v0 20 (r.L.map S_api_Segment.enc)]) := by
 refine fn_of_run Tryz.func31 rfl Tryz.ntmps31 rfl (fun w0 o0 => ?_)
 refine run_seq ?_
 refine run_region' ?_
 refine ot rfl rfl (t_box rfl) ?_
 rintro _ _ ⟨b1, rfl, rfl⟩
 refine ot rfl rfl (t_alloc Tryz.zeroValue24) ?_
 rintro _ _ ⟨b2, rfl, rfl⟩
 refine ops_nil ?_
 refine goes_code ?_
 refine run_seq ?_
 refine run_region' ?_
 refine oy rfl rfl (y_fieldAddr_box (sz := 0) Tryz.runUnderlying24 rfl Tryz.sizeOf22 rfl) ?_
 refine oy rfl rfl (y_load_box 1 Tryz.isAgg22 rfl rfl rfl) ?_
 obtain ⟨r3, hr4, h⟩ := obind_some h
 refine ot rfl rfl (t_callx (vs := [p_0_Lv]) (cs := []) [(0, 0)] rfl Tryz.call40 rfl (slices_Clone_weirgate_api_Segment_weirgate_api_Segment_40_ok p_0.L p_0_Lv hr4) (showsX_view 0 rfl views_ro showsX_nil) rfl (.inl rfl)) ?_
 rintro v5 _ ⟨_, ⟨_, rfl, rfl⟩, rfl⟩
 refine oy rfl rfl (y_fieldAddr_box (sz := 0) Tryz.runUnderlying24 rfl Tryz.sizeOf22 rfl) ?_
 refine ops_slc 3 rfl reads_row (fun hs6 hs6o => ?_)
 refine ot rfl rfl (t_store 1 Tryz.sizeOf22 rfl rfl rfl (by rw [hs6]; rfl) (by simp [Value.cells, boxP]) (by rw [hs6]; exact allL_cons hs6o (allL_nil))) ?_
 rintro _ _ ⟨rfl, rfl⟩
 refine ops_turn (retell 1 (g := box b1 [.int .i64 p_0.First, v5, .bool p_0.Done]) rfl (by rw [hs6]; rfl)) ?_
 refine oy rfl rfl (y_fieldAddr_box (sz := 0) Tryz.runUnderlying24 rfl Tryz.sizeOf4 rfl) ?_
 refine ot rfl rfl (t_store 1 Tryz.sizeOf4 rfl rfl rfl rfl (by simp [Value.cells, boxP]) (by simp [Value.cells, Value.oneCell', boxP])) ?_
 rintro _ _ ⟨rfl, rfl⟩
 refine ops_turn (retell 1 (g := box b1 [qI p_0.First, v5, .bool true]) rfl rfl) ?_
 refine ops_nil ?_
 refine goes_code ?_
 refine run_seq ?_
 refine run_weak [(1, boxP b1 0), (2, boxP b2 0)] [1, 2, 3] [box b1 [qI p_0.First, v5, .bool true], box b2 [qI 0, .slice none 0 0, .bool false], row v5 20 (r3.map S_api_Segment.enc)] (qv2 rfl rfl) (by decide) rfl ?_
 refine run_region' ?_
 refine oy rfl rfl (y_load_boxagg (c := [qI p_0.First, v5, .bool true]) 0 Tryz.isAgg24 Tryz.sizeOf24 rfl rfl rfl) ?_
 refine ops_slc 2 rfl reads_row (fun hs7 hs7o => ?_)
 refine ot rfl rfl (t_store 1 Tryz.sizeOf24 rfl rfl rfl rfl (by simp [Value.cells, boxP]) (allL_cons rfl (allL_cons hs7o (allL_cons rfl (allL_nil))))) ?_
 rintro _ _ ⟨rfl, rfl⟩
 refine ops_turn (retell 1 (g := box b2 [qI p_0.First, v5, .bool true]) rfl rfl) ?_
 refine ops_nil ?_
 refine goes_code ?_
 refine run_ret ?_
 obtain rfl := some_eq h
 refine fin_res [.cell 2 24] [.agg #[qI p_0.First, v5, .bool true]] [2] [row v5 20 (r3.map S_api_Segment.enc)] Tryz.results31 rfl (rescons (res_box 1 Tryz.isAgg24 Tryz.sizeOf24 rfl rfl rfl) resnil) (by decide) rfl ?_
 exact ⟨_, rfl, rfl⟩

def ref43_Push (p_0 : S_api_Playlist) (s_1 : S_api_Segment) (window_2 : Int) : Option (S_ref43_Made) :=
 obind (ref43_wide window_2) fun r4 =>
 cond (!r4)
  (some (S_ref43_Made.mk (S_api_Playlist.mk 0 ([] : List S_api_Segment) false) 1))
  (cond p_0.Done
   (some (S_ref43_Made.mk (S_api_Playlist.mk 0 ([] : List S_api_Segment) false) 4))
   (obind (ref43_Next p_0) fun r8 =>
   bindJ (S := Bool)
    (cond (decide (s_1.Num ≠ r8))
     (some (.go true))
     (bindJ (S := Bool)
      (cond (decide (0 < (p_0.L.length : Int)))
       (obind (ref43_Edge p_0) fun r22 =>
       some (.go (decide (s_1.Begin ≠ r22))))
       (some (.go false)))
     (fun b16 =>
      some (.go b16))))
   (fun b10 =>
    cond b10
     (some (S_ref43_Made.mk (S_api_Playlist.mk 0 ([] : List S_api_Segment) false) 3))
     (need (([] : List S_api_Segment).length + p_0.L.length ≤ 4294967296) (
     need ((([] : List S_api_Segment) ++ p_0.L).length + ([s_1] : List S_api_Segment).length ≤ 4294967296) (
     obind (ref43_cut (S_api_Playlist.mk p_0.First ((([] : List S_api_Segment) ++ p_0.L) ++ ([s_1] : List S_api_Segment)) false) window_2) fun r51 =>
     some (S_ref43_Made.mk r51 0)))))))
theorem ref43_Push_ok (p_0 : S_api_Playlist) (s_1 : S_api_Segment) (window_2 : Int) (p_0_Lv : Value) {r : S_ref43_Made} (h : ref43_Push p_0 s_1 window_2 = some r) :
  Meets Tryz.prog 34 [.agg #[.int .i64 p_0.First, p_0_Lv, .bool p_0.Done], .agg #[.int .i64 s_1.Num, .int .i64 s_1.Begin, .int .i64 s_1.Len, .int .u8 s_1.Body.a0_, .int .u8 s_1.Body.a1_, .int .u8 s_1.Body.a2_, .int .u8 s_1.Body.a3_, .int .u8 s_1.Body.a4_, .int .u8 s_1.Body.a5_, .int .u8 s_1.Body.a6_, .int .u8 s_1.Body.a7_, .int .u8 s_1.Body.a8_, .int .u8 s_1.Body.a9_, .int .u8 s_1.Body.a10_, .int .u8 s_1.Body.a11_, .int .u8 s_1.Body.a12_, .int .u8 s_1.Body.a13_, .int .u8 s_1.Body.a14_, .int .u8 s_1.Body.a15_, .int .i64 s_1.Size], .int .i64 window_2] [ro p_0_Lv 20 (p_0.L.map S_api_Segment.enc)] (fun v G => ∃ v0, v = .agg #[.int .i64 r.P.First, v0, .bool r.P.Done, .int .i64 r.E] ∧ G = [ro v0 20 (r.P.L.map S_api_Segment.enc)]) := by
 refine fn_of_run Tryz.func34 rfl Tryz.ntmps34 rfl (fun w0 o0 => ?_)
 refine run_seq ?_
 refine run_region' ?_
 refine ot rfl rfl (t_box rfl) ?_
 rintro _ _ ⟨b1, rfl, rfl⟩
 refine ot rfl rfl (t_box rfl) ?_
 rintro _ _ ⟨b2, rfl, rfl⟩
 refine ot rfl rfl (t_alloc Tryz.zeroValue31) ?_
 rintro _ _ ⟨b3, rfl, rfl⟩
 refine ops_nil ?_
 refine goes_code ?_
 refine run_seq ?_
 refine run_seq ?_
 refine run_region' ?_
 refine oy rfl rfl (y_move rfl) ?_
 obtain ⟨r4, hr5, h⟩ := obind_some h
 refine ot rfl rfl (t_callx (vs := [qI window_2]) (cs := []) [] rfl Tryz.call42 rfl (ref43_wide_ok window_2  hr5) showsX_nil rfl (.inl rfl)) ?_
 rintro _ _ ⟨_, ⟨rfl, rfl⟩, rfl⟩
 refine oy rfl rfl (y_not rfl) ?_
 refine ops_nil ?_
 refine goes_code ?_
 refine run_cond (!r4) rfl (fun hc6 => ?_) (fun hc6 => ?_)
 ·replace h := cond_t h hc6
  refine run_seq ?_
  refine run_region' ?_
  refine oy rfl rfl (y_build_struct (cells := #[qI 0, .slice none 0 0, .bool false, qI 1]) [(1, qI 1)] [(1, [qI 1])] Tryz.zeroValue31 Tryz.runUnderlying31 (fs_cons Tryz.sizeOf24 (fs_cons Tryz.sizeOf27 fs_nil)) rfl rfl rfl) ?_
  refine ot rfl rfl (t_store 3 Tryz.sizeOf31 rfl rfl rfl rfl (by simp [Value.cells, boxP]) (by simp [Value.cells, Value.oneCell', boxP])) ?_
  rintro _ _ ⟨rfl, rfl⟩
  refine ops_turn (retell 3 (g := box b3 [qI 0, .slice none 0 0, .bool false, qI 1]) rfl rfl) ?_
  refine ops_nil ?_
  refine goes_code ?_
  refine run_ret ?_
  refine fin_turn (nilro 20) ?_
  refine fin_turn (retell 4 (g := ro (.slice none 0 0) 20 (([] : List S_api_Segment).map S_api_Segment.enc)) rfl rfl) ?_
  obtain rfl := some_eq h
  refine fin_res [.cell 6 31] [.agg #[qI 0, (.slice none 0 0), .bool false, qI 1]] [4] [ro (.slice none 0 0) 20 (([] : List S_api_Segment).map S_api_Segment.enc)] Tryz.results34 rfl (rescons (res_box 3 Tryz.isAgg31 Tryz.sizeOf31 rfl rfl rfl) resnil) (by decide) rfl ?_
  exact ⟨_, rfl, rfl⟩
 ·replace h := cond_f h hc6
  refine run_skip ?_
  refine goes_code ?_
  refine run_seq ?_
  refine run_seq ?_
  refine run_region' ?_
  refine oy rfl rfl (y_fieldAddr_box (sz := 0) Tryz.runUnderlying24 rfl Tryz.sizeOf4 rfl) ?_
  refine oy rfl rfl (y_load_box 1 Tryz.isAgg4 rfl rfl rfl) ?_
  refine ops_nil ?_
  refine goes_code ?_
  refine run_cond p_0.Done rfl (fun hc7 => ?_) (fun hc7 => ?_)
  ·replace h := cond_t h hc7
   refine run_seq ?_
   refine run_weak [(6, boxP b3 0)] [3] [box b3 [qI 0, .slice none 0 0, .bool false, qI 0]] (qv1 rfl) (by decide) rfl ?_
   refine run_region' ?_
   refine oy rfl rfl (y_build_struct (cells := #[qI 0, .slice none 0 0, .bool false, qI 4]) [(1, qI 4)] [(1, [qI 4])] Tryz.zeroValue31 Tryz.runUnderlying31 (fs_cons Tryz.sizeOf24 (fs_cons Tryz.sizeOf27 fs_nil)) rfl rfl rfl) ?_
   refine ot rfl rfl (t_store 0 Tryz.sizeOf31 rfl rfl rfl rfl (by simp [Value.cells, boxP]) (by simp [Value.cells, Value.oneCell', boxP])) ?_
   rintro _ _ ⟨rfl, rfl⟩
   refine ops_turn (retell 0 (g := box b3 [qI 0, .slice none 0 0, .bool false, qI 4]) rfl rfl) ?_
   refine ops_nil ?_
   refine goes_code ?_
   refine run_ret ?_
   refine fin_turn (nilro 20) ?_
   refine fin_turn (retell 1 (g := ro (.slice none 0 0) 20 (([] : List S_api_Segment).map S_api_Segment.enc)) rfl rfl) ?_
   obtain rfl := some_eq h
   refine fin_res [.cell 6 31] [.agg #[qI 0, (.slice none 0 0), .bool false, qI 4]] [1] [ro (.slice none 0 0) 20 (([] : List S_api_Segment).map S_api_Segment.enc)] Tryz.results34 rfl (rescons (res_box 0 Tryz.isAgg31 Tryz.sizeOf31 rfl rfl rfl) resnil) (by decide) rfl ?_
   exact ⟨_, rfl, rfl⟩
  ·replace h := cond_f h hc7
   refine run_skip ?_
   refine goes_code ?_
   refine run_seq ?_
   refine run_seq ?_
   refine run_weak [(2, qI window_2), (3, boxP b1 0), (4, boxP b2 0), (6, boxP b3 0)] [0, 1, 2, 3] [ro p_0_Lv 20 (p_0.L.map S_api_Segment.enc), box b1 [qI p_0.First, p_0_Lv, .bool p_0.Done], box b2 [qI s_1.Num, qI s_1.Begin, qI s_1.Len, qB s_1.Body.a0_, qB s_1.Body.a1_, qB s_1.Body.a2_, qB s_1.Body.a3_, qB s_1.Body.a4_, qB s_1.Body.a5_, qB s_1.Body.a6_, qB s_1.Body.a7_, qB s_1.Body.a8_, qB s_1.Body.a9_, qB s_1.Body.a10_, qB s_1.Body.a11_, qB s_1.Body.a12_, qB s_1.Body.a13_, qB s_1.Body.a14_, qB s_1.Body.a15_, qI s_1.Size], box b3 [qI 0, .slice none 0 0, .bool false, qI 0]] (qv4 rfl rfl rfl rfl) (by decide) rfl ?_
   refine run_drawany [ro p_0_Lv 20 (p_0.L.map S_api_Segment.enc), box b1 [qI p_0.First, p_0_Lv, .bool p_0.Done], box b2 [qI s_1.Num, qI s_1.Begin, qI s_1.Len, qB s_1.Body.a0_, qB s_1.Body.a1_, qB s_1.Body.a2_, qB s_1.Body.a3_, qB s_1.Body.a4_, qB s_1.Body.a5_, qB s_1.Body.a6_, qB s_1.Body.a7_, qB s_1.Body.a8_, qB s_1.Body.a9_, qB s_1.Body.a10_, qB s_1.Body.a11_, qB s_1.Body.a12_, qB s_1.Body.a13_, qB s_1.Body.a14_, qB s_1.Body.a15_, qI s_1.Size], box b3 [qI 0, .slice none 0 0, .bool false, qI 0]] (by kernel_rfl) ?_
   refine any_y 0 rfl (by kernel_rfl) (by kernel_rfl) (by kernel_rfl) (ss (ss (ss (ss (sn))))) (wn rfl) rfl (y_fieldAddr_box (sz := 0) Tryz.runUnderlying57 rfl Tryz.sizeOf3 rfl) ?_
   refine any_y 1 rfl (by kernel_rfl) (by kernel_rfl) (by kernel_rfl) (ss (ss (ss (ss (sn))))) (wn rfl) rfl (y_load_box 2 Tryz.isAgg3 rfl rfl rfl) ?_
   refine any_y 2 rfl (by kernel_rfl) (by kernel_rfl) (by kernel_rfl) (ss (ss (ss (ss (sn))))) (wn rfl) rfl (y_load_boxagg (c := [qI p_0.First, p_0_Lv, .bool p_0.Done]) 1 Tryz.isAgg24 Tryz.sizeOf24 rfl rfl rfl) ?_
   refine any_all [3] (by kernel_rfl) rfl (anyo_cons ?_ anyo_nil)
   obtain ⟨r8, hr9, h⟩ := obind_some h
   refine any_t rfl (wn rfl) rfl (t_callx (vs := [.agg #[qI p_0.First, p_0_Lv, .bool p_0.Done]]) (cs := []) [(0, 0)] rfl Tryz.call28 rfl (ref43_Next_ok p_0 p_0_Lv hr9) (showsX_view 0 rfl views_ro showsX_nil) rfl (.inl rfl)) ?_
   rintro _ _ ⟨_, ⟨rfl, rfl⟩, rfl⟩
   refine ⟨(ss (ss (ss (ss (sn))))), ?_⟩
   refine any_y 4 rfl (by kernel_rfl) (by kernel_rfl) (by kernel_rfl) (ss (ss (ss (ss (sn))))) (wn rfl) rfl (y_neq rfl rfl) ?_
   refine any_y 5 rfl (by kernel_rfl) (by kernel_rfl) (by kernel_rfl) (ss (ss (ss (ss (sn))))) (wn rfl) rfl (y_move rfl) ?_
   obtain ⟨o11, h, ho12⟩ := bindJ_some h
   refine any_cut #[true, true, true, true, true, true, true, true, true, true, true, true, true, true, true, true, true, true] 0 Bool (fun σ => [(2, qI window_2), (3, boxP b1 0), (4, boxP b2 0), (6, boxP b3 0), (32, .bool σ)]) (fun σ => [ro p_0_Lv 20 (p_0.L.map S_api_Segment.enc), box b1 [qI p_0.First, p_0_Lv, .bool p_0.Done], box b2 [qI s_1.Num, qI s_1.Begin, qI s_1.Len, qB s_1.Body.a0_, qB s_1.Body.a1_, qB s_1.Body.a2_, qB s_1.Body.a3_, qB s_1.Body.a4_, qB s_1.Body.a5_, qB s_1.Body.a6_, qB s_1.Body.a7_, qB s_1.Body.a8_, qB s_1.Body.a9_, qB s_1.Body.a10_, qB s_1.Body.a11_, qB s_1.Body.a12_, qB s_1.Body.a13_, qB s_1.Body.a14_, qB s_1.Body.a15_, qI s_1.Size], box b3 [qI 0, .slice none 0 0, .bool false, qI 0]]) (fun σ => o11 = .go σ) (fun hL14 => ?_) ?_
   ·refine any_split 20 (decide (s_1.Num ≠ r8)) rfl (fun hg15 => ?_) (fun hg15 => ?_)
    ·replace h := cond_t h hg15
     refine any_no 6 rfl (by kernel_rfl) (by kernel_rfl) (by kernel_rfl) (ss (ss (ss (ss (sn))))) 5 false 20 rfl rfl rfl rfl rfl ?_
     refine any_no 7 rfl (by kernel_rfl) (by kernel_rfl) (by kernel_rfl) (ss (ss (ss (ss (sn))))) 5 false 20 rfl rfl rfl rfl rfl ?_
     refine any_no 8 rfl (by kernel_rfl) (by kernel_rfl) (by kernel_rfl) (ss (ss (ss (ss (sn))))) 5 false 20 rfl rfl rfl rfl rfl ?_
     refine any_no 9 rfl (by kernel_rfl) (by kernel_rfl) (by kernel_rfl) (ss (ss (ss (ss (sn))))) 5 false 20 rfl rfl rfl rfl rfl ?_
     refine any_no 10 rfl (by kernel_rfl) (by kernel_rfl) (by kernel_rfl) (ss (ss (ss (ss (sn))))) 5 false 20 rfl rfl rfl rfl rfl ?_
     refine any_un 11 rfl (by kernel_rfl) (by kernel_rfl) (by kernel_rfl) (ss (ss (ss (ss (sn))))) 10 true 25 rfl rfl rfl rfl rfl ?_
     refine any_un 12 rfl (by kernel_rfl) (by kernel_rfl) (by kernel_rfl) (ss (ss (ss (ss (sn))))) 10 true 25 rfl rfl rfl rfl rfl ?_
     refine any_un 13 rfl (by kernel_rfl) (by kernel_rfl) (by kernel_rfl) (ss (ss (ss (ss (sn))))) 10 true 25 rfl rfl rfl rfl rfl ?_
     refine any_un 14 rfl (by kernel_rfl) (by kernel_rfl) (by kernel_rfl) (ss (ss (ss (ss (sn))))) 10 true 25 rfl rfl rfl rfl rfl ?_
     refine any_un 15 rfl (by kernel_rfl) (by kernel_rfl) (by kernel_rfl) (ss (ss (ss (ss (sn))))) 10 true 25 rfl rfl rfl rfl rfl ?_
     refine any_no 16 rfl (by kernel_rfl) (by kernel_rfl) (by kernel_rfl) (ss (ss (ss (ss (sn))))) 5 false 20 rfl rfl rfl rfl rfl ?_
     refine any_y 17 rfl (by kernel_rfl) (by kernel_rfl) (by kernel_rfl) (ss (ss (ss (ss (sn))))) (wn rfl) rfl (y_pick (b := true) rfl rfl) ?_
     obtain rfl := some_eq h
     exact any_weak [(2, qI window_2), (3, boxP b1 0), (4, boxP b2 0), (6, boxP b3 0), (32, .bool true)] [0, 1, 2, 3] [ro p_0_Lv 20 (p_0.L.map S_api_Segment.enc), box b1 [qI p_0.First, p_0_Lv, .bool p_0.Done], box b2 [qI s_1.Num, qI s_1.Begin, qI s_1.Len, qB s_1.Body.a0_, qB s_1.Body.a1_, qB s_1.Body.a2_, qB s_1.Body.a3_, qB s_1.Body.a4_, qB s_1.Body.a5_, qB s_1.Body.a6_, qB s_1.Body.a7_, qB s_1.Body.a8_, qB s_1.Body.a9_, qB s_1.Body.a10_, qB s_1.Body.a11_, qB s_1.Body.a12_, qB s_1.Body.a13_, qB s_1.Body.a14_, qB s_1.Body.a15_, qI s_1.Size], box b3 [qI 0, .slice none 0 0, .bool false, qI 0]] (by kernel_rfl) (qv5 rfl rfl rfl rfl rfl) (by decide) rfl (hL14 true rfl)
    ·replace h := cond_f h hg15
     refine any_y 6 rfl (by kernel_rfl) (by kernel_rfl) (by kernel_rfl) (ss (ss (ss (ss (sn))))) (wg 5 false 20 rfl rfl rfl rfl) rfl (y_fieldAddr_box (sz := 0) Tryz.runUnderlying24 rfl Tryz.sizeOf22 rfl) ?_
     refine any_y 7 rfl (by kernel_rfl) (by kernel_rfl) (by kernel_rfl) (ss (ss (ss (ss (sn))))) (wg 5 false 20 rfl rfl rfl rfl) rfl (y_load_box 1 Tryz.isAgg22 rfl rfl rfl) ?_
     refine any_y 8 rfl (by kernel_rfl) (by kernel_rfl) (by kernel_rfl) (ss (ss (ss (ss (sn))))) (wg 5 false 20 rfl rfl rfl rfl) rfl ((y_len 0 rfl Tryz.runUnderlying22 rfl rfl reads_ro).to (v_len S_api_Segment.enc _)) ?_
     refine any_y 9 rfl (by kernel_rfl) (by kernel_rfl) (by kernel_rfl) (ss (ss (ss (ss (sn))))) (wg 5 false 20 rfl rfl rfl rfl) rfl (y_gtr rfl rfl) ?_
     refine any_y 10 rfl (by kernel_rfl) (by kernel_rfl) (by kernel_rfl) (ss (ss (ss (ss (sn))))) (wg 5 false 20 rfl rfl rfl rfl) rfl (y_move rfl) ?_
     obtain ⟨o17, h, ho18⟩ := bindJ_some h
     refine any_cut #[true, true, true, true, true, true, true, true, true, true, true, true, true, true, true, true, true, false] 1 Bool (fun σ => [(2, qI window_2), (3, boxP b1 0), (4, boxP b2 0), (6, boxP b3 0), (20, .bool false), (31, .bool σ)]) (fun σ => [ro p_0_Lv 20 (p_0.L.map S_api_Segment.enc), box b1 [qI p_0.First, p_0_Lv, .bool p_0.Done], box b2 [qI s_1.Num, qI s_1.Begin, qI s_1.Len, qB s_1.Body.a0_, qB s_1.Body.a1_, qB s_1.Body.a2_, qB s_1.Body.a3_, qB s_1.Body.a4_, qB s_1.Body.a5_, qB s_1.Body.a6_, qB s_1.Body.a7_, qB s_1.Body.a8_, qB s_1.Body.a9_, qB s_1.Body.a10_, qB s_1.Body.a11_, qB s_1.Body.a12_, qB s_1.Body.a13_, qB s_1.Body.a14_, qB s_1.Body.a15_, qI s_1.Size], box b3 [qI 0, .slice none 0 0, .bool false, qI 0]]) (fun σ => o17 = .go σ) (fun hL20 => ?_) ?_
     ·refine any_split 25 (decide (0 < (p_0.L.length : Int))) rfl (fun hg21 => ?_) (fun hg21 => ?_)
      ·replace h := cond_t h hg21
       refine any_y 11 rfl (by kernel_rfl) (by kernel_rfl) (by kernel_rfl) (ss (ss (ss (ss (sn))))) (wg 10 true 25 rfl rfl rfl rfl) rfl (y_fieldAddr_box (sz := 0) Tryz.runUnderlying57 rfl Tryz.sizeOf3 rfl) ?_
       refine any_y 12 rfl (by kernel_rfl) (by kernel_rfl) (by kernel_rfl) (ss (ss (ss (ss (sn))))) (wg 10 true 25 rfl rfl rfl rfl) rfl (y_load_box 2 Tryz.isAgg3 rfl rfl rfl) ?_
       refine any_y 13 rfl (by kernel_rfl) (by kernel_rfl) (by kernel_rfl) (ss (ss (ss (ss (sn))))) (wg 10 true 25 rfl rfl rfl rfl) rfl (y_load_boxagg (c := [qI p_0.First, p_0_Lv, .bool p_0.Done]) 1 Tryz.isAgg24 Tryz.sizeOf24 rfl rfl rfl) ?_
       refine any_all [14] (by kernel_rfl) rfl (anyo_cons ?_ anyo_nil)
       obtain ⟨r22, hr23, h⟩ := obind_some h
       refine any_t rfl (wg 10 true 25 rfl rfl rfl rfl) rfl (t_callx (vs := [.agg #[qI p_0.First, p_0_Lv, .bool p_0.Done]]) (cs := []) [(0, 0)] rfl Tryz.call30 rfl (ref43_Edge_ok p_0 p_0_Lv hr23) (showsX_view 0 rfl views_ro showsX_nil) rfl (.inl rfl)) ?_
       rintro _ _ ⟨_, ⟨rfl, rfl⟩, rfl⟩
       refine ⟨(ss (ss (ss (ss (sn))))), ?_⟩
       refine any_y 15 rfl (by kernel_rfl) (by kernel_rfl) (by kernel_rfl) (ss (ss (ss (ss (sn))))) (wg 10 true 25 rfl rfl rfl rfl) rfl (y_neq rfl rfl) ?_
       refine any_y 16 rfl (by kernel_rfl) (by kernel_rfl) (by kernel_rfl) (ss (ss (ss (ss (sn))))) (wg 5 false 20 rfl rfl rfl rfl) rfl (y_pick (b := true) rfl rfl) ?_
       obtain rfl := some_eq h
       exact any_weak [(2, qI window_2), (3, boxP b1 0), (4, boxP b2 0), (6, boxP b3 0), (20, .bool false), (31, .bool (decide (s_1.Begin ≠ r22)))] [0, 1, 2, 3] [ro p_0_Lv 20 (p_0.L.map S_api_Segment.enc), box b1 [qI p_0.First, p_0_Lv, .bool p_0.Done], box b2 [qI s_1.Num, qI s_1.Begin, qI s_1.Len, qB s_1.Body.a0_, qB s_1.Body.a1_, qB s_1.Body.a2_, qB s_1.Body.a3_, qB s_1.Body.a4_, qB s_1.Body.a5_, qB s_1.Body.a6_, qB s_1.Body.a7_, qB s_1.Body.a8_, qB s_1.Body.a9_, qB s_1.Body.a10_, qB s_1.Body.a11_, qB s_1.Body.a12_, qB s_1.Body.a13_, qB s_1.Body.a14_, qB s_1.Body.a15_, qI s_1.Size], box b3 [qI 0, .slice none 0 0, .bool false, qI 0]] (by kernel_rfl) (qv6 rfl rfl rfl rfl rfl rfl) (by decide) rfl (hL20 (decide (s_1.Begin ≠ r22)) rfl)
      ·replace h := cond_f h hg21
       refine any_no 11 rfl (by kernel_rfl) (by kernel_rfl) (by kernel_rfl) (ss (ss (ss (ss (sn))))) 10 true 25 rfl rfl rfl rfl rfl ?_
       refine any_no 12 rfl (by kernel_rfl) (by kernel_rfl) (by kernel_rfl) (ss (ss (ss (ss (sn))))) 10 true 25 rfl rfl rfl rfl rfl ?_
       refine any_no 13 rfl (by kernel_rfl) (by kernel_rfl) (by kernel_rfl) (ss (ss (ss (ss (sn))))) 10 true 25 rfl rfl rfl rfl rfl ?_
       refine any_no 14 rfl (by kernel_rfl) (by kernel_rfl) (by kernel_rfl) (ss (ss (ss (ss (sn))))) 10 true 25 rfl rfl rfl rfl rfl ?_
       refine any_no 15 rfl (by kernel_rfl) (by kernel_rfl) (by kernel_rfl) (ss (ss (ss (ss (sn))))) 10 true 25 rfl rfl rfl rfl rfl ?_
       refine any_y 16 rfl (by kernel_rfl) (by kernel_rfl) (by kernel_rfl) (ss (ss (ss (ss (sn))))) (wg 5 false 20 rfl rfl rfl rfl) rfl (y_pick (b := false) rfl rfl) ?_
       obtain rfl := some_eq h
       exact any_weak [(2, qI window_2), (3, boxP b1 0), (4, boxP b2 0), (6, boxP b3 0), (20, .bool false), (31, .bool false)] [0, 1, 2, 3] [ro p_0_Lv 20 (p_0.L.map S_api_Segment.enc), box b1 [qI p_0.First, p_0_Lv, .bool p_0.Done], box b2 [qI s_1.Num, qI s_1.Begin, qI s_1.Len, qB s_1.Body.a0_, qB s_1.Body.a1_, qB s_1.Body.a2_, qB s_1.Body.a3_, qB s_1.Body.a4_, qB s_1.Body.a5_, qB s_1.Body.a6_, qB s_1.Body.a7_, qB s_1.Body.a8_, qB s_1.Body.a9_, qB s_1.Body.a10_, qB s_1.Body.a11_, qB s_1.Body.a12_, qB s_1.Body.a13_, qB s_1.Body.a14_, qB s_1.Body.a15_, qI s_1.Size], box b3 [qI 0, .slice none 0 0, .bool false, qI 0]] (by kernel_rfl) (qv6 rfl rfl rfl rfl rfl rfl) (by decide) rfl (hL20 false rfl)
     rintro b16 hj
     obtain rfl : o17 = _ := hj
     replace h := after_go ho18
     clear ho18
     refine any_y 17 rfl (by kernel_rfl) (by kernel_rfl) (by kernel_rfl) (ss (ss (ss (ss (sn))))) (wn rfl) rfl (y_pick (b := false) rfl rfl) ?_
     obtain rfl := some_eq h
     exact any_weak [(2, qI window_2), (3, boxP b1 0), (4, boxP b2 0), (6, boxP b3 0), (32, .bool b16)] [0, 1, 2, 3] [ro p_0_Lv 20 (p_0.L.map S_api_Segment.enc), box b1 [qI p_0.First, p_0_Lv, .bool p_0.Done], box b2 [qI s_1.Num, qI s_1.Begin, qI s_1.Len, qB s_1.Body.a0_, qB s_1.Body.a1_, qB s_1.Body.a2_, qB s_1.Body.a3_, qB s_1.Body.a4_, qB s_1.Body.a5_, qB s_1.Body.a6_, qB s_1.Body.a7_, qB s_1.Body.a8_, qB s_1.Body.a9_, qB s_1.Body.a10_, qB s_1.Body.a11_, qB s_1.Body.a12_, qB s_1.Body.a13_, qB s_1.Body.a14_, qB s_1.Body.a15_, qI s_1.Size], box b3 [qI 0, .slice none 0 0, .bool false, qI 0]] (by kernel_rfl) (qv5 rfl rfl rfl rfl rfl) (by decide) rfl (hL14 b16 rfl)
   rintro b10 hj
   obtain rfl : o11 = _ := hj
   replace h := after_go ho12
   clear ho12
   refine any_nil (by kernel_rfl) ?_
   refine goes_code ?_
   refine run_cond b10 rfl (fun hc24 => ?_) (fun hc24 => ?_)
   ·replace h := cond_t h hc24
    refine run_seq ?_
    refine run_region' ?_
    refine oy rfl rfl (y_build_struct (cells := #[qI 0, .slice none 0 0, .bool false, qI 3]) [(1, qI 3)] [(1, [qI 3])] Tryz.zeroValue31 Tryz.runUnderlying31 (fs_cons Tryz.sizeOf24 (fs_cons Tryz.sizeOf27 fs_nil)) rfl rfl rfl) ?_
    refine ot rfl rfl (t_store 3 Tryz.sizeOf31 rfl rfl rfl rfl (by simp [Value.cells, boxP]) (by simp [Value.cells, Value.oneCell', boxP])) ?_
    rintro _ _ ⟨rfl, rfl⟩
    refine ops_turn (retell 3 (g := box b3 [qI 0, .slice none 0 0, .bool false, qI 3]) rfl rfl) ?_
    refine ops_nil ?_
    refine goes_code ?_
    refine run_ret ?_
    refine fin_turn (nilro 20) ?_
    refine fin_turn (retell 4 (g := ro (.slice none 0 0) 20 (([] : List S_api_Segment).map S_api_Segment.enc)) rfl rfl) ?_
    obtain rfl := some_eq h
    refine fin_res [.cell 6 31] [.agg #[qI 0, (.slice none 0 0), .bool false, qI 3]] [4] [ro (.slice none 0 0) 20 (([] : List S_api_Segment).map S_api_Segment.enc)] Tryz.results34 rfl (rescons (res_box 3 Tryz.isAgg31 Tryz.sizeOf31 rfl rfl rfl) resnil) (by decide) rfl ?_
    exact ⟨_, rfl, rfl⟩
   ·replace h := cond_f h hc24
    refine run_skip ?_
    refine goes_code ?_
    refine run_seq ?_
    obtain ⟨hr27, h⟩ := need_some h
    obtain ⟨hr30, h⟩ := need_some h
    refine run_drawany [ro p_0_Lv 20 (p_0.L.map S_api_Segment.enc), box b1 [qI p_0.First, p_0_Lv, .bool p_0.Done], box b2 [qI s_1.Num, qI s_1.Begin, qI s_1.Len, qB s_1.Body.a0_, qB s_1.Body.a1_, qB s_1.Body.a2_, qB s_1.Body.a3_, qB s_1.Body.a4_, qB s_1.Body.a5_, qB s_1.Body.a6_, qB s_1.Body.a7_, qB s_1.Body.a8_, qB s_1.Body.a9_, qB s_1.Body.a10_, qB s_1.Body.a11_, qB s_1.Body.a12_, qB s_1.Body.a13_, qB s_1.Body.a14_, qB s_1.Body.a15_, qI s_1.Size], box b3 [qI 0, .slice none 0 0, .bool false, qI 0]] (by kernel_rfl) ?_
    refine any_y 0 rfl (by kernel_rfl) (by kernel_rfl) (by kernel_rfl) (ss (ss (ss (ss (sn))))) (wn rfl) rfl (y_fieldAddr_box (sz := 0) Tryz.runUnderlying24 rfl Tryz.sizeOf3 rfl) ?_
    refine any_y 1 rfl (by kernel_rfl) (by kernel_rfl) (by kernel_rfl) (ss (ss (ss (ss (sn))))) (wn rfl) rfl (y_load_box 1 Tryz.isAgg3 rfl rfl rfl) ?_
    refine any_y 3 rfl (by kernel_rfl) (by kernel_rfl) (by kernel_rfl) (ss (ss (ss (ss (sn))))) (wn rfl) rfl (y_fieldAddr_box (sz := 0) Tryz.runUnderlying24 rfl Tryz.sizeOf22 rfl) ?_
    refine any_y 4 rfl (by kernel_rfl) (by kernel_rfl) (by kernel_rfl) (ss (ss (ss (ss (sn))))) (wn rfl) rfl (y_load_box 1 Tryz.isAgg22 rfl rfl rfl) ?_
    refine any_y 6 rfl (by kernel_rfl) (by kernel_rfl) (by kernel_rfl) (ss (ss (ss (ss (sn))))) (wn rfl) rfl (y_load_boxagg (c := [qI s_1.Num, qI s_1.Begin, qI s_1.Len, qB s_1.Body.a0_, qB s_1.Body.a1_, qB s_1.Body.a2_, qB s_1.Body.a3_, qB s_1.Body.a4_, qB s_1.Body.a5_, qB s_1.Body.a6_, qB s_1.Body.a7_, qB s_1.Body.a8_, qB s_1.Body.a9_, qB s_1.Body.a10_, qB s_1.Body.a11_, qB s_1.Body.a12_, qB s_1.Body.a13_, qB s_1.Body.a14_, qB s_1.Body.a15_, qI s_1.Size]) 2 Tryz.isAgg57 Tryz.sizeOf57 rfl rfl rfl) ?_
    refine any_cut2 #[true, true, true, true, true, true, true, true, true, true, true, true] 0 (Nat × Value × Value) (fun σ => [(2, qI window_2), (6, boxP b3 0), (7, boxP σ.1 0)]) (fun σ => [ro p_0_Lv 20 (p_0.L.map S_api_Segment.enc), box b1 [qI p_0.First, p_0_Lv, .bool p_0.Done], box b2 [qI s_1.Num, qI s_1.Begin, qI s_1.Len, qB s_1.Body.a0_, qB s_1.Body.a1_, qB s_1.Body.a2_, qB s_1.Body.a3_, qB s_1.Body.a4_, qB s_1.Body.a5_, qB s_1.Body.a6_, qB s_1.Body.a7_, qB s_1.Body.a8_, qB s_1.Body.a9_, qB s_1.Body.a10_, qB s_1.Body.a11_, qB s_1.Body.a12_, qB s_1.Body.a13_, qB s_1.Body.a14_, qB s_1.Body.a15_, qI s_1.Size], box b3 [qI 0, .slice none 0 0, .bool false, qI 0], row σ.2.1 20 (((([] : List S_api_Segment) ++ p_0.L) ++ ([s_1] : List S_api_Segment)).map S_api_Segment.enc), row σ.2.2 20 (([s_1] : List S_api_Segment).map S_api_Segment.enc), box σ.1 [qI p_0.First, σ.2.1, .bool false]]) ?_ (fun hK50 => ?_)
    ·rintro ⟨b48, v44, v41⟩
     change AnyL _ _ _ _ _ (VF.of [(2, qI window_2), (6, boxP b3 0), (7, boxP b48 0)]) [ro p_0_Lv 20 (p_0.L.map S_api_Segment.enc), box b1 [qI p_0.First, p_0_Lv, .bool p_0.Done], box b2 [qI s_1.Num, qI s_1.Begin, qI s_1.Len, qB s_1.Body.a0_, qB s_1.Body.a1_, qB s_1.Body.a2_, qB s_1.Body.a3_, qB s_1.Body.a4_, qB s_1.Body.a5_, qB s_1.Body.a6_, qB s_1.Body.a7_, qB s_1.Body.a8_, qB s_1.Body.a9_, qB s_1.Body.a10_, qB s_1.Body.a11_, qB s_1.Body.a12_, qB s_1.Body.a13_, qB s_1.Body.a14_, qB s_1.Body.a15_, qI s_1.Size], box b3 [qI 0, .slice none 0 0, .bool false, qI 0], row v44 20 (((([] : List S_api_Segment) ++ p_0.L) ++ ([s_1] : List S_api_Segment)).map S_api_Segment.enc), row v41 20 (([s_1] : List S_api_Segment).map S_api_Segment.enc), box b48 [qI p_0.First, v44, .bool false]] _
     refine any_nil (by kernel_rfl) ?_
     refine goes_code ?_
     refine run_seq ?_
     refine run_region' ?_
     refine oy rfl rfl (y_load_boxagg (c := [qI p_0.First, v44, .bool false]) 6 Tryz.isAgg24 Tryz.sizeOf24 rfl rfl rfl) ?_
     refine oy rfl rfl (y_move rfl) ?_
     refine ops_turn (Go.Abs.freeze 4 rfl) ?_
     obtain ⟨r51, hr52, h⟩ := obind_some h
     refine ot rfl rfl (t_callx (vs := [.agg #[qI p_0.First, v44, .bool false], qI window_2]) (cs := []) [(4, 0)] rfl Tryz.call44 rfl (ref43_cut_ok (S_api_Playlist.mk p_0.First ((([] : List S_api_Segment) ++ p_0.L) ++ ([s_1] : List S_api_Segment)) false) window_2 v44 hr52) (showsX_view 4 rfl views_ro showsX_nil) rfl (.inl rfl)) ?_
     rintro _ _ ⟨_, ⟨v53, rfl, rfl⟩, rfl⟩
     refine ops_slc 7 rfl reads_ro (fun hs54 hs54o => ?_)
     refine oy rfl rfl (y_build_struct (cells := #[.int .i64 r51.First, v53, .bool r51.Done, .int .i64 0]) [(0, .agg #[.int .i64 r51.First, v53, .bool r51.Done])] [(0, [.int .i64 r51.First, v53, .bool r51.Done])] Tryz.zeroValue31 Tryz.runUnderlying31 (fs_cons Tryz.sizeOf24 (fs_cons Tryz.sizeOf27 fs_nil)) rfl (by first | (simp only [List.map_cons, List.map_nil, hs54]; done) | (simp only [List.map_cons, List.map_nil, hs54]; rfl)) rfl) ?_
     refine ops_slc 7 rfl reads_ro (fun hs55 hs55o => ?_)
     refine ot rfl rfl (t_store 3 Tryz.sizeOf31 rfl rfl rfl rfl (by simp [Value.cells, boxP]) (allL_cons rfl (allL_cons hs55o (allL_cons rfl (allL_cons rfl (allL_nil)))))) ?_
     rintro _ _ ⟨rfl, rfl⟩
     refine ops_turn (retell 3 (g := box b3 [qI r51.First, v53, .bool r51.Done, qI 0]) rfl rfl) ?_
     refine ops_nil ?_
     refine goes_code ?_
     refine run_ret ?_
     obtain rfl := some_eq h
     refine fin_res [.cell 6 31] [.agg #[qI r51.First, v53, .bool r51.Done, qI 0]] [7] [ro v53 20 (r51.L.map S_api_Segment.enc)] Tryz.results34 rfl (rescons (res_box 3 Tryz.isAgg31 Tryz.sizeOf31 rfl rfl rfl) resnil) (by decide) rfl ?_
     exact ⟨_, rfl, rfl⟩
    refine any_cut2 #[true, true, true, true, true, true, true, true, true, true, true, false] 1 (Value × Nat × Value) (fun σ => [(2, qI window_2), (6, boxP b3 0), (43, .agg #[qI p_0.First, σ.1, .bool false]), (7, boxP σ.2.1 0)]) (fun σ => [ro p_0_Lv 20 (p_0.L.map S_api_Segment.enc), box b1 [qI p_0.First, p_0_Lv, .bool p_0.Done], box b2 [qI s_1.Num, qI s_1.Begin, qI s_1.Len, qB s_1.Body.a0_, qB s_1.Body.a1_, qB s_1.Body.a2_, qB s_1.Body.a3_, qB s_1.Body.a4_, qB s_1.Body.a5_, qB s_1.Body.a6_, qB s_1.Body.a7_, qB s_1.Body.a8_, qB s_1.Body.a9_, qB s_1.Body.a10_, qB s_1.Body.a11_, qB s_1.Body.a12_, qB s_1.Body.a13_, qB s_1.Body.a14_, qB s_1.Body.a15_, qI s_1.Size], box b3 [qI 0, .slice none 0 0, .bool false, qI 0], row σ.1 20 (((([] : List S_api_Segment) ++ p_0.L) ++ ([s_1] : List S_api_Segment)).map S_api_Segment.enc), row σ.2.2 20 (([s_1] : List S_api_Segment).map S_api_Segment.enc), box σ.2.1 [qI 0, .slice none 0 0, .bool false]]) ?_ (fun hK56 => ?_)
    ·rintro ⟨v44, b48, v41⟩
     change AnyL _ _ _ _ _ (VF.of [(2, qI window_2), (6, boxP b3 0), (43, .agg #[qI p_0.First, v44, .bool false]), (7, boxP b48 0)]) [ro p_0_Lv 20 (p_0.L.map S_api_Segment.enc), box b1 [qI p_0.First, p_0_Lv, .bool p_0.Done], box b2 [qI s_1.Num, qI s_1.Begin, qI s_1.Len, qB s_1.Body.a0_, qB s_1.Body.a1_, qB s_1.Body.a2_, qB s_1.Body.a3_, qB s_1.Body.a4_, qB s_1.Body.a5_, qB s_1.Body.a6_, qB s_1.Body.a7_, qB s_1.Body.a8_, qB s_1.Body.a9_, qB s_1.Body.a10_, qB s_1.Body.a11_, qB s_1.Body.a12_, qB s_1.Body.a13_, qB s_1.Body.a14_, qB s_1.Body.a15_, qI s_1.Size], box b3 [qI 0, .slice none 0 0, .bool false, qI 0], row v44 20 (((([] : List S_api_Segment) ++ p_0.L) ++ ([s_1] : List S_api_Segment)).map S_api_Segment.enc), row v41 20 (([s_1] : List S_api_Segment).map S_api_Segment.enc), box b48 [qI 0, .slice none 0 0, .bool false]] _
     refine any_all [11] (by kernel_rfl) rfl ?_
     refine anyo_cons ?_ ?_
     ·
      refine anyo_slc 4 rfl reads_row (fun hs57 hs57o => ?_)
      refine any_t rfl (wn rfl) rfl (t_store 6 Tryz.sizeOf24 rfl rfl rfl rfl (by simp [Value.cells, boxP]) (allL_cons rfl (allL_cons hs57o (allL_cons rfl (allL_nil))))) ?_
      rintro _ _ ⟨rfl, rfl⟩
      refine ⟨(ss (ss (ss (ss (sn))))), ?_⟩
      refine any_turn (retell 6 (g := box b48 [qI p_0.First, v44, .bool false]) rfl rfl) ?_
      exact any_weak2 (hK50 (b48, v44, v41)) [0, 1, 2, 3, 4, 5, 6] (by kernel_rfl) (qv3 rfl rfl rfl) (by decide) rfl
     exact anyo_nil
    refine any_cut2 #[true, true, true, true, true, true, true, true, true, true, false, false] 2 (Value × Value) (fun σ => [(2, qI window_2), (6, boxP b3 0), (43, .agg #[qI p_0.First, σ.1, .bool false])]) (fun σ => [ro p_0_Lv 20 (p_0.L.map S_api_Segment.enc), box b1 [qI p_0.First, p_0_Lv, .bool p_0.Done], box b2 [qI s_1.Num, qI s_1.Begin, qI s_1.Len, qB s_1.Body.a0_, qB s_1.Body.a1_, qB s_1.Body.a2_, qB s_1.Body.a3_, qB s_1.Body.a4_, qB s_1.Body.a5_, qB s_1.Body.a6_, qB s_1.Body.a7_, qB s_1.Body.a8_, qB s_1.Body.a9_, qB s_1.Body.a10_, qB s_1.Body.a11_, qB s_1.Body.a12_, qB s_1.Body.a13_, qB s_1.Body.a14_, qB s_1.Body.a15_, qI s_1.Size], box b3 [qI 0, .slice none 0 0, .bool false, qI 0], row σ.1 20 (((([] : List S_api_Segment) ++ p_0.L) ++ ([s_1] : List S_api_Segment)).map S_api_Segment.enc), row σ.2 20 (([s_1] : List S_api_Segment).map S_api_Segment.enc)]) ?_ (fun hK58 => ?_)
    ·rintro ⟨v44, v41⟩
     change AnyL _ _ _ _ _ (VF.of [(2, qI window_2), (6, boxP b3 0), (43, .agg #[qI p_0.First, v44, .bool false])]) [ro p_0_Lv 20 (p_0.L.map S_api_Segment.enc), box b1 [qI p_0.First, p_0_Lv, .bool p_0.Done], box b2 [qI s_1.Num, qI s_1.Begin, qI s_1.Len, qB s_1.Body.a0_, qB s_1.Body.a1_, qB s_1.Body.a2_, qB s_1.Body.a3_, qB s_1.Body.a4_, qB s_1.Body.a5_, qB s_1.Body.a6_, qB s_1.Body.a7_, qB s_1.Body.a8_, qB s_1.Body.a9_, qB s_1.Body.a10_, qB s_1.Body.a11_, qB s_1.Body.a12_, qB s_1.Body.a13_, qB s_1.Body.a14_, qB s_1.Body.a15_, qI s_1.Size], box b3 [qI 0, .slice none 0 0, .bool false, qI 0], row v44 20 (((([] : List S_api_Segment) ++ p_0.L) ++ ([s_1] : List S_api_Segment)).map S_api_Segment.enc), row v41 20 (([s_1] : List S_api_Segment).map S_api_Segment.enc)] _
     refine any_all [10] (by kernel_rfl) rfl ?_
     refine anyo_cons ?_ ?_
     ·
      refine any_t rfl (wn rfl) rfl (t_alloc Tryz.zeroValue24) ?_
      rintro _ _ ⟨b59, rfl, rfl⟩
      refine ⟨(ss (ss (ss (ss (sn))))), ?_⟩
      exact any_weak2 (hK56 (v44, b59, v41)) [0, 1, 2, 3, 4, 5, 6] (by kernel_rfl) (qv4 rfl rfl rfl rfl) (by decide) rfl
     exact anyo_nil
    refine any_cut2 #[true, true, true, true, true, true, true, true, true, false, true, false] 2 (Value × Nat × Value) (fun σ => [(2, qI window_2), (6, boxP b3 0), (35, qI p_0.First), (42, σ.1), (7, boxP σ.2.1 0)]) (fun σ => [ro p_0_Lv 20 (p_0.L.map S_api_Segment.enc), box b1 [qI p_0.First, p_0_Lv, .bool p_0.Done], box b2 [qI s_1.Num, qI s_1.Begin, qI s_1.Len, qB s_1.Body.a0_, qB s_1.Body.a1_, qB s_1.Body.a2_, qB s_1.Body.a3_, qB s_1.Body.a4_, qB s_1.Body.a5_, qB s_1.Body.a6_, qB s_1.Body.a7_, qB s_1.Body.a8_, qB s_1.Body.a9_, qB s_1.Body.a10_, qB s_1.Body.a11_, qB s_1.Body.a12_, qB s_1.Body.a13_, qB s_1.Body.a14_, qB s_1.Body.a15_, qI s_1.Size], box b3 [qI 0, .slice none 0 0, .bool false, qI 0], row σ.1 20 (((([] : List S_api_Segment) ++ p_0.L) ++ ([s_1] : List S_api_Segment)).map S_api_Segment.enc), row σ.2.2 20 (([s_1] : List S_api_Segment).map S_api_Segment.enc), box σ.2.1 [qI 0, .slice none 0 0, .bool false]]) ?_ (fun hK60 => ?_)
    ·rintro ⟨v44, b47, v41⟩
     change AnyL _ _ _ _ _ (VF.of [(2, qI window_2), (6, boxP b3 0), (35, qI p_0.First), (42, v44), (7, boxP b47 0)]) [ro p_0_Lv 20 (p_0.L.map S_api_Segment.enc), box b1 [qI p_0.First, p_0_Lv, .bool p_0.Done], box b2 [qI s_1.Num, qI s_1.Begin, qI s_1.Len, qB s_1.Body.a0_, qB s_1.Body.a1_, qB s_1.Body.a2_, qB s_1.Body.a3_, qB s_1.Body.a4_, qB s_1.Body.a5_, qB s_1.Body.a6_, qB s_1.Body.a7_, qB s_1.Body.a8_, qB s_1.Body.a9_, qB s_1.Body.a10_, qB s_1.Body.a11_, qB s_1.Body.a12_, qB s_1.Body.a13_, qB s_1.Body.a14_, qB s_1.Body.a15_, qI s_1.Size], box b3 [qI 0, .slice none 0 0, .bool false, qI 0], row v44 20 (((([] : List S_api_Segment) ++ p_0.L) ++ ([s_1] : List S_api_Segment)).map S_api_Segment.enc), row v41 20 (([s_1] : List S_api_Segment).map S_api_Segment.enc), box b47 [qI 0, .slice none 0 0, .bool false]] _
     refine any_all [9] (by kernel_rfl) rfl ?_
     refine anyo_cons ?_ ?_
     ·
      refine anyo_slc 4 rfl reads_row (fun hs61 hs61o => ?_)
      refine any_ty rfl (wn rfl) rfl (y_build_struct (cells := #[.int .i64 p_0.First, v44, .bool false]) [(0, .int .i64 p_0.First), (1, v44)] [(0, [.int .i64 p_0.First]), (1, [v44])] Tryz.zeroValue24 Tryz.runUnderlying24 (fs_cons Tryz.sizeOf3 (fs_cons Tryz.sizeOf22 (fs_cons Tryz.sizeOf4 fs_nil))) rfl (by first | (simp only [List.map_cons, List.map_nil, hs61]; done) | (simp only [List.map_cons, List.map_nil, hs61]; rfl)) rfl) ⟨(ss (ss (ss (ss (sn))))), ?_⟩
      exact any_weak2 (hK56 (v44, b47, v41)) [0, 1, 2, 3, 4, 5, 6] (by kernel_rfl) (qv4 rfl rfl rfl rfl) (by decide) rfl
     exact anyo_nil
    refine any_cut2 #[true, true, true, true, true, true, true, true, true, false, false, false] 3 (Value × Value) (fun σ => [(2, qI window_2), (6, boxP b3 0), (35, qI p_0.First), (42, σ.1)]) (fun σ => [ro p_0_Lv 20 (p_0.L.map S_api_Segment.enc), box b1 [qI p_0.First, p_0_Lv, .bool p_0.Done], box b2 [qI s_1.Num, qI s_1.Begin, qI s_1.Len, qB s_1.Body.a0_, qB s_1.Body.a1_, qB s_1.Body.a2_, qB s_1.Body.a3_, qB s_1.Body.a4_, qB s_1.Body.a5_, qB s_1.Body.a6_, qB s_1.Body.a7_, qB s_1.Body.a8_, qB s_1.Body.a9_, qB s_1.Body.a10_, qB s_1.Body.a11_, qB s_1.Body.a12_, qB s_1.Body.a13_, qB s_1.Body.a14_, qB s_1.Body.a15_, qI s_1.Size], box b3 [qI 0, .slice none 0 0, .bool false, qI 0], row σ.1 20 (((([] : List S_api_Segment) ++ p_0.L) ++ ([s_1] : List S_api_Segment)).map S_api_Segment.enc), row σ.2 20 (([s_1] : List S_api_Segment).map S_api_Segment.enc)]) ?_ (fun hK62 => ?_)
    ·rintro ⟨v44, v41⟩
     change AnyL _ _ _ _ _ (VF.of [(2, qI window_2), (6, boxP b3 0), (35, qI p_0.First), (42, v44)]) [ro p_0_Lv 20 (p_0.L.map S_api_Segment.enc), box b1 [qI p_0.First, p_0_Lv, .bool p_0.Done], box b2 [qI s_1.Num, qI s_1.Begin, qI s_1.Len, qB s_1.Body.a0_, qB s_1.Body.a1_, qB s_1.Body.a2_, qB s_1.Body.a3_, qB s_1.Body.a4_, qB s_1.Body.a5_, qB s_1.Body.a6_, qB s_1.Body.a7_, qB s_1.Body.a8_, qB s_1.Body.a9_, qB s_1.Body.a10_, qB s_1.Body.a11_, qB s_1.Body.a12_, qB s_1.Body.a13_, qB s_1.Body.a14_, qB s_1.Body.a15_, qI s_1.Size], box b3 [qI 0, .slice none 0 0, .bool false, qI 0], row v44 20 (((([] : List S_api_Segment) ++ p_0.L) ++ ([s_1] : List S_api_Segment)).map S_api_Segment.enc), row v41 20 (([s_1] : List S_api_Segment).map S_api_Segment.enc)] _
     refine any_all [9, 10] (by kernel_rfl) rfl ?_
     refine anyo_cons ?_ ?_
     ·
      refine anyo_slc 4 rfl reads_row (fun hs63 hs63o => ?_)
      refine any_ty rfl (wn rfl) rfl (y_build_struct (cells := #[.int .i64 p_0.First, v44, .bool false]) [(0, .int .i64 p_0.First), (1, v44)] [(0, [.int .i64 p_0.First]), (1, [v44])] Tryz.zeroValue24 Tryz.runUnderlying24 (fs_cons Tryz.sizeOf3 (fs_cons Tryz.sizeOf22 (fs_cons Tryz.sizeOf4 fs_nil))) rfl (by first | (simp only [List.map_cons, List.map_nil, hs63]; done) | (simp only [List.map_cons, List.map_nil, hs63]; rfl)) rfl) ⟨(ss (ss (ss (ss (sn))))), ?_⟩
      exact any_weak2 (hK58 (v44, v41)) [0, 1, 2, 3, 4, 5] (by kernel_rfl) (qv3 rfl rfl rfl) (by decide) rfl
     refine anyo_cons ?_ ?_
     ·
      refine any_t rfl (wn rfl) rfl (t_alloc Tryz.zeroValue24) ?_
      rintro _ _ ⟨b64, rfl, rfl⟩
      refine ⟨(ss (ss (ss (ss (sn))))), ?_⟩
      exact any_weak2 (hK60 (v44, b64, v41)) [0, 1, 2, 3, 4, 5, 6] (by kernel_rfl) (qv5 rfl rfl rfl rfl rfl) (by decide) rfl
     exact anyo_nil
    refine any_cut2 #[true, true, true, true, true, true, true, true, false, false, true, false] 3 (Value × Value × Nat) (fun σ => [(2, qI window_2), (6, boxP b3 0), (35, qI p_0.First), (39, σ.1), (41, σ.2.1), (7, boxP σ.2.2 0)]) (fun σ => [ro p_0_Lv 20 (p_0.L.map S_api_Segment.enc), box b1 [qI p_0.First, p_0_Lv, .bool p_0.Done], box b2 [qI s_1.Num, qI s_1.Begin, qI s_1.Len, qB s_1.Body.a0_, qB s_1.Body.a1_, qB s_1.Body.a2_, qB s_1.Body.a3_, qB s_1.Body.a4_, qB s_1.Body.a5_, qB s_1.Body.a6_, qB s_1.Body.a7_, qB s_1.Body.a8_, qB s_1.Body.a9_, qB s_1.Body.a10_, qB s_1.Body.a11_, qB s_1.Body.a12_, qB s_1.Body.a13_, qB s_1.Body.a14_, qB s_1.Body.a15_, qI s_1.Size], box b3 [qI 0, .slice none 0 0, .bool false, qI 0], row σ.1 20 ((([] : List S_api_Segment) ++ p_0.L).map S_api_Segment.enc), row σ.2.1 20 (([s_1] : List S_api_Segment).map S_api_Segment.enc), box σ.2.2 [qI 0, .slice none 0 0, .bool false]]) ?_ (fun hK65 => ?_)
    ·rintro ⟨v37, v41, b45⟩
     change AnyL _ _ _ _ _ (VF.of [(2, qI window_2), (6, boxP b3 0), (35, qI p_0.First), (39, v37), (41, v41), (7, boxP b45 0)]) [ro p_0_Lv 20 (p_0.L.map S_api_Segment.enc), box b1 [qI p_0.First, p_0_Lv, .bool p_0.Done], box b2 [qI s_1.Num, qI s_1.Begin, qI s_1.Len, qB s_1.Body.a0_, qB s_1.Body.a1_, qB s_1.Body.a2_, qB s_1.Body.a3_, qB s_1.Body.a4_, qB s_1.Body.a5_, qB s_1.Body.a6_, qB s_1.Body.a7_, qB s_1.Body.a8_, qB s_1.Body.a9_, qB s_1.Body.a10_, qB s_1.Body.a11_, qB s_1.Body.a12_, qB s_1.Body.a13_, qB s_1.Body.a14_, qB s_1.Body.a15_, qI s_1.Size], box b3 [qI 0, .slice none 0 0, .bool false, qI 0], row v37 20 ((([] : List S_api_Segment) ++ p_0.L).map S_api_Segment.enc), row v41 20 (([s_1] : List S_api_Segment).map S_api_Segment.enc), box b45 [qI 0, .slice none 0 0, .bool false]] _
     refine any_all [8] (by kernel_rfl) rfl ?_
     refine anyo_cons ?_ ?_
     ·
      refine any_t rfl (wn rfl) rfl (t_append (es := 20) 4 rfl Tryz.runUnderlying22 rfl Tryz.runUnderlying22 (.inr ⟨_, rfl⟩) Tryz.typeInfo57 rfl (by decide) Tryz.zeroValue57 rfl rfl rfl rfl (src_reads 5 rfl reads_row (map_ok S_api_Segment.enc_ok _)) (map_room hr30 (by decide)) (map_fit hr30)) ?_
      rintro v66 _ rfl
      refine ⟨(ss (ss (ss (ss (sn))))), ?_⟩
      refine any_turn (retell 4 (g := row v66 20 (((([] : List S_api_Segment) ++ p_0.L) ++ ([s_1] : List S_api_Segment)).map S_api_Segment.enc)) rfl (congrArg (row _ _) List.map_append.symm)) ?_
      exact any_weak2 (hK60 (v66, b45, v41)) [0, 1, 2, 3, 4, 5, 6] (by kernel_rfl) (qv5 rfl rfl rfl rfl rfl) (by decide) rfl
     exact anyo_nil
    refine any_cut2 #[true, true, true, true, true, true, true, true, false, false, false, false] 4 (Value × Value) (fun σ => [(2, qI window_2), (6, boxP b3 0), (35, qI p_0.First), (39, σ.1), (41, σ.2)]) (fun σ => [ro p_0_Lv 20 (p_0.L.map S_api_Segment.enc), box b1 [qI p_0.First, p_0_Lv, .bool p_0.Done], box b2 [qI s_1.Num, qI s_1.Begin, qI s_1.Len, qB s_1.Body.a0_, qB s_1.Body.a1_, qB s_1.Body.a2_, qB s_1.Body.a3_, qB s_1.Body.a4_, qB s_1.Body.a5_, qB s_1.Body.a6_, qB s_1.Body.a7_, qB s_1.Body.a8_, qB s_1.Body.a9_, qB s_1.Body.a10_, qB s_1.Body.a11_, qB s_1.Body.a12_, qB s_1.Body.a13_, qB s_1.Body.a14_, qB s_1.Body.a15_, qI s_1.Size], box b3 [qI 0, .slice none 0 0, .bool false, qI 0], row σ.1 20 ((([] : List S_api_Segment) ++ p_0.L).map S_api_Segment.enc), row σ.2 20 (([s_1] : List S_api_Segment).map S_api_Segment.enc)]) ?_ (fun hK67 => ?_)
    ·rintro ⟨v37, v41⟩
     change AnyL _ _ _ _ _ (VF.of [(2, qI window_2), (6, boxP b3 0), (35, qI p_0.First), (39, v37), (41, v41)]) [ro p_0_Lv 20 (p_0.L.map S_api_Segment.enc), box b1 [qI p_0.First, p_0_Lv, .bool p_0.Done], box b2 [qI s_1.Num, qI s_1.Begin, qI s_1.Len, qB s_1.Body.a0_, qB s_1.Body.a1_, qB s_1.Body.a2_, qB s_1.Body.a3_, qB s_1.Body.a4_, qB s_1.Body.a5_, qB s_1.Body.a6_, qB s_1.Body.a7_, qB s_1.Body.a8_, qB s_1.Body.a9_, qB s_1.Body.a10_, qB s_1.Body.a11_, qB s_1.Body.a12_, qB s_1.Body.a13_, qB s_1.Body.a14_, qB s_1.Body.a15_, qI s_1.Size], box b3 [qI 0, .slice none 0 0, .bool false, qI 0], row v37 20 ((([] : List S_api_Segment) ++ p_0.L).map S_api_Segment.enc), row v41 20 (([s_1] : List S_api_Segment).map S_api_Segment.enc)] _
     refine any_all [8, 10] (by kernel_rfl) rfl ?_
     refine anyo_cons ?_ ?_
     ·
      refine any_t rfl (wn rfl) rfl (t_append (es := 20) 4 rfl Tryz.runUnderlying22 rfl Tryz.runUnderlying22 (.inr ⟨_, rfl⟩) Tryz.typeInfo57 rfl (by decide) Tryz.zeroValue57 rfl rfl rfl rfl (src_reads 5 rfl reads_row (map_ok S_api_Segment.enc_ok _)) (map_room hr30 (by decide)) (map_fit hr30)) ?_
      rintro v68 _ rfl
      refine ⟨(ss (ss (ss (ss (sn))))), ?_⟩
      refine any_turn (retell 4 (g := row v68 20 (((([] : List S_api_Segment) ++ p_0.L) ++ ([s_1] : List S_api_Segment)).map S_api_Segment.enc)) rfl (congrArg (row _ _) List.map_append.symm)) ?_
      exact any_weak2 (hK62 (v68, v41)) [0, 1, 2, 3, 4, 5] (by kernel_rfl) (qv4 rfl rfl rfl rfl) (by decide) rfl
     refine anyo_cons ?_ ?_
     ·
      refine any_t rfl (wn rfl) rfl (t_alloc Tryz.zeroValue24) ?_
      rintro _ _ ⟨b69, rfl, rfl⟩
      refine ⟨(ss (ss (ss (ss (sn))))), ?_⟩
      exact any_weak2 (hK65 (v37, v41, b69)) [0, 1, 2, 3, 4, 5, 6] (by kernel_rfl) (qv6 rfl rfl rfl rfl rfl rfl) (by decide) rfl
     exact anyo_nil
    refine any_cut2 #[true, true, true, true, true, true, true, false, false, false, true, false] 4 (Value × Nat) (fun σ => [(2, qI window_2), (6, boxP b3 0), (35, qI p_0.First), (40, .agg #[qI s_1.Num, qI s_1.Begin, qI s_1.Len, qB s_1.Body.a0_, qB s_1.Body.a1_, qB s_1.Body.a2_, qB s_1.Body.a3_, qB s_1.Body.a4_, qB s_1.Body.a5_, qB s_1.Body.a6_, qB s_1.Body.a7_, qB s_1.Body.a8_, qB s_1.Body.a9_, qB s_1.Body.a10_, qB s_1.Body.a11_, qB s_1.Body.a12_, qB s_1.Body.a13_, qB s_1.Body.a14_, qB s_1.Body.a15_, qI s_1.Size]), (39, σ.1), (7, boxP σ.2 0)]) (fun σ => [ro p_0_Lv 20 (p_0.L.map S_api_Segment.enc), box b1 [qI p_0.First, p_0_Lv, .bool p_0.Done], box b2 [qI s_1.Num, qI s_1.Begin, qI s_1.Len, qB s_1.Body.a0_, qB s_1.Body.a1_, qB s_1.Body.a2_, qB s_1.Body.a3_, qB s_1.Body.a4_, qB s_1.Body.a5_, qB s_1.Body.a6_, qB s_1.Body.a7_, qB s_1.Body.a8_, qB s_1.Body.a9_, qB s_1.Body.a10_, qB s_1.Body.a11_, qB s_1.Body.a12_, qB s_1.Body.a13_, qB s_1.Body.a14_, qB s_1.Body.a15_, qI s_1.Size], box b3 [qI 0, .slice none 0 0, .bool false, qI 0], row σ.1 20 ((([] : List S_api_Segment) ++ p_0.L).map S_api_Segment.enc), box σ.2 [qI 0, .slice none 0 0, .bool false]]) ?_ (fun hK70 => ?_)
    ·rintro ⟨v37, b42⟩
     change AnyL _ _ _ _ _ (VF.of [(2, qI window_2), (6, boxP b3 0), (35, qI p_0.First), (40, .agg #[qI s_1.Num, qI s_1.Begin, qI s_1.Len, qB s_1.Body.a0_, qB s_1.Body.a1_, qB s_1.Body.a2_, qB s_1.Body.a3_, qB s_1.Body.a4_, qB s_1.Body.a5_, qB s_1.Body.a6_, qB s_1.Body.a7_, qB s_1.Body.a8_, qB s_1.Body.a9_, qB s_1.Body.a10_, qB s_1.Body.a11_, qB s_1.Body.a12_, qB s_1.Body.a13_, qB s_1.Body.a14_, qB s_1.Body.a15_, qI s_1.Size]), (39, v37), (7, boxP b42 0)]) [ro p_0_Lv 20 (p_0.L.map S_api_Segment.enc), box b1 [qI p_0.First, p_0_Lv, .bool p_0.Done], box b2 [qI s_1.Num, qI s_1.Begin, qI s_1.Len, qB s_1.Body.a0_, qB s_1.Body.a1_, qB s_1.Body.a2_, qB s_1.Body.a3_, qB s_1.Body.a4_, qB s_1.Body.a5_, qB s_1.Body.a6_, qB s_1.Body.a7_, qB s_1.Body.a8_, qB s_1.Body.a9_, qB s_1.Body.a10_, qB s_1.Body.a11_, qB s_1.Body.a12_, qB s_1.Body.a13_, qB s_1.Body.a14_, qB s_1.Body.a15_, qI s_1.Size], box b3 [qI 0, .slice none 0 0, .bool false, qI 0], row v37 20 ((([] : List S_api_Segment) ++ p_0.L).map S_api_Segment.enc), box b42 [qI 0, .slice none 0 0, .bool false]] _
     refine any_all [7] (by kernel_rfl) rfl ?_
     refine anyo_cons ?_ ?_
     ·
      refine any_t rfl (wn rfl) rfl (t_lit [.agg #[.int .i64 s_1.Num, .int .i64 s_1.Begin, .int .i64 s_1.Len, .int .u8 s_1.Body.a0_, .int .u8 s_1.Body.a1_, .int .u8 s_1.Body.a2_, .int .u8 s_1.Body.a3_, .int .u8 s_1.Body.a4_, .int .u8 s_1.Body.a5_, .int .u8 s_1.Body.a6_, .int .u8 s_1.Body.a7_, .int .u8 s_1.Body.a8_, .int .u8 s_1.Body.a9_, .int .u8 s_1.Body.a10_, .int .u8 s_1.Body.a11_, .int .u8 s_1.Body.a12_, .int .u8 s_1.Body.a13_, .int .u8 s_1.Body.a14_, .int .u8 s_1.Body.a15_, .int .i64 s_1.Size]] Tryz.runUnderlying22 Tryz.sizeOf57 Tryz.zeroValue57 rfl (by decide) (by decide) rfl (by simp [Value.cells, boxP])) ?_
      rintro v71 _ ⟨rfl, _⟩
      refine ⟨(ss (ss (ss (ss (sn))))), ?_⟩
      refine any_turn (retell 6 (g := row v71 20 (([s_1] : List S_api_Segment).map S_api_Segment.enc)) rfl rfl) ?_
      exact any_weak2 (hK65 (v37, v71, b42)) [0, 1, 2, 3, 4, 6, 5] (by kernel_rfl) (qv6 rfl rfl rfl rfl rfl rfl) (by decide) rfl
     exact anyo_nil
    refine any_cut2 #[true, true, true, true, true, false, true, true, false, false, true, false] 4 (Value × Value × Nat) (fun σ => [(2, qI window_2), (6, boxP b3 0), (35, qI p_0.First), (38, p_0_Lv), (36, σ.1), (41, σ.2.1), (7, boxP σ.2.2 0)]) (fun σ => [ro p_0_Lv 20 (p_0.L.map S_api_Segment.enc), box b1 [qI p_0.First, p_0_Lv, .bool p_0.Done], box b2 [qI s_1.Num, qI s_1.Begin, qI s_1.Len, qB s_1.Body.a0_, qB s_1.Body.a1_, qB s_1.Body.a2_, qB s_1.Body.a3_, qB s_1.Body.a4_, qB s_1.Body.a5_, qB s_1.Body.a6_, qB s_1.Body.a7_, qB s_1.Body.a8_, qB s_1.Body.a9_, qB s_1.Body.a10_, qB s_1.Body.a11_, qB s_1.Body.a12_, qB s_1.Body.a13_, qB s_1.Body.a14_, qB s_1.Body.a15_, qI s_1.Size], box b3 [qI 0, .slice none 0 0, .bool false, qI 0], row σ.1 20 (([] : List S_api_Segment).map S_api_Segment.enc), row σ.2.1 20 (([s_1] : List S_api_Segment).map S_api_Segment.enc), box σ.2.2 [qI 0, .slice none 0 0, .bool false]]) ?_ (fun hK72 => ?_)
    ·rintro ⟨v34, v38, b43⟩
     change AnyL _ _ _ _ _ (VF.of [(2, qI window_2), (6, boxP b3 0), (35, qI p_0.First), (38, p_0_Lv), (36, v34), (41, v38), (7, boxP b43 0)]) [ro p_0_Lv 20 (p_0.L.map S_api_Segment.enc), box b1 [qI p_0.First, p_0_Lv, .bool p_0.Done], box b2 [qI s_1.Num, qI s_1.Begin, qI s_1.Len, qB s_1.Body.a0_, qB s_1.Body.a1_, qB s_1.Body.a2_, qB s_1.Body.a3_, qB s_1.Body.a4_, qB s_1.Body.a5_, qB s_1.Body.a6_, qB s_1.Body.a7_, qB s_1.Body.a8_, qB s_1.Body.a9_, qB s_1.Body.a10_, qB s_1.Body.a11_, qB s_1.Body.a12_, qB s_1.Body.a13_, qB s_1.Body.a14_, qB s_1.Body.a15_, qI s_1.Size], box b3 [qI 0, .slice none 0 0, .bool false, qI 0], row v34 20 (([] : List S_api_Segment).map S_api_Segment.enc), row v38 20 (([s_1] : List S_api_Segment).map S_api_Segment.enc), box b43 [qI 0, .slice none 0 0, .bool false]] _
     refine any_all [5] (by kernel_rfl) rfl ?_
     refine anyo_cons ?_ ?_
     ·
      refine any_t rfl (wn rfl) rfl (t_append (es := 20) 4 rfl Tryz.runUnderlying22 rfl Tryz.runUnderlying22 (.inr ⟨_, rfl⟩) Tryz.typeInfo57 rfl (by decide) Tryz.zeroValue57 rfl rfl rfl rfl (src_reads 0 rfl reads_ro (map_ok S_api_Segment.enc_ok _)) (map_room hr27 (by decide)) (map_fit hr27)) ?_
      rintro v73 _ rfl
      refine ⟨(ss (ss (ss (ss (sn))))), ?_⟩
      refine any_turn (retell 4 (g := row v73 20 ((([] : List S_api_Segment) ++ p_0.L).map S_api_Segment.enc)) rfl (congrArg (row _ _) List.map_append.symm)) ?_
      exact any_weak2 (hK65 (v73, v38, b43)) [0, 1, 2, 3, 4, 5, 6] (by kernel_rfl) (qv6 rfl rfl rfl rfl rfl rfl) (by decide) rfl
     exact anyo_nil
    refine any_cut2 #[true, true, true, true, true, true, true, false, false, false, false, false] 5 (Value) (fun σ => [(2, qI window_2), (6, boxP b3 0), (35, qI p_0.First), (40, .agg #[qI s_1.Num, qI s_1.Begin, qI s_1.Len, qB s_1.Body.a0_, qB s_1.Body.a1_, qB s_1.Body.a2_, qB s_1.Body.a3_, qB s_1.Body.a4_, qB s_1.Body.a5_, qB s_1.Body.a6_, qB s_1.Body.a7_, qB s_1.Body.a8_, qB s_1.Body.a9_, qB s_1.Body.a10_, qB s_1.Body.a11_, qB s_1.Body.a12_, qB s_1.Body.a13_, qB s_1.Body.a14_, qB s_1.Body.a15_, qI s_1.Size]), (39, σ)]) (fun σ => [ro p_0_Lv 20 (p_0.L.map S_api_Segment.enc), box b1 [qI p_0.First, p_0_Lv, .bool p_0.Done], box b2 [qI s_1.Num, qI s_1.Begin, qI s_1.Len, qB s_1.Body.a0_, qB s_1.Body.a1_, qB s_1.Body.a2_, qB s_1.Body.a3_, qB s_1.Body.a4_, qB s_1.Body.a5_, qB s_1.Body.a6_, qB s_1.Body.a7_, qB s_1.Body.a8_, qB s_1.Body.a9_, qB s_1.Body.a10_, qB s_1.Body.a11_, qB s_1.Body.a12_, qB s_1.Body.a13_, qB s_1.Body.a14_, qB s_1.Body.a15_, qI s_1.Size], box b3 [qI 0, .slice none 0 0, .bool false, qI 0], row σ 20 ((([] : List S_api_Segment) ++ p_0.L).map S_api_Segment.enc)]) ?_ (fun hK74 => ?_)
    ·rintro v37
     change AnyL _ _ _ _ _ (VF.of [(2, qI window_2), (6, boxP b3 0), (35, qI p_0.First), (40, .agg #[qI s_1.Num, qI s_1.Begin, qI s_1.Len, qB s_1.Body.a0_, qB s_1.Body.a1_, qB s_1.Body.a2_, qB s_1.Body.a3_, qB s_1.Body.a4_, qB s_1.Body.a5_, qB s_1.Body.a6_, qB s_1.Body.a7_, qB s_1.Body.a8_, qB s_1.Body.a9_, qB s_1.Body.a10_, qB s_1.Body.a11_, qB s_1.Body.a12_, qB s_1.Body.a13_, qB s_1.Body.a14_, qB s_1.Body.a15_, qI s_1.Size]), (39, v37)]) [ro p_0_Lv 20 (p_0.L.map S_api_Segment.enc), box b1 [qI p_0.First, p_0_Lv, .bool p_0.Done], box b2 [qI s_1.Num, qI s_1.Begin, qI s_1.Len, qB s_1.Body.a0_, qB s_1.Body.a1_, qB s_1.Body.a2_, qB s_1.Body.a3_, qB s_1.Body.a4_, qB s_1.Body.a5_, qB s_1.Body.a6_, qB s_1.Body.a7_, qB s_1.Body.a8_, qB s_1.Body.a9_, qB s_1.Body.a10_, qB s_1.Body.a11_, qB s_1.Body.a12_, qB s_1.Body.a13_, qB s_1.Body.a14_, qB s_1.Body.a15_, qI s_1.Size], box b3 [qI 0, .slice none 0 0, .bool false, qI 0], row v37 20 ((([] : List S_api_Segment) ++ p_0.L).map S_api_Segment.enc)] _
     refine any_all [7, 10] (by kernel_rfl) rfl ?_
     refine anyo_cons ?_ ?_
     ·
      refine any_t rfl (wn rfl) rfl (t_lit [.agg #[.int .i64 s_1.Num, .int .i64 s_1.Begin, .int .i64 s_1.Len, .int .u8 s_1.Body.a0_, .int .u8 s_1.Body.a1_, .int .u8 s_1.Body.a2_, .int .u8 s_1.Body.a3_, .int .u8 s_1.Body.a4_, .int .u8 s_1.Body.a5_, .int .u8 s_1.Body.a6_, .int .u8 s_1.Body.a7_, .int .u8 s_1.Body.a8_, .int .u8 s_1.Body.a9_, .int .u8 s_1.Body.a10_, .int .u8 s_1.Body.a11_, .int .u8 s_1.Body.a12_, .int .u8 s_1.Body.a13_, .int .u8 s_1.Body.a14_, .int .u8 s_1.Body.a15_, .int .i64 s_1.Size]] Tryz.runUnderlying22 Tryz.sizeOf57 Tryz.zeroValue57 rfl (by decide) (by decide) rfl (by simp [Value.cells, boxP])) ?_
      rintro v75 _ ⟨rfl, _⟩
      refine ⟨(ss (ss (ss (ss (sn))))), ?_⟩
      refine any_turn (retell 5 (g := row v75 20 (([s_1] : List S_api_Segment).map S_api_Segment.enc)) rfl rfl) ?_
      exact any_weak2 (hK67 (v37, v75)) [0, 1, 2, 3, 4, 5] (by kernel_rfl) (qv5 rfl rfl rfl rfl rfl) (by decide) rfl
     refine anyo_cons ?_ ?_
     ·
      refine any_t rfl (wn rfl) rfl (t_alloc Tryz.zeroValue24) ?_
      rintro _ _ ⟨b76, rfl, rfl⟩
      refine ⟨(ss (ss (ss (ss (sn))))), ?_⟩
      exact any_weak2 (hK70 (v37, b76)) [0, 1, 2, 3, 4, 5] (by kernel_rfl) (qv6 rfl rfl rfl rfl rfl rfl) (by decide) rfl
     exact anyo_nil
    refine any_cut2 #[true, true, true, true, true, false, true, true, false, false, false, false] 5 (Value × Value) (fun σ => [(2, qI window_2), (6, boxP b3 0), (35, qI p_0.First), (38, p_0_Lv), (36, σ.1), (41, σ.2)]) (fun σ => [ro p_0_Lv 20 (p_0.L.map S_api_Segment.enc), box b1 [qI p_0.First, p_0_Lv, .bool p_0.Done], box b2 [qI s_1.Num, qI s_1.Begin, qI s_1.Len, qB s_1.Body.a0_, qB s_1.Body.a1_, qB s_1.Body.a2_, qB s_1.Body.a3_, qB s_1.Body.a4_, qB s_1.Body.a5_, qB s_1.Body.a6_, qB s_1.Body.a7_, qB s_1.Body.a8_, qB s_1.Body.a9_, qB s_1.Body.a10_, qB s_1.Body.a11_, qB s_1.Body.a12_, qB s_1.Body.a13_, qB s_1.Body.a14_, qB s_1.Body.a15_, qI s_1.Size], box b3 [qI 0, .slice none 0 0, .bool false, qI 0], row σ.1 20 (([] : List S_api_Segment).map S_api_Segment.enc), row σ.2 20 (([s_1] : List S_api_Segment).map S_api_Segment.enc)]) ?_ (fun hK77 => ?_)
    ·rintro ⟨v34, v38⟩
     change AnyL _ _ _ _ _ (VF.of [(2, qI window_2), (6, boxP b3 0), (35, qI p_0.First), (38, p_0_Lv), (36, v34), (41, v38)]) [ro p_0_Lv 20 (p_0.L.map S_api_Segment.enc), box b1 [qI p_0.First, p_0_Lv, .bool p_0.Done], box b2 [qI s_1.Num, qI s_1.Begin, qI s_1.Len, qB s_1.Body.a0_, qB s_1.Body.a1_, qB s_1.Body.a2_, qB s_1.Body.a3_, qB s_1.Body.a4_, qB s_1.Body.a5_, qB s_1.Body.a6_, qB s_1.Body.a7_, qB s_1.Body.a8_, qB s_1.Body.a9_, qB s_1.Body.a10_, qB s_1.Body.a11_, qB s_1.Body.a12_, qB s_1.Body.a13_, qB s_1.Body.a14_, qB s_1.Body.a15_, qI s_1.Size], box b3 [qI 0, .slice none 0 0, .bool false, qI 0], row v34 20 (([] : List S_api_Segment).map S_api_Segment.enc), row v38 20 (([s_1] : List S_api_Segment).map S_api_Segment.enc)] _
     refine any_all [5, 10] (by kernel_rfl) rfl ?_
     refine anyo_cons ?_ ?_
     ·
      refine any_t rfl (wn rfl) rfl (t_append (es := 20) 4 rfl Tryz.runUnderlying22 rfl Tryz.runUnderlying22 (.inr ⟨_, rfl⟩) Tryz.typeInfo57 rfl (by decide) Tryz.zeroValue57 rfl rfl rfl rfl (src_reads 0 rfl reads_ro (map_ok S_api_Segment.enc_ok _)) (map_room hr27 (by decide)) (map_fit hr27)) ?_
      rintro v78 _ rfl
      refine ⟨(ss (ss (ss (ss (sn))))), ?_⟩
      refine any_turn (retell 4 (g := row v78 20 ((([] : List S_api_Segment) ++ p_0.L).map S_api_Segment.enc)) rfl (congrArg (row _ _) List.map_append.symm)) ?_
      exact any_weak2 (hK67 (v78, v38)) [0, 1, 2, 3, 4, 5] (by kernel_rfl) (qv5 rfl rfl rfl rfl rfl) (by decide) rfl
     refine anyo_cons ?_ ?_
     ·
      refine any_t rfl (wn rfl) rfl (t_alloc Tryz.zeroValue24) ?_
      rintro _ _ ⟨b79, rfl, rfl⟩
      refine ⟨(ss (ss (ss (ss (sn))))), ?_⟩
      exact any_weak2 (hK72 (v34, v38, b79)) [0, 1, 2, 3, 4, 5, 6] (by kernel_rfl) (qv7 rfl rfl rfl rfl rfl rfl rfl) (by decide) rfl
     exact anyo_nil
    refine any_cut2 #[true, true, true, true, true, false, true, false, false, false, true, false] 5 (Value × Nat) (fun σ => [(2, qI window_2), (6, boxP b3 0), (35, qI p_0.First), (38, p_0_Lv), (40, .agg #[qI s_1.Num, qI s_1.Begin, qI s_1.Len, qB s_1.Body.a0_, qB s_1.Body.a1_, qB s_1.Body.a2_, qB s_1.Body.a3_, qB s_1.Body.a4_, qB s_1.Body.a5_, qB s_1.Body.a6_, qB s_1.Body.a7_, qB s_1.Body.a8_, qB s_1.Body.a9_, qB s_1.Body.a10_, qB s_1.Body.a11_, qB s_1.Body.a12_, qB s_1.Body.a13_, qB s_1.Body.a14_, qB s_1.Body.a15_, qI s_1.Size]), (36, σ.1), (7, boxP σ.2 0)]) (fun σ => [ro p_0_Lv 20 (p_0.L.map S_api_Segment.enc), box b1 [qI p_0.First, p_0_Lv, .bool p_0.Done], box b2 [qI s_1.Num, qI s_1.Begin, qI s_1.Len, qB s_1.Body.a0_, qB s_1.Body.a1_, qB s_1.Body.a2_, qB s_1.Body.a3_, qB s_1.Body.a4_, qB s_1.Body.a5_, qB s_1.Body.a6_, qB s_1.Body.a7_, qB s_1.Body.a8_, qB s_1.Body.a9_, qB s_1.Body.a10_, qB s_1.Body.a11_, qB s_1.Body.a12_, qB s_1.Body.a13_, qB s_1.Body.a14_, qB s_1.Body.a15_, qI s_1.Size], box b3 [qI 0, .slice none 0 0, .bool false, qI 0], row σ.1 20 (([] : List S_api_Segment).map S_api_Segment.enc), box σ.2 [qI 0, .slice none 0 0, .bool false]]) ?_ (fun hK80 => ?_)
    ·rintro ⟨v34, b39⟩
     change AnyL _ _ _ _ _ (VF.of [(2, qI window_2), (6, boxP b3 0), (35, qI p_0.First), (38, p_0_Lv), (40, .agg #[qI s_1.Num, qI s_1.Begin, qI s_1.Len, qB s_1.Body.a0_, qB s_1.Body.a1_, qB s_1.Body.a2_, qB s_1.Body.a3_, qB s_1.Body.a4_, qB s_1.Body.a5_, qB s_1.Body.a6_, qB s_1.Body.a7_, qB s_1.Body.a8_, qB s_1.Body.a9_, qB s_1.Body.a10_, qB s_1.Body.a11_, qB s_1.Body.a12_, qB s_1.Body.a13_, qB s_1.Body.a14_, qB s_1.Body.a15_, qI s_1.Size]), (36, v34), (7, boxP b39 0)]) [ro p_0_Lv 20 (p_0.L.map S_api_Segment.enc), box b1 [qI p_0.First, p_0_Lv, .bool p_0.Done], box b2 [qI s_1.Num, qI s_1.Begin, qI s_1.Len, qB s_1.Body.a0_, qB s_1.Body.a1_, qB s_1.Body.a2_, qB s_1.Body.a3_, qB s_1.Body.a4_, qB s_1.Body.a5_, qB s_1.Body.a6_, qB s_1.Body.a7_, qB s_1.Body.a8_, qB s_1.Body.a9_, qB s_1.Body.a10_, qB s_1.Body.a11_, qB s_1.Body.a12_, qB s_1.Body.a13_, qB s_1.Body.a14_, qB s_1.Body.a15_, qI s_1.Size], box b3 [qI 0, .slice none 0 0, .bool false, qI 0], row v34 20 (([] : List S_api_Segment).map S_api_Segment.enc), box b39 [qI 0, .slice none 0 0, .bool false]] _
     refine any_all [5, 7] (by kernel_rfl) rfl ?_
     refine anyo_cons ?_ ?_
     ·
      refine any_t rfl (wn rfl) rfl (t_append (es := 20) 4 rfl Tryz.runUnderlying22 rfl Tryz.runUnderlying22 (.inr ⟨_, rfl⟩) Tryz.typeInfo57 rfl (by decide) Tryz.zeroValue57 rfl rfl rfl rfl (src_reads 0 rfl reads_ro (map_ok S_api_Segment.enc_ok _)) (map_room hr27 (by decide)) (map_fit hr27)) ?_
      rintro v81 _ rfl
      refine ⟨(ss (ss (ss (ss (sn))))), ?_⟩
      refine any_turn (retell 4 (g := row v81 20 ((([] : List S_api_Segment) ++ p_0.L).map S_api_Segment.enc)) rfl (congrArg (row _ _) List.map_append.symm)) ?_
      exact any_weak2 (hK70 (v81, b39)) [0, 1, 2, 3, 4, 5] (by kernel_rfl) (qv6 rfl rfl rfl rfl rfl rfl) (by decide) rfl
     refine anyo_cons ?_ ?_
     ·
      refine any_t rfl (wn rfl) rfl (t_lit [.agg #[.int .i64 s_1.Num, .int .i64 s_1.Begin, .int .i64 s_1.Len, .int .u8 s_1.Body.a0_, .int .u8 s_1.Body.a1_, .int .u8 s_1.Body.a2_, .int .u8 s_1.Body.a3_, .int .u8 s_1.Body.a4_, .int .u8 s_1.Body.a5_, .int .u8 s_1.Body.a6_, .int .u8 s_1.Body.a7_, .int .u8 s_1.Body.a8_, .int .u8 s_1.Body.a9_, .int .u8 s_1.Body.a10_, .int .u8 s_1.Body.a11_, .int .u8 s_1.Body.a12_, .int .u8 s_1.Body.a13_, .int .u8 s_1.Body.a14_, .int .u8 s_1.Body.a15_, .int .i64 s_1.Size]] Tryz.runUnderlying22 Tryz.sizeOf57 Tryz.zeroValue57 rfl (by decide) (by decide) rfl (by simp [Value.cells, boxP])) ?_
      rintro v82 _ ⟨rfl, _⟩
      refine ⟨(ss (ss (ss (ss (sn))))), ?_⟩
      refine any_turn (retell 6 (g := row v82 20 (([s_1] : List S_api_Segment).map S_api_Segment.enc)) rfl rfl) ?_
      exact any_weak2 (hK72 (v34, v82, b39)) [0, 1, 2, 3, 4, 6, 5] (by kernel_rfl) (qv7 rfl rfl rfl rfl rfl rfl rfl) (by decide) rfl
     exact anyo_nil
    refine any_cut2 #[true, true, false, true, true, false, true, true, false, false, true, false] 5 (Value × Nat) (fun σ => [(2, qI window_2), (6, boxP b3 0), (35, qI p_0.First), (38, p_0_Lv), (41, σ.1), (7, boxP σ.2 0)]) (fun σ => [ro p_0_Lv 20 (p_0.L.map S_api_Segment.enc), box b1 [qI p_0.First, p_0_Lv, .bool p_0.Done], box b2 [qI s_1.Num, qI s_1.Begin, qI s_1.Len, qB s_1.Body.a0_, qB s_1.Body.a1_, qB s_1.Body.a2_, qB s_1.Body.a3_, qB s_1.Body.a4_, qB s_1.Body.a5_, qB s_1.Body.a6_, qB s_1.Body.a7_, qB s_1.Body.a8_, qB s_1.Body.a9_, qB s_1.Body.a10_, qB s_1.Body.a11_, qB s_1.Body.a12_, qB s_1.Body.a13_, qB s_1.Body.a14_, qB s_1.Body.a15_, qI s_1.Size], box b3 [qI 0, .slice none 0 0, .bool false, qI 0], row σ.1 20 (([s_1] : List S_api_Segment).map S_api_Segment.enc), box σ.2 [qI 0, .slice none 0 0, .bool false]]) ?_ (fun hK83 => ?_)
    ·rintro ⟨v35, b40⟩
     change AnyL _ _ _ _ _ (VF.of [(2, qI window_2), (6, boxP b3 0), (35, qI p_0.First), (38, p_0_Lv), (41, v35), (7, boxP b40 0)]) [ro p_0_Lv 20 (p_0.L.map S_api_Segment.enc), box b1 [qI p_0.First, p_0_Lv, .bool p_0.Done], box b2 [qI s_1.Num, qI s_1.Begin, qI s_1.Len, qB s_1.Body.a0_, qB s_1.Body.a1_, qB s_1.Body.a2_, qB s_1.Body.a3_, qB s_1.Body.a4_, qB s_1.Body.a5_, qB s_1.Body.a6_, qB s_1.Body.a7_, qB s_1.Body.a8_, qB s_1.Body.a9_, qB s_1.Body.a10_, qB s_1.Body.a11_, qB s_1.Body.a12_, qB s_1.Body.a13_, qB s_1.Body.a14_, qB s_1.Body.a15_, qI s_1.Size], box b3 [qI 0, .slice none 0 0, .bool false, qI 0], row v35 20 (([s_1] : List S_api_Segment).map S_api_Segment.enc), box b40 [qI 0, .slice none 0 0, .bool false]] _
     refine any_all [2] (by kernel_rfl) rfl ?_
     refine anyo_cons ?_ ?_
     ·
      refine any_t rfl (wn rfl) rfl (t_lit [] Tryz.runUnderlying22 Tryz.sizeOf57 Tryz.zeroValue57 rfl (by decide) (by decide) rfl (by simp [Value.cells, boxP])) ?_
      rintro v84 _ ⟨rfl, _⟩
      refine ⟨(ss (ss (ss (ss (sn))))), ?_⟩
      refine any_turn (retell 6 (g := row v84 20 (([] : List S_api_Segment).map S_api_Segment.enc)) rfl rfl) ?_
      exact any_weak2 (hK72 (v84, v35, b40)) [0, 1, 2, 3, 6, 4, 5] (by kernel_rfl) (qv7 rfl rfl rfl rfl rfl rfl rfl) (by decide) rfl
     exact anyo_nil
    refine any_cut2 #[true, true, true, true, true, false, true, false, false, false, false, false] 6 (Value) (fun σ => [(2, qI window_2), (6, boxP b3 0), (35, qI p_0.First), (38, p_0_Lv), (40, .agg #[qI s_1.Num, qI s_1.Begin, qI s_1.Len, qB s_1.Body.a0_, qB s_1.Body.a1_, qB s_1.Body.a2_, qB s_1.Body.a3_, qB s_1.Body.a4_, qB s_1.Body.a5_, qB s_1.Body.a6_, qB s_1.Body.a7_, qB s_1.Body.a8_, qB s_1.Body.a9_, qB s_1.Body.a10_, qB s_1.Body.a11_, qB s_1.Body.a12_, qB s_1.Body.a13_, qB s_1.Body.a14_, qB s_1.Body.a15_, qI s_1.Size]), (36, σ)]) (fun σ => [ro p_0_Lv 20 (p_0.L.map S_api_Segment.enc), box b1 [qI p_0.First, p_0_Lv, .bool p_0.Done], box b2 [qI s_1.Num, qI s_1.Begin, qI s_1.Len, qB s_1.Body.a0_, qB s_1.Body.a1_, qB s_1.Body.a2_, qB s_1.Body.a3_, qB s_1.Body.a4_, qB s_1.Body.a5_, qB s_1.Body.a6_, qB s_1.Body.a7_, qB s_1.Body.a8_, qB s_1.Body.a9_, qB s_1.Body.a10_, qB s_1.Body.a11_, qB s_1.Body.a12_, qB s_1.Body.a13_, qB s_1.Body.a14_, qB s_1.Body.a15_, qI s_1.Size], box b3 [qI 0, .slice none 0 0, .bool false, qI 0], row σ 20 (([] : List S_api_Segment).map S_api_Segment.enc)]) ?_ (fun hK85 => ?_)
    ·rintro v34
     change AnyL _ _ _ _ _ (VF.of [(2, qI window_2), (6, boxP b3 0), (35, qI p_0.First), (38, p_0_Lv), (40, .agg #[qI s_1.Num, qI s_1.Begin, qI s_1.Len, qB s_1.Body.a0_, qB s_1.Body.a1_, qB s_1.Body.a2_, qB s_1.Body.a3_, qB s_1.Body.a4_, qB s_1.Body.a5_, qB s_1.Body.a6_, qB s_1.Body.a7_, qB s_1.Body.a8_, qB s_1.Body.a9_, qB s_1.Body.a10_, qB s_1.Body.a11_, qB s_1.Body.a12_, qB s_1.Body.a13_, qB s_1.Body.a14_, qB s_1.Body.a15_, qI s_1.Size]), (36, v34)]) [ro p_0_Lv 20 (p_0.L.map S_api_Segment.enc), box b1 [qI p_0.First, p_0_Lv, .bool p_0.Done], box b2 [qI s_1.Num, qI s_1.Begin, qI s_1.Len, qB s_1.Body.a0_, qB s_1.Body.a1_, qB s_1.Body.a2_, qB s_1.Body.a3_, qB s_1.Body.a4_, qB s_1.Body.a5_, qB s_1.Body.a6_, qB s_1.Body.a7_, qB s_1.Body.a8_, qB s_1.Body.a9_, qB s_1.Body.a10_, qB s_1.Body.a11_, qB s_1.Body.a12_, qB s_1.Body.a13_, qB s_1.Body.a14_, qB s_1.Body.a15_, qI s_1.Size], box b3 [qI 0, .slice none 0 0, .bool false, qI 0], row v34 20 (([] : List S_api_Segment).map S_api_Segment.enc)] _
     refine any_all [5, 7, 10] (by kernel_rfl) rfl ?_
     refine anyo_cons ?_ ?_
     ·
      refine any_t rfl (wn rfl) rfl (t_append (es := 20) 4 rfl Tryz.runUnderlying22 rfl Tryz.runUnderlying22 (.inr ⟨_, rfl⟩) Tryz.typeInfo57 rfl (by decide) Tryz.zeroValue57 rfl rfl rfl rfl (src_reads 0 rfl reads_ro (map_ok S_api_Segment.enc_ok _)) (map_room hr27 (by decide)) (map_fit hr27)) ?_
      rintro v86 _ rfl
      refine ⟨(ss (ss (ss (ss (sn))))), ?_⟩
      refine any_turn (retell 4 (g := row v86 20 ((([] : List S_api_Segment) ++ p_0.L).map S_api_Segment.enc)) rfl (congrArg (row _ _) List.map_append.symm)) ?_
      exact any_weak2 (hK74 v86) [0, 1, 2, 3, 4] (by kernel_rfl) (qv5 rfl rfl rfl rfl rfl) (by decide) rfl
     refine anyo_cons ?_ ?_
     ·
      refine any_t rfl (wn rfl) rfl (t_lit [.agg #[.int .i64 s_1.Num, .int .i64 s_1.Begin, .int .i64 s_1.Len, .int .u8 s_1.Body.a0_, .int .u8 s_1.Body.a1_, .int .u8 s_1.Body.a2_, .int .u8 s_1.Body.a3_, .int .u8 s_1.Body.a4_, .int .u8 s_1.Body.a5_, .int .u8 s_1.Body.a6_, .int .u8 s_1.Body.a7_, .int .u8 s_1.Body.a8_, .int .u8 s_1.Body.a9_, .int .u8 s_1.Body.a10_, .int .u8 s_1.Body.a11_, .int .u8 s_1.Body.a12_, .int .u8 s_1.Body.a13_, .int .u8 s_1.Body.a14_, .int .u8 s_1.Body.a15_, .int .i64 s_1.Size]] Tryz.runUnderlying22 Tryz.sizeOf57 Tryz.zeroValue57 rfl (by decide) (by decide) rfl (by simp [Value.cells, boxP])) ?_
      rintro v87 _ ⟨rfl, _⟩
      refine ⟨(ss (ss (ss (ss (sn))))), ?_⟩
      refine any_turn (retell 5 (g := row v87 20 (([s_1] : List S_api_Segment).map S_api_Segment.enc)) rfl rfl) ?_
      exact any_weak2 (hK77 (v34, v87)) [0, 1, 2, 3, 4, 5] (by kernel_rfl) (qv6 rfl rfl rfl rfl rfl rfl) (by decide) rfl
     refine anyo_cons ?_ ?_
     ·
      refine any_t rfl (wn rfl) rfl (t_alloc Tryz.zeroValue24) ?_
      rintro _ _ ⟨b88, rfl, rfl⟩
      refine ⟨(ss (ss (ss (ss (sn))))), ?_⟩
      exact any_weak2 (hK80 (v34, b88)) [0, 1, 2, 3, 4, 5] (by kernel_rfl) (qv7 rfl rfl rfl rfl rfl rfl rfl) (by decide) rfl
     exact anyo_nil
    refine any_cut2 #[true, true, false, true, true, false, true, true, false, false, false, false] 6 (Value) (fun σ => [(2, qI window_2), (6, boxP b3 0), (35, qI p_0.First), (38, p_0_Lv), (41, σ)]) (fun σ => [ro p_0_Lv 20 (p_0.L.map S_api_Segment.enc), box b1 [qI p_0.First, p_0_Lv, .bool p_0.Done], box b2 [qI s_1.Num, qI s_1.Begin, qI s_1.Len, qB s_1.Body.a0_, qB s_1.Body.a1_, qB s_1.Body.a2_, qB s_1.Body.a3_, qB s_1.Body.a4_, qB s_1.Body.a5_, qB s_1.Body.a6_, qB s_1.Body.a7_, qB s_1.Body.a8_, qB s_1.Body.a9_, qB s_1.Body.a10_, qB s_1.Body.a11_, qB s_1.Body.a12_, qB s_1.Body.a13_, qB s_1.Body.a14_, qB s_1.Body.a15_, qI s_1.Size], box b3 [qI 0, .slice none 0 0, .bool false, qI 0], row σ 20 (([s_1] : List S_api_Segment).map S_api_Segment.enc)]) ?_ (fun hK89 => ?_)
    ·rintro v35
     change AnyL _ _ _ _ _ (VF.of [(2, qI window_2), (6, boxP b3 0), (35, qI p_0.First), (38, p_0_Lv), (41, v35)]) [ro p_0_Lv 20 (p_0.L.map S_api_Segment.enc), box b1 [qI p_0.First, p_0_Lv, .bool p_0.Done], box b2 [qI s_1.Num, qI s_1.Begin, qI s_1.Len, qB s_1.Body.a0_, qB s_1.Body.a1_, qB s_1.Body.a2_, qB s_1.Body.a3_, qB s_1.Body.a4_, qB s_1.Body.a5_, qB s_1.Body.a6_, qB s_1.Body.a7_, qB s_1.Body.a8_, qB s_1.Body.a9_, qB s_1.Body.a10_, qB s_1.Body.a11_, qB s_1.Body.a12_, qB s_1.Body.a13_, qB s_1.Body.a14_, qB s_1.Body.a15_, qI s_1.Size], box b3 [qI 0, .slice none 0 0, .bool false, qI 0], row v35 20 (([s_1] : List S_api_Segment).map S_api_Segment.enc)] _
     refine any_all [2, 10] (by kernel_rfl) rfl ?_
     refine anyo_cons ?_ ?_
     ·
      refine any_t rfl (wn rfl) rfl (t_lit [] Tryz.runUnderlying22 Tryz.sizeOf57 Tryz.zeroValue57 rfl (by decide) (by decide) rfl (by simp [Value.cells, boxP])) ?_
      rintro v90 _ ⟨rfl, _⟩
      refine ⟨(ss (ss (ss (ss (sn))))), ?_⟩
      refine any_turn (retell 5 (g := row v90 20 (([] : List S_api_Segment).map S_api_Segment.enc)) rfl rfl) ?_
      exact any_weak2 (hK77 (v90, v35)) [0, 1, 2, 3, 5, 4] (by kernel_rfl) (qv6 rfl rfl rfl rfl rfl rfl) (by decide) rfl
     refine anyo_cons ?_ ?_
     ·
      refine any_t rfl (wn rfl) rfl (t_alloc Tryz.zeroValue24) ?_
      rintro _ _ ⟨b91, rfl, rfl⟩
      refine ⟨(ss (ss (ss (ss (sn))))), ?_⟩
      exact any_weak2 (hK83 (v35, b91)) [0, 1, 2, 3, 4, 5] (by kernel_rfl) (qv6 rfl rfl rfl rfl rfl rfl) (by decide) rfl
     exact anyo_nil
    refine any_cut2 #[true, true, false, true, true, false, true, false, false, false, true, false] 6 (Nat) (fun σ => [(2, qI window_2), (6, boxP b3 0), (35, qI p_0.First), (38, p_0_Lv), (40, .agg #[qI s_1.Num, qI s_1.Begin, qI s_1.Len, qB s_1.Body.a0_, qB s_1.Body.a1_, qB s_1.Body.a2_, qB s_1.Body.a3_, qB s_1.Body.a4_, qB s_1.Body.a5_, qB s_1.Body.a6_, qB s_1.Body.a7_, qB s_1.Body.a8_, qB s_1.Body.a9_, qB s_1.Body.a10_, qB s_1.Body.a11_, qB s_1.Body.a12_, qB s_1.Body.a13_, qB s_1.Body.a14_, qB s_1.Body.a15_, qI s_1.Size]), (7, boxP σ 0)]) (fun σ => [ro p_0_Lv 20 (p_0.L.map S_api_Segment.enc), box b1 [qI p_0.First, p_0_Lv, .bool p_0.Done], box b2 [qI s_1.Num, qI s_1.Begin, qI s_1.Len, qB s_1.Body.a0_, qB s_1.Body.a1_, qB s_1.Body.a2_, qB s_1.Body.a3_, qB s_1.Body.a4_, qB s_1.Body.a5_, qB s_1.Body.a6_, qB s_1.Body.a7_, qB s_1.Body.a8_, qB s_1.Body.a9_, qB s_1.Body.a10_, qB s_1.Body.a11_, qB s_1.Body.a12_, qB s_1.Body.a13_, qB s_1.Body.a14_, qB s_1.Body.a15_, qI s_1.Size], box b3 [qI 0, .slice none 0 0, .bool false, qI 0], box σ [qI 0, .slice none 0 0, .bool false]]) ?_ (fun hK92 => ?_)
    ·rintro b36
     change AnyL _ _ _ _ _ (VF.of [(2, qI window_2), (6, boxP b3 0), (35, qI p_0.First), (38, p_0_Lv), (40, .agg #[qI s_1.Num, qI s_1.Begin, qI s_1.Len, qB s_1.Body.a0_, qB s_1.Body.a1_, qB s_1.Body.a2_, qB s_1.Body.a3_, qB s_1.Body.a4_, qB s_1.Body.a5_, qB s_1.Body.a6_, qB s_1.Body.a7_, qB s_1.Body.a8_, qB s_1.Body.a9_, qB s_1.Body.a10_, qB s_1.Body.a11_, qB s_1.Body.a12_, qB s_1.Body.a13_, qB s_1.Body.a14_, qB s_1.Body.a15_, qI s_1.Size]), (7, boxP b36 0)]) [ro p_0_Lv 20 (p_0.L.map S_api_Segment.enc), box b1 [qI p_0.First, p_0_Lv, .bool p_0.Done], box b2 [qI s_1.Num, qI s_1.Begin, qI s_1.Len, qB s_1.Body.a0_, qB s_1.Body.a1_, qB s_1.Body.a2_, qB s_1.Body.a3_, qB s_1.Body.a4_, qB s_1.Body.a5_, qB s_1.Body.a6_, qB s_1.Body.a7_, qB s_1.Body.a8_, qB s_1.Body.a9_, qB s_1.Body.a10_, qB s_1.Body.a11_, qB s_1.Body.a12_, qB s_1.Body.a13_, qB s_1.Body.a14_, qB s_1.Body.a15_, qI s_1.Size], box b3 [qI 0, .slice none 0 0, .bool false, qI 0], box b36 [qI 0, .slice none 0 0, .bool false]] _
     refine any_all [2, 7] (by kernel_rfl) rfl ?_
     refine anyo_cons ?_ ?_
     ·
      refine any_t rfl (wn rfl) rfl (t_lit [] Tryz.runUnderlying22 Tryz.sizeOf57 Tryz.zeroValue57 rfl (by decide) (by decide) rfl (by simp [Value.cells, boxP])) ?_
      rintro v93 _ ⟨rfl, _⟩
      refine ⟨(ss (ss (ss (ss (sn))))), ?_⟩
      refine any_turn (retell 5 (g := row v93 20 (([] : List S_api_Segment).map S_api_Segment.enc)) rfl rfl) ?_
      exact any_weak2 (hK80 (v93, b36)) [0, 1, 2, 3, 5, 4] (by kernel_rfl) (qv7 rfl rfl rfl rfl rfl rfl rfl) (by decide) rfl
     refine anyo_cons ?_ ?_
     ·
      refine any_t rfl (wn rfl) rfl (t_lit [.agg #[.int .i64 s_1.Num, .int .i64 s_1.Begin, .int .i64 s_1.Len, .int .u8 s_1.Body.a0_, .int .u8 s_1.Body.a1_, .int .u8 s_1.Body.a2_, .int .u8 s_1.Body.a3_, .int .u8 s_1.Body.a4_, .int .u8 s_1.Body.a5_, .int .u8 s_1.Body.a6_, .int .u8 s_1.Body.a7_, .int .u8 s_1.Body.a8_, .int .u8 s_1.Body.a9_, .int .u8 s_1.Body.a10_, .int .u8 s_1.Body.a11_, .int .u8 s_1.Body.a12_, .int .u8 s_1.Body.a13_, .int .u8 s_1.Body.a14_, .int .u8 s_1.Body.a15_, .int .i64 s_1.Size]] Tryz.runUnderlying22 Tryz.sizeOf57 Tryz.zeroValue57 rfl (by decide) (by decide) rfl (by simp [Value.cells, boxP])) ?_
      rintro v94 _ ⟨rfl, _⟩
      refine ⟨(ss (ss (ss (ss (sn))))), ?_⟩
      refine any_turn (retell 5 (g := row v94 20 (([s_1] : List S_api_Segment).map S_api_Segment.enc)) rfl rfl) ?_
      exact any_weak2 (hK83 (v94, b36)) [0, 1, 2, 3, 5, 4] (by kernel_rfl) (qv6 rfl rfl rfl rfl rfl rfl) (by decide) rfl
     exact anyo_nil
    refine any_all [2, 7, 10] (by kernel_rfl) rfl ?_
    refine anyo_cons ?_ ?_
    ·
     refine any_t rfl (wn rfl) rfl (t_lit [] Tryz.runUnderlying22 Tryz.sizeOf57 Tryz.zeroValue57 rfl (by decide) (by decide) rfl (by simp [Value.cells, boxP])) ?_
     rintro v95 _ ⟨rfl, _⟩
     refine ⟨(ss (ss (ss (ss (sn))))), ?_⟩
     refine any_turn (retell 4 (g := row v95 20 (([] : List S_api_Segment).map S_api_Segment.enc)) rfl rfl) ?_
     exact any_weak2 (hK85 v95) [0, 1, 2, 3, 4] (by kernel_rfl) (qv6 rfl rfl rfl rfl rfl rfl) (by decide) rfl
    refine anyo_cons ?_ ?_
    ·
     refine any_t rfl (wn rfl) rfl (t_lit [.agg #[.int .i64 s_1.Num, .int .i64 s_1.Begin, .int .i64 s_1.Len, .int .u8 s_1.Body.a0_, .int .u8 s_1.Body.a1_, .int .u8 s_1.Body.a2_, .int .u8 s_1.Body.a3_, .int .u8 s_1.Body.a4_, .int .u8 s_1.Body.a5_, .int .u8 s_1.Body.a6_, .int .u8 s_1.Body.a7_, .int .u8 s_1.Body.a8_, .int .u8 s_1.Body.a9_, .int .u8 s_1.Body.a10_, .int .u8 s_1.Body.a11_, .int .u8 s_1.Body.a12_, .int .u8 s_1.Body.a13_, .int .u8 s_1.Body.a14_, .int .u8 s_1.Body.a15_, .int .i64 s_1.Size]] Tryz.runUnderlying22 Tryz.sizeOf57 Tryz.zeroValue57 rfl (by decide) (by decide) rfl (by simp [Value.cells, boxP])) ?_
     rintro v96 _ ⟨rfl, _⟩
     refine ⟨(ss (ss (ss (ss (sn))))), ?_⟩
     refine any_turn (retell 4 (g := row v96 20 (([s_1] : List S_api_Segment).map S_api_Segment.enc)) rfl rfl) ?_
     exact any_weak2 (hK89 v96) [0, 1, 2, 3, 4] (by kernel_rfl) (qv5 rfl rfl rfl rfl rfl) (by decide) rfl
    refine anyo_cons ?_ ?_
    ·
     refine any_t rfl (wn rfl) rfl (t_alloc Tryz.zeroValue24) ?_
     rintro _ _ ⟨b97, rfl, rfl⟩
     refine ⟨(ss (ss (ss (ss (sn))))), ?_⟩
     exact any_weak2 (hK92 b97) [0, 1, 2, 3, 4] (by kernel_rfl) (qv6 rfl rfl rfl rfl rfl rfl) (by decide) rfl
    exact anyo_nil

end Go.Proofs.YtbgpojdmdnkeaaaGreatDoor
