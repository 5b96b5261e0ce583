/-
  Functions of the program, lifted: part 4.
-/
import Derived.Test.YtbgpojdmdnkeaaaGreatDoorFc
namespace Go.Proofs.YtbgpojdmdnkeaaaGreatDoor
open Go.Abs
set_option linter.unusedVariables false
set_option linter.unusedSimpArgs false
set_option maxRecDepth 20000
set_option maxHeartbeats 4000000

def playlist_segment_L1 (r2 : (List (List UInt8))) : (Int × Int × Int × Int × Int × Int × Int × Int × Int × Int × Int × Int × Int × Int × Int × Int × Int) → Option (Lp (Int × Int × Int × Int × Int × Int × Int × Int × Int × Int × Int × Int × Int × Int × Int × Int × Int) (Lp (Int × Int × Int × Int × Int × Int × Int × Int × Int × Int × Int × Int × Int × Int × Int × Int) (Pn (S_api_Segment)))) :=
 fun (s_78, x_79, x_80, x_81, x_82, x_83, x_84, x_85, x_86, x_87, x_88, x_89, x_90, x_91, x_92, x_93, x_94) =>
  cond (decide (s_78 < 16))
   (idx r2 3 fun x100 =>
   idx x100 (IntKind.i64.wrap (2 * s_78)) fun c101 =>
   idx x100 (IntKind.i64.wrap ((IntKind.i64.wrap (2 * s_78)) + 1)) fun c102 =>
   obind (idxH [48, 49, 50, 51, 52, 53, 54, 55, 56, 57, 97, 98, 99, 100, 101, 102] (c101.toNat : Int)) fun r103 =>
   obind (idxH [48, 49, 50, 51, 52, 53, 54, 55, 56, 57, 97, 98, 99, 100, 101, 102] (c102.toNat : Int)) fun r105 =>
   obind (playlist_must (decide (0 ≤ r103) && decide (0 ≤ r105))) fun r110 =>
   pbind r110 (fun e113 =>
    some (.stop (.stop (.pan e113)))) fun q112 =>
   need (0 ≤ s_78 ∧ s_78 < 16) (
   obind (some (S_api_Digest.put (S_api_Digest.mk x_79 x_80 x_81 x_82 x_83 x_84 x_85 x_86 x_87 x_88 x_89 x_90 x_91 x_92 x_93 x_94) s_78 (IntKind.u8.wrap (IntKind.i64.wrap ((IntKind.i64.wrap (16 * r103)) + r105))))) fun x115 =>
   some (.go ((IntKind.i64.wrap (s_78 + 1)), x115.a0_, x115.a1_, x115.a2_, x115.a3_, x115.a4_, x115.a5_, x115.a6_, x115.a7_, x115.a8_, x115.a9_, x115.a10_, x115.a11_, x115.a12_, x115.a13_, x115.a14_, x115.a15_))))
   (some (.stop (.go (x_79, x_80, x_81, x_82, x_83, x_84, x_85, x_86, x_87, x_88, x_89, x_90, x_91, x_92, x_93, x_94))))
def playlist_segment (n : Nat) (s_0 : (List UInt8)) : Option (Pn (S_api_Segment)) :=
 obind (splitH s_0 [32]) fun r2 =>
 bindJ (S := Bool)
  (cond (decide ((r2.length : Int) = 4))
   (idx r2 3 fun x11 =>
   some (.go (decide ((x11.length : Int) = 32))))
   (some (.go false)))
 (fun b5 =>
  obind (playlist_must b5) fun r12 =>
  pbind r12 (fun e15 =>
   some (.pan e15)) fun q14 =>
  idx r2 0 fun x16 =>
  obind (playlist_number x16) fun r17 =>
  idx r2 1 fun x21 =>
  obind (playlist_number x21) fun r22 =>
  idx r2 2 fun x26 =>
  obind (playlist_number x26) fun r27 =>
  pbind r17 (fun e20 =>
   some (.pan e20)) fun q19 =>
  pbind r22 (fun e25 =>
   some (.pan e25)) fun q24 =>
  pbind r27 (fun e30 =>
   some (.pan e30)) fun q29 =>
  bindJ (S := Int × Int × Int × Int × Int × Int × Int × Int × Int × Int × Int × Int × Int × Int × Int × Int)
   (iter (playlist_segment_L1 r2) n (0, 0, 0, 0, 0, 0, 0, 0, 0, 0, 0, 0, 0, 0, 0, 0, 0))
  (fun (x_58, x_59, x_60, x_61, x_62, x_63, x_64, x_65, x_66, x_67, x_68, x_69, x_70, x_71, x_72, x_73) =>
   some (.ret (S_api_Segment.mk 0 q19 q24 (S_api_Digest.mk x_58 x_59 x_60 x_61 x_62 x_63 x_64 x_65 x_66 x_67 x_68 x_69 x_70 x_71 x_72 x_73) q29))))
theorem playlist_segment_ok (n : Nat) (s_0 : (List UInt8))  {r : Pn (S_api_Segment)} (h : playlist_segment n s_0 = some r) :
  MeetsP Tryz.prog 53 [.string (bs s_0)] [globA] (fun v G => ∃ q, r = .ret q ∧ (v = .agg #[.int .i64 q.Num, .int .i64 q.Begin, .int .i64 q.Len, .int .u8 q.Body.a0_, .int .u8 q.Body.a1_, .int .u8 q.Body.a2_, .int .u8 q.Body.a3_, .int .u8 q.Body.a4_, .int .u8 q.Body.a5_, .int .u8 q.Body.a6_, .int .u8 q.Body.a7_, .int .u8 q.Body.a8_, .int .u8 q.Body.a9_, .int .u8 q.Body.a10_, .int .u8 q.Body.a11_, .int .u8 q.Body.a12_, .int .u8 q.Body.a13_, .int .u8 q.Body.a14_, .int .u8 q.Body.a15_, .int .i64 q.Size] ∧ G = [])) (fun v => ∃ e, r = .pan e ∧ v = .iface 27 (.int .i64 e)) := by
 refine fnp_of_run Tryz.func53 rfl Tryz.ntmps53 rfl (fun w0 o0 => ?_)
 refine run_seq ?_
 refine run_region' ?_
 refine ot rfl rfl (t_alloc Tryz.zeroValue57) ?_
 rintro _ _ ⟨b1, rfl, rfl⟩
 refine ops_nil ?_
 refine goes_code ?_
 refine run_seq ?_
 refine run_region' ?_
 refine oy rfl rfl (y_move rfl) ?_
 obtain ⟨r2, hr3, h⟩ := obind_some h
 refine ot rfl rfl (t_callx (vs := [.string (bs s_0), .string (bs [32])]) (cs := []) [(0, 0)] rfl Tryz.call49 rfl (splitH_ok s_0 [32]  hr3) (showsX_view 0 rfl views_glob showsX_nil) rfl (.inl rfl)) ?_
 rintro v4 _ ⟨_, ⟨_, rfl, rfl⟩, rfl⟩
 refine oy rfl rfl (y_assign rfl) ?_
 refine ops_nil ?_
 refine goes_code ?_
 refine run_seq ?_
 refine run_region' ?_
 refine oy rfl rfl (y_move rfl) ?_
 refine oy rfl rfl ((y_len 2 rfl Tryz.runUnderlying81 rfl rfl reads_row).to (v_len eStr _)) ?_
 refine oy rfl rfl (y_eql rfl rfl) ?_
 refine oy rfl rfl (y_move rfl) ?_
 obtain ⟨o6, h, ho7⟩ := bindJ_some h
 refine ops_cut 6 (Bool) (fun σ => [(2, boxP b1 0), (3, v4), (19, .bool σ)]) (fun σ => [globA, box b1 [.int .i64 0, .int .i64 0, .int .i64 0, .int .u8 0, .int .u8 0, .int .u8 0, .int .u8 0, .int .u8 0, .int .u8 0, .int .u8 0, .int .u8 0, .int .u8 0, .int .u8 0, .int .u8 0, .int .u8 0, .int .u8 0, .int .u8 0, .int .u8 0, .int .u8 0, .int .i64 0], row v4 1 (r2.map eStr)]) (fun σ => o6 = .go σ) (fun L8 hL9 => ?_) ?_
 ·refine ops_split 13 (decide ((r2.length : Int) = 4)) rfl (fun hg10 => ?_) (fun hg10 => ?_)
  ·replace h := cond_t h hg10
   refine ops_y (wg 3 true 13 rfl rfl rfl rfl) rfl (y_move rfl) ?_
   obtain ⟨x11, hzx11, hlx11, hxx11, h⟩ := idx_some h
   refine ops_y (wg 3 true 13 rfl rfl rfl rfl) rfl (y_indexAddrI (kd := .i64) (i := 3) 2 Tryz.runUnderlying81 Tryz.sizeOf9 rfl rfl rfl reads_row hzx11 (map_lt hlx11)) ?_
   refine ops_y (wg 3 true 13 rfl rfl rfl rfl) rfl (y_load_elem (i := (3 : Int).toNat) 2 Tryz.isAgg9 rfl rfl reads_row (map_get hxx11)) ?_
   refine ops_y (wg 3 true 13 rfl rfl rfl rfl) rfl (y_len_str rfl Tryz.runUnderlying9 rfl) ?_
   refine ops_y (wg 3 true 13 rfl rfl rfl rfl) rfl (y_eql rfl rfl) ?_
   refine oy rfl rfl (y_pick (b := true) rfl rfl) ?_
   refine ops_nil ?_
   obtain rfl := some_eq h
   exact goes_cut hL9 (decide ((x11.length : Int) = 32)) [0, 1, 2] (qv3 rfl rfl rfl) (by decide) rfl rfl
  ·replace h := cond_f h hg10
   refine ops_no 3 true 13 rfl rfl rfl rfl rfl ?_
   refine ops_no 3 true 13 rfl rfl rfl rfl rfl ?_
   refine ops_no 3 true 13 rfl rfl rfl rfl rfl ?_
   refine ops_no 3 true 13 rfl rfl rfl rfl rfl ?_
   refine ops_no 3 true 13 rfl rfl rfl rfl rfl ?_
   refine oy rfl rfl (y_pick (b := false) rfl rfl) ?_
   refine ops_nil ?_
   obtain rfl := some_eq h
   exact goes_cut hL9 false [0, 1, 2] (qv3 rfl rfl rfl) (by decide) rfl rfl
 rintro b5 hj
 obtain rfl : o6 = _ := hj
 replace h := after_go ho7
 clear ho7
 obtain ⟨r12, hr13, h⟩ := obind_some h
 rcases r12 with q14 | e15
 rotate_left
 ·replace h := pbind_pan h
  refine ops_tp (wn rfl) rfl (t_callp (vs := [.bool b5]) (cs := []) [] rfl Tryz.call50 rfl (playlist_must_ok b5  hr13) showsX_nil rfl (.inl rfl)) (by rintro _ _ ⟨_, ⟨_, hq, _⟩, _⟩; cases hq) ?_
  rintro _ ⟨_, he, rfl⟩
  obtain rfl := Pn.pan.inj he
  obtain rfl := some_eq h
  exact finP ⟨_, rfl, rfl⟩
 replace h := pbind_ret h
 refine ot rfl rfl (t_callx (vs := [.bool b5]) (cs := []) [] rfl Tryz.call50 rfl (mp_ret (playlist_must_ok b5  hr13)) showsX_nil rfl (.inl rfl)) ?_
 rintro _ _ ⟨_, ⟨rfl, rfl⟩, rfl⟩
 refine ops_nil ?_
 refine goes_code ?_
 refine run_seq ?_
 obtain ⟨x16, hzx16, hlx16, hxx16, h⟩ := idx_some h
 obtain ⟨r17, hr18, h⟩ := obind_some h
 obtain ⟨x21, hzx21, hlx21, hxx21, h⟩ := idx_some h
 obtain ⟨r22, hr23, h⟩ := obind_some h
 obtain ⟨x26, hzx26, hlx26, hxx26, h⟩ := idx_some h
 obtain ⟨r27, hr28, h⟩ := obind_some h
 rcases r17 with q19 | e20
 rotate_left
 ·replace h := pbind_pan h
  refine run_drawany [globA, box b1 [.int .i64 0, .int .i64 0, .int .i64 0, .int .u8 0, .int .u8 0, .int .u8 0, .int .u8 0, .int .u8 0, .int .u8 0, .int .u8 0, .int .u8 0, .int .u8 0, .int .u8 0, .int .u8 0, .int .u8 0, .int .u8 0, .int .u8 0, .int .u8 0, .int .u8 0, .int .i64 0], row v4 1 (r2.map eStr)] (by kernel_rfl) ?_
  refine any_y 0 rfl (by kernel_rfl) (by kernel_rfl) (by kernel_rfl) (ss (ss (ss (sn)))) (wn rfl) rfl (y_move rfl) ?_
  refine any_y 1 rfl (by kernel_rfl) (by kernel_rfl) (by kernel_rfl) (ss (ss (ss (sn)))) (wn rfl) rfl (y_indexAddrI (kd := .i64) (i := 0) 2 Tryz.runUnderlying81 Tryz.sizeOf9 rfl rfl rfl reads_row hzx16 (map_lt hlx16)) ?_
  refine any_y 2 rfl (by kernel_rfl) (by kernel_rfl) (by kernel_rfl) (ss (ss (ss (sn)))) (wn rfl) rfl (y_load_elem (i := (0 : Int).toNat) 2 Tryz.isAgg9 rfl rfl reads_row (map_get hxx16)) ?_
  refine any_y 4 rfl (by kernel_rfl) (by kernel_rfl) (by kernel_rfl) (ss (ss (ss (sn)))) (wn rfl) rfl (y_move rfl) ?_
  refine any_y 5 rfl (by kernel_rfl) (by kernel_rfl) (by kernel_rfl) (ss (ss (ss (sn)))) (wn rfl) rfl (y_indexAddrI (kd := .i64) (i := 1) 2 Tryz.runUnderlying81 Tryz.sizeOf9 rfl rfl rfl reads_row hzx21 (map_lt hlx21)) ?_
  refine any_y 6 rfl (by kernel_rfl) (by kernel_rfl) (by kernel_rfl) (ss (ss (ss (sn)))) (wn rfl) rfl (y_load_elem (i := (1 : Int).toNat) 2 Tryz.isAgg9 rfl rfl reads_row (map_get hxx21)) ?_
  refine any_y 8 rfl (by kernel_rfl) (by kernel_rfl) (by kernel_rfl) (ss (ss (ss (sn)))) (wn rfl) rfl (y_move rfl) ?_
  refine any_y 9 rfl (by kernel_rfl) (by kernel_rfl) (by kernel_rfl) (ss (ss (ss (sn)))) (wn rfl) rfl (y_indexAddrI (kd := .i64) (i := 2) 2 Tryz.runUnderlying81 Tryz.sizeOf9 rfl rfl rfl reads_row hzx26 (map_lt hlx26)) ?_
  refine any_y 10 rfl (by kernel_rfl) (by kernel_rfl) (by kernel_rfl) (ss (ss (ss (sn)))) (wn rfl) rfl (y_load_elem (i := (2 : Int).toNat) 2 Tryz.isAgg9 rfl rfl reads_row (map_get hxx26)) ?_
  refine any_cut2 #[true, true, true, false, true, true, true, false, true, true, true, false, false, true, false] 5 (Nat) (fun σ => [(2, boxP b1 0), (3, v4), (23, .string (bs x16)), (27, .string (bs x21)), (31, .string (bs x26)), (4, boxP σ 0)]) (fun σ => [globA, box b1 [.int .i64 0, .int .i64 0, .int .i64 0, .int .u8 0, .int .u8 0, .int .u8 0, .int .u8 0, .int .u8 0, .int .u8 0, .int .u8 0, .int .u8 0, .int .u8 0, .int .u8 0, .int .u8 0, .int .u8 0, .int .u8 0, .int .u8 0, .int .u8 0, .int .u8 0, .int .i64 0], row v4 1 (r2.map eStr), box σ [.int .i64 0, .int .i64 0, .int .i64 0, .int .u8 0, .int .u8 0, .int .u8 0, .int .u8 0, .int .u8 0, .int .u8 0, .int .u8 0, .int .u8 0, .int .u8 0, .int .u8 0, .int .u8 0, .int .u8 0, .int .u8 0, .int .u8 0, .int .u8 0, .int .u8 0, .int .i64 0]]) ?_ (fun hK33 => ?_)
  ·rintro b32
   change AnyL _ _ _ _ _ (VF.of [(2, boxP b1 0), (3, v4), (23, .string (bs x16)), (27, .string (bs x21)), (31, .string (bs x26)), (4, boxP b32 0)]) [globA, box b1 [.int .i64 0, .int .i64 0, .int .i64 0, .int .u8 0, .int .u8 0, .int .u8 0, .int .u8 0, .int .u8 0, .int .u8 0, .int .u8 0, .int .u8 0, .int .u8 0, .int .u8 0, .int .u8 0, .int .u8 0, .int .u8 0, .int .u8 0, .int .u8 0, .int .u8 0, .int .i64 0], row v4 1 (r2.map eStr), box b32 [.int .i64 0, .int .i64 0, .int .i64 0, .int .u8 0, .int .u8 0, .int .u8 0, .int .u8 0, .int .u8 0, .int .u8 0, .int .u8 0, .int .u8 0, .int .u8 0, .int .u8 0, .int .u8 0, .int .u8 0, .int .u8 0, .int .u8 0, .int .u8 0, .int .u8 0, .int .i64 0]] _
   refine any_all [3] (by kernel_rfl) rfl ?_
   refine anyo_cons ?_ ?_
   ·
    refine any_tp rfl (wn rfl) rfl (t_callp (vs := [.string (bs x16)]) (cs := []) [(0, 0)] rfl Tryz.call52 rfl (playlist_number_ok x16  hr18) (showsX_view 0 rfl views_glob showsX_nil) rfl (.inl rfl)) (by rintro _ _ ⟨_, ⟨_, hq, _⟩, _⟩; cases hq) ?_
    rintro _ ⟨_, he, rfl⟩
    obtain rfl := Pn.pan.inj he
    obtain rfl := some_eq h
    exact finP ⟨_, rfl, rfl⟩
   exact anyo_nil
  refine any_all [3, 13] (by kernel_rfl) rfl ?_
  refine anyo_cons ?_ ?_
  ·
   refine any_tp rfl (wn rfl) rfl (t_callp (vs := [.string (bs x16)]) (cs := []) [(0, 0)] rfl Tryz.call52 rfl (playlist_number_ok x16  hr18) (showsX_view 0 rfl views_glob showsX_nil) rfl (.inl rfl)) (by rintro _ _ ⟨_, ⟨_, hq, _⟩, _⟩; cases hq) ?_
   rintro _ ⟨_, he, rfl⟩
   obtain rfl := Pn.pan.inj he
   obtain rfl := some_eq h
   exact finP ⟨_, rfl, rfl⟩
  refine anyo_cons ?_ ?_
  ·
   refine any_t rfl (wn rfl) rfl (t_alloc Tryz.zeroValue57) ?_
   rintro _ _ ⟨b34, rfl, rfl⟩
   refine ⟨(ss (ss (ss (sn)))), ?_⟩
   exact any_weak2 (hK33 b34) [0, 1, 2, 3] (by kernel_rfl) (qv6 rfl rfl rfl rfl rfl rfl) (by decide) rfl
  exact anyo_nil
 replace h := pbind_ret h
 rcases r22 with q24 | e25
 rotate_left
 ·replace h := pbind_pan h
  refine run_drawany [globA, box b1 [.int .i64 0, .int .i64 0, .int .i64 0, .int .u8 0, .int .u8 0, .int .u8 0, .int .u8 0, .int .u8 0, .int .u8 0, .int .u8 0, .int .u8 0, .int .u8 0, .int .u8 0, .int .u8 0, .int .u8 0, .int .u8 0, .int .u8 0, .int .u8 0, .int .u8 0, .int .i64 0], row v4 1 (r2.map eStr)] (by kernel_rfl) ?_
  refine any_y 0 rfl (by kernel_rfl) (by kernel_rfl) (by kernel_rfl) (ss (ss (ss (sn)))) (wn rfl) rfl (y_move rfl) ?_
  refine any_y 1 rfl (by kernel_rfl) (by kernel_rfl) (by kernel_rfl) (ss (ss (ss (sn)))) (wn rfl) rfl (y_indexAddrI (kd := .i64) (i := 0) 2 Tryz.runUnderlying81 Tryz.sizeOf9 rfl rfl rfl reads_row hzx16 (map_lt hlx16)) ?_
  refine any_y 2 rfl (by kernel_rfl) (by kernel_rfl) (by kernel_rfl) (ss (ss (ss (sn)))) (wn rfl) rfl (y_load_elem (i := (0 : Int).toNat) 2 Tryz.isAgg9 rfl rfl reads_row (map_get hxx16)) ?_
  refine any_y 4 rfl (by kernel_rfl) (by kernel_rfl) (by kernel_rfl) (ss (ss (ss (sn)))) (wn rfl) rfl (y_move rfl) ?_
  refine any_y 5 rfl (by kernel_rfl) (by kernel_rfl) (by kernel_rfl) (ss (ss (ss (sn)))) (wn rfl) rfl (y_indexAddrI (kd := .i64) (i := 1) 2 Tryz.runUnderlying81 Tryz.sizeOf9 rfl rfl rfl reads_row hzx21 (map_lt hlx21)) ?_
  refine any_y 6 rfl (by kernel_rfl) (by kernel_rfl) (by kernel_rfl) (ss (ss (ss (sn)))) (wn rfl) rfl (y_load_elem (i := (1 : Int).toNat) 2 Tryz.isAgg9 rfl rfl reads_row (map_get hxx21)) ?_
  refine any_y 8 rfl (by kernel_rfl) (by kernel_rfl) (by kernel_rfl) (ss (ss (ss (sn)))) (wn rfl) rfl (y_move rfl) ?_
  refine any_y 9 rfl (by kernel_rfl) (by kernel_rfl) (by kernel_rfl) (ss (ss (ss (sn)))) (wn rfl) rfl (y_indexAddrI (kd := .i64) (i := 2) 2 Tryz.runUnderlying81 Tryz.sizeOf9 rfl rfl rfl reads_row hzx26 (map_lt hlx26)) ?_
  refine any_y 10 rfl (by kernel_rfl) (by kernel_rfl) (by kernel_rfl) (ss (ss (ss (sn)))) (wn rfl) rfl (y_load_elem (i := (2 : Int).toNat) 2 Tryz.isAgg9 rfl rfl reads_row (map_get hxx26)) ?_
  refine any_cut2 #[true, true, true, true, true, true, true, false, true, true, true, false, false, true, false] 4 (Nat) (fun σ => [(2, boxP b1 0), (3, v4), (27, .string (bs x21)), (31, .string (bs x26)), (24, .int .i64 q19), (4, boxP σ 0)]) (fun σ => [globA, box b1 [.int .i64 0, .int .i64 0, .int .i64 0, .int .u8 0, .int .u8 0, .int .u8 0, .int .u8 0, .int .u8 0, .int .u8 0, .int .u8 0, .int .u8 0, .int .u8 0, .int .u8 0, .int .u8 0, .int .u8 0, .int .u8 0, .int .u8 0, .int .u8 0, .int .u8 0, .int .i64 0], row v4 1 (r2.map eStr), box σ [.int .i64 0, .int .i64 0, .int .i64 0, .int .u8 0, .int .u8 0, .int .u8 0, .int .u8 0, .int .u8 0, .int .u8 0, .int .u8 0, .int .u8 0, .int .u8 0, .int .u8 0, .int .u8 0, .int .u8 0, .int .u8 0, .int .u8 0, .int .u8 0, .int .u8 0, .int .i64 0]]) ?_ (fun hK37 => ?_)
  ·rintro b36
   change AnyL _ _ _ _ _ (VF.of [(2, boxP b1 0), (3, v4), (27, .string (bs x21)), (31, .string (bs x26)), (24, .int .i64 q19), (4, boxP b36 0)]) [globA, box b1 [.int .i64 0, .int .i64 0, .int .i64 0, .int .u8 0, .int .u8 0, .int .u8 0, .int .u8 0, .int .u8 0, .int .u8 0, .int .u8 0, .int .u8 0, .int .u8 0, .int .u8 0, .int .u8 0, .int .u8 0, .int .u8 0, .int .u8 0, .int .u8 0, .int .u8 0, .int .i64 0], row v4 1 (r2.map eStr), box b36 [.int .i64 0, .int .i64 0, .int .i64 0, .int .u8 0, .int .u8 0, .int .u8 0, .int .u8 0, .int .u8 0, .int .u8 0, .int .u8 0, .int .u8 0, .int .u8 0, .int .u8 0, .int .u8 0, .int .u8 0, .int .u8 0, .int .u8 0, .int .u8 0, .int .u8 0, .int .i64 0]] _
   refine any_all [7] (by kernel_rfl) rfl ?_
   refine anyo_cons ?_ ?_
   ·
    refine any_tp rfl (wn rfl) rfl (t_callp (vs := [.string (bs x21)]) (cs := []) [(0, 0)] rfl Tryz.call52 rfl (playlist_number_ok x21  hr23) (showsX_view 0 rfl views_glob showsX_nil) rfl (.inl rfl)) (by rintro _ _ ⟨_, ⟨_, hq, _⟩, _⟩; cases hq) ?_
    rintro _ ⟨_, he, rfl⟩
    obtain rfl := Pn.pan.inj he
    obtain rfl := some_eq h
    exact finP ⟨_, rfl, rfl⟩
   exact anyo_nil
  refine any_cut2 #[true, true, true, true, true, true, true, false, true, true, true, false, false, false, false] 5 (Unit) (fun σ => [(2, boxP b1 0), (3, v4), (27, .string (bs x21)), (31, .string (bs x26)), (24, .int .i64 q19)]) (fun σ => [globA, box b1 [.int .i64 0, .int .i64 0, .int .i64 0, .int .u8 0, .int .u8 0, .int .u8 0, .int .u8 0, .int .u8 0, .int .u8 0, .int .u8 0, .int .u8 0, .int .u8 0, .int .u8 0, .int .u8 0, .int .u8 0, .int .u8 0, .int .u8 0, .int .u8 0, .int .u8 0, .int .i64 0], row v4 1 (r2.map eStr)]) ?_ (fun hK38 => ?_)
  ·rintro _
   change AnyL _ _ _ _ _ (VF.of [(2, boxP b1 0), (3, v4), (27, .string (bs x21)), (31, .string (bs x26)), (24, .int .i64 q19)]) [globA, box b1 [.int .i64 0, .int .i64 0, .int .i64 0, .int .u8 0, .int .u8 0, .int .u8 0, .int .u8 0, .int .u8 0, .int .u8 0, .int .u8 0, .int .u8 0, .int .u8 0, .int .u8 0, .int .u8 0, .int .u8 0, .int .u8 0, .int .u8 0, .int .u8 0, .int .u8 0, .int .i64 0], row v4 1 (r2.map eStr)] _
   refine any_all [7, 13] (by kernel_rfl) rfl ?_
   refine anyo_cons ?_ ?_
   ·
    refine any_tp rfl (wn rfl) rfl (t_callp (vs := [.string (bs x21)]) (cs := []) [(0, 0)] rfl Tryz.call52 rfl (playlist_number_ok x21  hr23) (showsX_view 0 rfl views_glob showsX_nil) rfl (.inl rfl)) (by rintro _ _ ⟨_, ⟨_, hq, _⟩, _⟩; cases hq) ?_
    rintro _ ⟨_, he, rfl⟩
    obtain rfl := Pn.pan.inj he
    obtain rfl := some_eq h
    exact finP ⟨_, rfl, rfl⟩
   refine anyo_cons ?_ ?_
   ·
    refine any_t rfl (wn rfl) rfl (t_alloc Tryz.zeroValue57) ?_
    rintro _ _ ⟨b39, rfl, rfl⟩
    refine ⟨(ss (ss (ss (sn)))), ?_⟩
    exact any_weak2 (hK37 b39) [0, 1, 2, 3] (by kernel_rfl) (qv6 rfl rfl rfl rfl rfl rfl) (by decide) rfl
   exact anyo_nil
  refine any_cut2 #[true, true, true, false, true, true, true, false, true, true, true, false, false, true, false] 5 (Nat) (fun σ => [(2, boxP b1 0), (3, v4), (23, .string (bs x16)), (27, .string (bs x21)), (31, .string (bs x26)), (4, boxP σ 0)]) (fun σ => [globA, box b1 [.int .i64 0, .int .i64 0, .int .i64 0, .int .u8 0, .int .u8 0, .int .u8 0, .int .u8 0, .int .u8 0, .int .u8 0, .int .u8 0, .int .u8 0, .int .u8 0, .int .u8 0, .int .u8 0, .int .u8 0, .int .u8 0, .int .u8 0, .int .u8 0, .int .u8 0, .int .i64 0], row v4 1 (r2.map eStr), box σ [.int .i64 0, .int .i64 0, .int .i64 0, .int .u8 0, .int .u8 0, .int .u8 0, .int .u8 0, .int .u8 0, .int .u8 0, .int .u8 0, .int .u8 0, .int .u8 0, .int .u8 0, .int .u8 0, .int .u8 0, .int .u8 0, .int .u8 0, .int .u8 0, .int .u8 0, .int .i64 0]]) ?_ (fun hK40 => ?_)
  ·rintro b35
   change AnyL _ _ _ _ _ (VF.of [(2, boxP b1 0), (3, v4), (23, .string (bs x16)), (27, .string (bs x21)), (31, .string (bs x26)), (4, boxP b35 0)]) [globA, box b1 [.int .i64 0, .int .i64 0, .int .i64 0, .int .u8 0, .int .u8 0, .int .u8 0, .int .u8 0, .int .u8 0, .int .u8 0, .int .u8 0, .int .u8 0, .int .u8 0, .int .u8 0, .int .u8 0, .int .u8 0, .int .u8 0, .int .u8 0, .int .u8 0, .int .u8 0, .int .i64 0], row v4 1 (r2.map eStr), box b35 [.int .i64 0, .int .i64 0, .int .i64 0, .int .u8 0, .int .u8 0, .int .u8 0, .int .u8 0, .int .u8 0, .int .u8 0, .int .u8 0, .int .u8 0, .int .u8 0, .int .u8 0, .int .u8 0, .int .u8 0, .int .u8 0, .int .u8 0, .int .u8 0, .int .u8 0, .int .i64 0]] _
   refine any_all [3] (by kernel_rfl) rfl ?_
   refine anyo_cons ?_ ?_
   ·
    refine any_t rfl (wn rfl) rfl (t_callx (vs := [.string (bs x16)]) (cs := []) [(0, 0)] rfl Tryz.call52 rfl (mp_ret (playlist_number_ok x16  hr18)) (showsX_view 0 rfl views_glob showsX_nil) rfl (.inl rfl)) ?_
    rintro _ _ ⟨_, ⟨rfl, rfl⟩, rfl⟩
    refine ⟨(ss (ss (ss (sn)))), ?_⟩
    exact any_weak2 (hK37 b35) [0, 1, 2, 3] (by kernel_rfl) (qv6 rfl rfl rfl rfl rfl rfl) (by decide) rfl
   exact anyo_nil
  refine any_all [3, 13] (by kernel_rfl) rfl ?_
  refine anyo_cons ?_ ?_
  ·
   refine any_t rfl (wn rfl) rfl (t_callx (vs := [.string (bs x16)]) (cs := []) [(0, 0)] rfl Tryz.call52 rfl (mp_ret (playlist_number_ok x16  hr18)) (showsX_view 0 rfl views_glob showsX_nil) rfl (.inl rfl)) ?_
   rintro _ _ ⟨_, ⟨rfl, rfl⟩, rfl⟩
   refine ⟨(ss (ss (ss (sn)))), ?_⟩
   exact any_weak2 (hK38 ()) [0, 1, 2] (by kernel_rfl) (qv5 rfl rfl rfl rfl rfl) (by decide) rfl
  refine anyo_cons ?_ ?_
  ·
   refine any_t rfl (wn rfl) rfl (t_alloc Tryz.zeroValue57) ?_
   rintro _ _ ⟨b41, rfl, rfl⟩
   refine ⟨(ss (ss (ss (sn)))), ?_⟩
   exact any_weak2 (hK40 b41) [0, 1, 2, 3] (by kernel_rfl) (qv6 rfl rfl rfl rfl rfl rfl) (by decide) rfl
  exact anyo_nil
 replace h := pbind_ret h
 rcases r27 with q29 | e30
 rotate_left
 ·replace h := pbind_pan h
  refine run_drawany [globA, box b1 [.int .i64 0, .int .i64 0, .int .i64 0, .int .u8 0, .int .u8 0, .int .u8 0, .int .u8 0, .int .u8 0, .int .u8 0, .int .u8 0, .int .u8 0, .int .u8 0, .int .u8 0, .int .u8 0, .int .u8 0, .int .u8 0, .int .u8 0, .int .u8 0, .int .u8 0, .int .i64 0], row v4 1 (r2.map eStr)] (by kernel_rfl) ?_
  refine any_y 0 rfl (by kernel_rfl) (by kernel_rfl) (by kernel_rfl) (ss (ss (ss (sn)))) (wn rfl) rfl (y_move rfl) ?_
  refine any_y 1 rfl (by kernel_rfl) (by kernel_rfl) (by kernel_rfl) (ss (ss (ss (sn)))) (wn rfl) rfl (y_indexAddrI (kd := .i64) (i := 0) 2 Tryz.runUnderlying81 Tryz.sizeOf9 rfl rfl rfl reads_row hzx16 (map_lt hlx16)) ?_
  refine any_y 2 rfl (by kernel_rfl) (by kernel_rfl) (by kernel_rfl) (ss (ss (ss (sn)))) (wn rfl) rfl (y_load_elem (i := (0 : Int).toNat) 2 Tryz.isAgg9 rfl rfl reads_row (map_get hxx16)) ?_
  refine any_y 4 rfl (by kernel_rfl) (by kernel_rfl) (by kernel_rfl) (ss (ss (ss (sn)))) (wn rfl) rfl (y_move rfl) ?_
  refine any_y 5 rfl (by kernel_rfl) (by kernel_rfl) (by kernel_rfl) (ss (ss (ss (sn)))) (wn rfl) rfl (y_indexAddrI (kd := .i64) (i := 1) 2 Tryz.runUnderlying81 Tryz.sizeOf9 rfl rfl rfl reads_row hzx21 (map_lt hlx21)) ?_
  refine any_y 6 rfl (by kernel_rfl) (by kernel_rfl) (by kernel_rfl) (ss (ss (ss (sn)))) (wn rfl) rfl (y_load_elem (i := (1 : Int).toNat) 2 Tryz.isAgg9 rfl rfl reads_row (map_get hxx21)) ?_
  refine any_y 8 rfl (by kernel_rfl) (by kernel_rfl) (by kernel_rfl) (ss (ss (ss (sn)))) (wn rfl) rfl (y_move rfl) ?_
  refine any_y 9 rfl (by kernel_rfl) (by kernel_rfl) (by kernel_rfl) (ss (ss (ss (sn)))) (wn rfl) rfl (y_indexAddrI (kd := .i64) (i := 2) 2 Tryz.runUnderlying81 Tryz.sizeOf9 rfl rfl rfl reads_row hzx26 (map_lt hlx26)) ?_
  refine any_y 10 rfl (by kernel_rfl) (by kernel_rfl) (by kernel_rfl) (ss (ss (ss (sn)))) (wn rfl) rfl (y_load_elem (i := (2 : Int).toNat) 2 Tryz.isAgg9 rfl rfl reads_row (map_get hxx26)) ?_
  refine any_cut2 #[true, true, true, true, true, true, true, true, true, true, true, false, false, true, false] 3 (Nat) (fun σ => [(2, boxP b1 0), (3, v4), (31, .string (bs x26)), (24, .int .i64 q19), (28, .int .i64 q24), (4, boxP σ 0)]) (fun σ => [globA, box b1 [.int .i64 0, .int .i64 0, .int .i64 0, .int .u8 0, .int .u8 0, .int .u8 0, .int .u8 0, .int .u8 0, .int .u8 0, .int .u8 0, .int .u8 0, .int .u8 0, .int .u8 0, .int .u8 0, .int .u8 0, .int .u8 0, .int .u8 0, .int .u8 0, .int .u8 0, .int .i64 0], row v4 1 (r2.map eStr), box σ [.int .i64 0, .int .i64 0, .int .i64 0, .int .u8 0, .int .u8 0, .int .u8 0, .int .u8 0, .int .u8 0, .int .u8 0, .int .u8 0, .int .u8 0, .int .u8 0, .int .u8 0, .int .u8 0, .int .u8 0, .int .u8 0, .int .u8 0, .int .u8 0, .int .u8 0, .int .i64 0]]) ?_ (fun hK45 => ?_)
  ·rintro b44
   change AnyL _ _ _ _ _ (VF.of [(2, boxP b1 0), (3, v4), (31, .string (bs x26)), (24, .int .i64 q19), (28, .int .i64 q24), (4, boxP b44 0)]) [globA, box b1 [.int .i64 0, .int .i64 0, .int .i64 0, .int .u8 0, .int .u8 0, .int .u8 0, .int .u8 0, .int .u8 0, .int .u8 0, .int .u8 0, .int .u8 0, .int .u8 0, .int .u8 0, .int .u8 0, .int .u8 0, .int .u8 0, .int .u8 0, .int .u8 0, .int .u8 0, .int .i64 0], row v4 1 (r2.map eStr), box b44 [.int .i64 0, .int .i64 0, .int .i64 0, .int .u8 0, .int .u8 0, .int .u8 0, .int .u8 0, .int .u8 0, .int .u8 0, .int .u8 0, .int .u8 0, .int .u8 0, .int .u8 0, .int .u8 0, .int .u8 0, .int .u8 0, .int .u8 0, .int .u8 0, .int .u8 0, .int .i64 0]] _
   refine any_all [11] (by kernel_rfl) rfl ?_
   refine anyo_cons ?_ ?_
   ·
    refine any_tp rfl (wn rfl) rfl (t_callp (vs := [.string (bs x26)]) (cs := []) [(0, 0)] rfl Tryz.call52 rfl (playlist_number_ok x26  hr28) (showsX_view 0 rfl views_glob showsX_nil) rfl (.inl rfl)) (by rintro _ _ ⟨_, ⟨_, hq, _⟩, _⟩; cases hq) ?_
    rintro _ ⟨_, he, rfl⟩
    obtain rfl := Pn.pan.inj he
    obtain rfl := some_eq h
    exact finP ⟨_, rfl, rfl⟩
   exact anyo_nil
  refine any_cut2 #[true, true, true, true, true, true, true, true, true, true, true, false, false, false, false] 4 (Unit) (fun σ => [(2, boxP b1 0), (3, v4), (31, .string (bs x26)), (24, .int .i64 q19), (28, .int .i64 q24)]) (fun σ => [globA, box b1 [.int .i64 0, .int .i64 0, .int .i64 0, .int .u8 0, .int .u8 0, .int .u8 0, .int .u8 0, .int .u8 0, .int .u8 0, .int .u8 0, .int .u8 0, .int .u8 0, .int .u8 0, .int .u8 0, .int .u8 0, .int .u8 0, .int .u8 0, .int .u8 0, .int .u8 0, .int .i64 0], row v4 1 (r2.map eStr)]) ?_ (fun hK46 => ?_)
  ·rintro _
   change AnyL _ _ _ _ _ (VF.of [(2, boxP b1 0), (3, v4), (31, .string (bs x26)), (24, .int .i64 q19), (28, .int .i64 q24)]) [globA, box b1 [.int .i64 0, .int .i64 0, .int .i64 0, .int .u8 0, .int .u8 0, .int .u8 0, .int .u8 0, .int .u8 0, .int .u8 0, .int .u8 0, .int .u8 0, .int .u8 0, .int .u8 0, .int .u8 0, .int .u8 0, .int .u8 0, .int .u8 0, .int .u8 0, .int .u8 0, .int .i64 0], row v4 1 (r2.map eStr)] _
   refine any_all [11, 13] (by kernel_rfl) rfl ?_
   refine anyo_cons ?_ ?_
   ·
    refine any_tp rfl (wn rfl) rfl (t_callp (vs := [.string (bs x26)]) (cs := []) [(0, 0)] rfl Tryz.call52 rfl (playlist_number_ok x26  hr28) (showsX_view 0 rfl views_glob showsX_nil) rfl (.inl rfl)) (by rintro _ _ ⟨_, ⟨_, hq, _⟩, _⟩; cases hq) ?_
    rintro _ ⟨_, he, rfl⟩
    obtain rfl := Pn.pan.inj he
    obtain rfl := some_eq h
    exact finP ⟨_, rfl, rfl⟩
   refine anyo_cons ?_ ?_
   ·
    refine any_t rfl (wn rfl) rfl (t_alloc Tryz.zeroValue57) ?_
    rintro _ _ ⟨b47, rfl, rfl⟩
    refine ⟨(ss (ss (ss (sn)))), ?_⟩
    exact any_weak2 (hK45 b47) [0, 1, 2, 3] (by kernel_rfl) (qv6 rfl rfl rfl rfl rfl rfl) (by decide) rfl
   exact anyo_nil
  refine any_cut2 #[true, true, true, true, true, true, true, false, true, true, true, false, false, true, false] 4 (Nat) (fun σ => [(2, boxP b1 0), (3, v4), (27, .string (bs x21)), (31, .string (bs x26)), (24, .int .i64 q19), (4, boxP σ 0)]) (fun σ => [globA, box b1 [.int .i64 0, .int .i64 0, .int .i64 0, .int .u8 0, .int .u8 0, .int .u8 0, .int .u8 0, .int .u8 0, .int .u8 0, .int .u8 0, .int .u8 0, .int .u8 0, .int .u8 0, .int .u8 0, .int .u8 0, .int .u8 0, .int .u8 0, .int .u8 0, .int .u8 0, .int .i64 0], row v4 1 (r2.map eStr), box σ [.int .i64 0, .int .i64 0, .int .i64 0, .int .u8 0, .int .u8 0, .int .u8 0, .int .u8 0, .int .u8 0, .int .u8 0, .int .u8 0, .int .u8 0, .int .u8 0, .int .u8 0, .int .u8 0, .int .u8 0, .int .u8 0, .int .u8 0, .int .u8 0, .int .u8 0, .int .i64 0]]) ?_ (fun hK48 => ?_)
  ·rintro b43
   change AnyL _ _ _ _ _ (VF.of [(2, boxP b1 0), (3, v4), (27, .string (bs x21)), (31, .string (bs x26)), (24, .int .i64 q19), (4, boxP b43 0)]) [globA, box b1 [.int .i64 0, .int .i64 0, .int .i64 0, .int .u8 0, .int .u8 0, .int .u8 0, .int .u8 0, .int .u8 0, .int .u8 0, .int .u8 0, .int .u8 0, .int .u8 0, .int .u8 0, .int .u8 0, .int .u8 0, .int .u8 0, .int .u8 0, .int .u8 0, .int .u8 0, .int .i64 0], row v4 1 (r2.map eStr), box b43 [.int .i64 0, .int .i64 0, .int .i64 0, .int .u8 0, .int .u8 0, .int .u8 0, .int .u8 0, .int .u8 0, .int .u8 0, .int .u8 0, .int .u8 0, .int .u8 0, .int .u8 0, .int .u8 0, .int .u8 0, .int .u8 0, .int .u8 0, .int .u8 0, .int .u8 0, .int .i64 0]] _
   refine any_all [7] (by kernel_rfl) rfl ?_
   refine anyo_cons ?_ ?_
   ·
    refine any_t rfl (wn rfl) rfl (t_callx (vs := [.string (bs x21)]) (cs := []) [(0, 0)] rfl Tryz.call52 rfl (mp_ret (playlist_number_ok x21  hr23)) (showsX_view 0 rfl views_glob showsX_nil) rfl (.inl rfl)) ?_
    rintro _ _ ⟨_, ⟨rfl, rfl⟩, rfl⟩
    refine ⟨(ss (ss (ss (sn)))), ?_⟩
    exact any_weak2 (hK45 b43) [0, 1, 2, 3] (by kernel_rfl) (qv6 rfl rfl rfl rfl rfl rfl) (by decide) rfl
   exact anyo_nil
  refine any_cut2 #[true, true, true, true, true, true, true, false, true, true, true, false, false, false, false] 5 (Unit) (fun σ => [(2, boxP b1 0), (3, v4), (27, .string (bs x21)), (31, .string (bs x26)), (24, .int .i64 q19)]) (fun σ => [globA, box b1 [.int .i64 0, .int .i64 0, .int .i64 0, .int .u8 0, .int .u8 0, .int .u8 0, .int .u8 0, .int .u8 0, .int .u8 0, .int .u8 0, .int .u8 0, .int .u8 0, .int .u8 0, .int .u8 0, .int .u8 0, .int .u8 0, .int .u8 0, .int .u8 0, .int .u8 0, .int .i64 0], row v4 1 (r2.map eStr)]) ?_ (fun hK49 => ?_)
  ·rintro _
   change AnyL _ _ _ _ _ (VF.of [(2, boxP b1 0), (3, v4), (27, .string (bs x21)), (31, .string (bs x26)), (24, .int .i64 q19)]) [globA, box b1 [.int .i64 0, .int .i64 0, .int .i64 0, .int .u8 0, .int .u8 0, .int .u8 0, .int .u8 0, .int .u8 0, .int .u8 0, .int .u8 0, .int .u8 0, .int .u8 0, .int .u8 0, .int .u8 0, .int .u8 0, .int .u8 0, .int .u8 0, .int .u8 0, .int .u8 0, .int .i64 0], row v4 1 (r2.map eStr)] _
   refine any_all [7, 13] (by kernel_rfl) rfl ?_
   refine anyo_cons ?_ ?_
   ·
    refine any_t rfl (wn rfl) rfl (t_callx (vs := [.string (bs x21)]) (cs := []) [(0, 0)] rfl Tryz.call52 rfl (mp_ret (playlist_number_ok x21  hr23)) (showsX_view 0 rfl views_glob showsX_nil) rfl (.inl rfl)) ?_
    rintro _ _ ⟨_, ⟨rfl, rfl⟩, rfl⟩
    refine ⟨(ss (ss (ss (sn)))), ?_⟩
    exact any_weak2 (hK46 ()) [0, 1, 2] (by kernel_rfl) (qv5 rfl rfl rfl rfl rfl) (by decide) rfl
   refine anyo_cons ?_ ?_
   ·
    refine any_t rfl (wn rfl) rfl (t_alloc Tryz.zeroValue57) ?_
    rintro _ _ ⟨b50, rfl, rfl⟩
    refine ⟨(ss (ss (ss (sn)))), ?_⟩
    exact any_weak2 (hK48 b50) [0, 1, 2, 3] (by kernel_rfl) (qv6 rfl rfl rfl rfl rfl rfl) (by decide) rfl
   exact anyo_nil
  refine any_cut2 #[true, true, true, false, true, true, true, false, true, true, true, false, false, true, false] 5 (Nat) (fun σ => [(2, boxP b1 0), (3, v4), (23, .string (bs x16)), (27, .string (bs x21)), (31, .string (bs x26)), (4, boxP σ 0)]) (fun σ => [globA, box b1 [.int .i64 0, .int .i64 0, .int .i64 0, .int .u8 0, .int .u8 0, .int .u8 0, .int .u8 0, .int .u8 0, .int .u8 0, .int .u8 0, .int .u8 0, .int .u8 0, .int .u8 0, .int .u8 0, .int .u8 0, .int .u8 0, .int .u8 0, .int .u8 0, .int .u8 0, .int .i64 0], row v4 1 (r2.map eStr), box σ [.int .i64 0, .int .i64 0, .int .i64 0, .int .u8 0, .int .u8 0, .int .u8 0, .int .u8 0, .int .u8 0, .int .u8 0, .int .u8 0, .int .u8 0, .int .u8 0, .int .u8 0, .int .u8 0, .int .u8 0, .int .u8 0, .int .u8 0, .int .u8 0, .int .u8 0, .int .i64 0]]) ?_ (fun hK51 => ?_)
  ·rintro b42
   change AnyL _ _ _ _ _ (VF.of [(2, boxP b1 0), (3, v4), (23, .string (bs x16)), (27, .string (bs x21)), (31, .string (bs x26)), (4, boxP b42 0)]) [globA, box b1 [.int .i64 0, .int .i64 0, .int .i64 0, .int .u8 0, .int .u8 0, .int .u8 0, .int .u8 0, .int .u8 0, .int .u8 0, .int .u8 0, .int .u8 0, .int .u8 0, .int .u8 0, .int .u8 0, .int .u8 0, .int .u8 0, .int .u8 0, .int .u8 0, .int .u8 0, .int .i64 0], row v4 1 (r2.map eStr), box b42 [.int .i64 0, .int .i64 0, .int .i64 0, .int .u8 0, .int .u8 0, .int .u8 0, .int .u8 0, .int .u8 0, .int .u8 0, .int .u8 0, .int .u8 0, .int .u8 0, .int .u8 0, .int .u8 0, .int .u8 0, .int .u8 0, .int .u8 0, .int .u8 0, .int .u8 0, .int .i64 0]] _
   refine any_all [3] (by kernel_rfl) rfl ?_
   refine anyo_cons ?_ ?_
   ·
    refine any_t rfl (wn rfl) rfl (t_callx (vs := [.string (bs x16)]) (cs := []) [(0, 0)] rfl Tryz.call52 rfl (mp_ret (playlist_number_ok x16  hr18)) (showsX_view 0 rfl views_glob showsX_nil) rfl (.inl rfl)) ?_
    rintro _ _ ⟨_, ⟨rfl, rfl⟩, rfl⟩
    refine ⟨(ss (ss (ss (sn)))), ?_⟩
    exact any_weak2 (hK48 b42) [0, 1, 2, 3] (by kernel_rfl) (qv6 rfl rfl rfl rfl rfl rfl) (by decide) rfl
   exact anyo_nil
  refine any_all [3, 13] (by kernel_rfl) rfl ?_
  refine anyo_cons ?_ ?_
  ·
   refine any_t rfl (wn rfl) rfl (t_callx (vs := [.string (bs x16)]) (cs := []) [(0, 0)] rfl Tryz.call52 rfl (mp_ret (playlist_number_ok x16  hr18)) (showsX_view 0 rfl views_glob showsX_nil) rfl (.inl rfl)) ?_
   rintro _ _ ⟨_, ⟨rfl, rfl⟩, rfl⟩
   refine ⟨(ss (ss (ss (sn)))), ?_⟩
   exact any_weak2 (hK49 ()) [0, 1, 2] (by kernel_rfl) (qv5 rfl rfl rfl rfl rfl) (by decide) rfl
  refine anyo_cons ?_ ?_
  ·
   refine any_t rfl (wn rfl) rfl (t_alloc Tryz.zeroValue57) ?_
   rintro _ _ ⟨b52, rfl, rfl⟩
   refine ⟨(ss (ss (ss (sn)))), ?_⟩
   exact any_weak2 (hK51 b52) [0, 1, 2, 3] (by kernel_rfl) (qv6 rfl rfl rfl rfl rfl rfl) (by decide) rfl
  exact anyo_nil
 replace h := pbind_ret h
 refine run_drawany [globA, box b1 [.int .i64 0, .int .i64 0, .int .i64 0, .int .u8 0, .int .u8 0, .int .u8 0, .int .u8 0, .int .u8 0, .int .u8 0, .int .u8 0, .int .u8 0, .int .u8 0, .int .u8 0, .int .u8 0, .int .u8 0, .int .u8 0, .int .u8 0, .int .u8 0, .int .u8 0, .int .i64 0], row v4 1 (r2.map eStr)] (by kernel_rfl) ?_
 refine any_y 0 rfl (by kernel_rfl) (by kernel_rfl) (by kernel_rfl) (ss (ss (ss (sn)))) (wn rfl) rfl (y_move rfl) ?_
 refine any_y 1 rfl (by kernel_rfl) (by kernel_rfl) (by kernel_rfl) (ss (ss (ss (sn)))) (wn rfl) rfl (y_indexAddrI (kd := .i64) (i := 0) 2 Tryz.runUnderlying81 Tryz.sizeOf9 rfl rfl rfl reads_row hzx16 (map_lt hlx16)) ?_
 refine any_y 2 rfl (by kernel_rfl) (by kernel_rfl) (by kernel_rfl) (ss (ss (ss (sn)))) (wn rfl) rfl (y_load_elem (i := (0 : Int).toNat) 2 Tryz.isAgg9 rfl rfl reads_row (map_get hxx16)) ?_
 refine any_y 4 rfl (by kernel_rfl) (by kernel_rfl) (by kernel_rfl) (ss (ss (ss (sn)))) (wn rfl) rfl (y_move rfl) ?_
 refine any_y 5 rfl (by kernel_rfl) (by kernel_rfl) (by kernel_rfl) (ss (ss (ss (sn)))) (wn rfl) rfl (y_indexAddrI (kd := .i64) (i := 1) 2 Tryz.runUnderlying81 Tryz.sizeOf9 rfl rfl rfl reads_row hzx21 (map_lt hlx21)) ?_
 refine any_y 6 rfl (by kernel_rfl) (by kernel_rfl) (by kernel_rfl) (ss (ss (ss (sn)))) (wn rfl) rfl (y_load_elem (i := (1 : Int).toNat) 2 Tryz.isAgg9 rfl rfl reads_row (map_get hxx21)) ?_
 refine any_y 8 rfl (by kernel_rfl) (by kernel_rfl) (by kernel_rfl) (ss (ss (ss (sn)))) (wn rfl) rfl (y_move rfl) ?_
 refine any_y 9 rfl (by kernel_rfl) (by kernel_rfl) (by kernel_rfl) (ss (ss (ss (sn)))) (wn rfl) rfl (y_indexAddrI (kd := .i64) (i := 2) 2 Tryz.runUnderlying81 Tryz.sizeOf9 rfl rfl rfl reads_row hzx26 (map_lt hlx26)) ?_
 refine any_y 10 rfl (by kernel_rfl) (by kernel_rfl) (by kernel_rfl) (ss (ss (ss (sn)))) (wn rfl) rfl (y_load_elem (i := (2 : Int).toNat) 2 Tryz.isAgg9 rfl rfl reads_row (map_get hxx26)) ?_
 refine any_cut2 #[true, true, true, true, true, true, true, true, true, true, true, true, true, true, true] 0 (Nat) (fun σ => [(2, boxP b1 0), (3, v4), (4, boxP σ 0)]) (fun σ => [globA, box b1 [.int .i64 0, .int .i64 0, .int .i64 0, .int .u8 0, .int .u8 0, .int .u8 0, .int .u8 0, .int .u8 0, .int .u8 0, .int .u8 0, .int .u8 0, .int .u8 0, .int .u8 0, .int .u8 0, .int .u8 0, .int .u8 0, .int .u8 0, .int .u8 0, .int .u8 0, .int .i64 0], row v4 1 (r2.map eStr), box σ [.int .i64 0, .int .i64 q19, .int .i64 q24, .int .u8 0, .int .u8 0, .int .u8 0, .int .u8 0, .int .u8 0, .int .u8 0, .int .u8 0, .int .u8 0, .int .u8 0, .int .u8 0, .int .u8 0, .int .u8 0, .int .u8 0, .int .u8 0, .int .u8 0, .int .u8 0, .int .i64 q29]]) ?_ (fun hK57 => ?_)
 ·rintro b56
  change AnyL _ _ _ _ _ (VF.of [(2, boxP b1 0), (3, v4), (4, boxP b56 0)]) [globA, box b1 [.int .i64 0, .int .i64 0, .int .i64 0, .int .u8 0, .int .u8 0, .int .u8 0, .int .u8 0, .int .u8 0, .int .u8 0, .int .u8 0, .int .u8 0, .int .u8 0, .int .u8 0, .int .u8 0, .int .u8 0, .int .u8 0, .int .u8 0, .int .u8 0, .int .u8 0, .int .i64 0], row v4 1 (r2.map eStr), box b56 [.int .i64 0, .int .i64 q19, .int .i64 q24, .int .u8 0, .int .u8 0, .int .u8 0, .int .u8 0, .int .u8 0, .int .u8 0, .int .u8 0, .int .u8 0, .int .u8 0, .int .u8 0, .int .u8 0, .int .u8 0, .int .u8 0, .int .u8 0, .int .u8 0, .int .u8 0, .int .i64 q29]] _
  refine any_nil (by kernel_rfl) ?_
  refine goes_code ?_
  obtain ⟨o74, h, ho75⟩ := bindJ_some h
  refine run_cut ((Int × Int × Int × Int × Int × Int × Int × Int × Int × Int × Int × Int × Int × Int × Int × Int) × (Unit)) (fun σ => [(2, boxP b1 0), (4, boxP b56 0)]) (fun σ => [box b1 [.int .i64 0, .int .i64 0, .int .i64 0, .int .u8 0, .int .u8 0, .int .u8 0, .int .u8 0, .int .u8 0, .int .u8 0, .int .u8 0, .int .u8 0, .int .u8 0, .int .u8 0, .int .u8 0, .int .u8 0, .int .u8 0, .int .u8 0, .int .u8 0, .int .u8 0, .int .i64 0], box b56 [.int .i64 0, .int .i64 q19, .int .i64 q24, .int .u8 σ.1.1, .int .u8 σ.1.2.1, .int .u8 σ.1.2.2.1, .int .u8 σ.1.2.2.2.1, .int .u8 σ.1.2.2.2.2.1, .int .u8 σ.1.2.2.2.2.2.1, .int .u8 σ.1.2.2.2.2.2.2.1, .int .u8 σ.1.2.2.2.2.2.2.2.1, .int .u8 σ.1.2.2.2.2.2.2.2.2.1, .int .u8 σ.1.2.2.2.2.2.2.2.2.2.1, .int .u8 σ.1.2.2.2.2.2.2.2.2.2.2.1, .int .u8 σ.1.2.2.2.2.2.2.2.2.2.2.2.1, .int .u8 σ.1.2.2.2.2.2.2.2.2.2.2.2.2.1, .int .u8 σ.1.2.2.2.2.2.2.2.2.2.2.2.2.2.1, .int .u8 σ.1.2.2.2.2.2.2.2.2.2.2.2.2.2.2.1, .int .u8 σ.1.2.2.2.2.2.2.2.2.2.2.2.2.2.2.2, .int .i64 q29], globA]) (fun σ => o74 = .go σ.1) (fun L77 hL76 => ?_) ?_
  ·
   refine run_seq ?_
   refine run_region' ?_
   refine oy rfl rfl (y_move rfl) ?_
   refine ops_nil ?_
   refine goes_code ?_
   refine run_block ?_
   refine run_iter (step := playlist_segment_L1 r2) (n := n) (s0 := (0, 0, 0, 0, 0, 0, 0, 0, 0, 0, 0, 0, 0, 0, 0, 0, 0)) h (G := Unit) () (fun σ γ => [(34, .int .i64 σ.1), (2, boxP b1 0), (3, v4), (4, boxP b56 0)]) (fun σ γ => [box b1 [.int .i64 0, .int .i64 0, .int .i64 0, .int .u8 0, .int .u8 0, .int .u8 0, .int .u8 0, .int .u8 0, .int .u8 0, .int .u8 0, .int .u8 0, .int .u8 0, .int .u8 0, .int .u8 0, .int .u8 0, .int .u8 0, .int .u8 0, .int .u8 0, .int .u8 0, .int .i64 0], row v4 1 (r2.map eStr), box b56 [.int .i64 0, .int .i64 q19, .int .i64 q24, .int .u8 σ.2.1, .int .u8 σ.2.2.1, .int .u8 σ.2.2.2.1, .int .u8 σ.2.2.2.2.1, .int .u8 σ.2.2.2.2.2.1, .int .u8 σ.2.2.2.2.2.2.1, .int .u8 σ.2.2.2.2.2.2.2.1, .int .u8 σ.2.2.2.2.2.2.2.2.1, .int .u8 σ.2.2.2.2.2.2.2.2.2.1, .int .u8 σ.2.2.2.2.2.2.2.2.2.2.1, .int .u8 σ.2.2.2.2.2.2.2.2.2.2.2.1, .int .u8 σ.2.2.2.2.2.2.2.2.2.2.2.2.1, .int .u8 σ.2.2.2.2.2.2.2.2.2.2.2.2.2.1, .int .u8 σ.2.2.2.2.2.2.2.2.2.2.2.2.2.2.1, .int .u8 σ.2.2.2.2.2.2.2.2.2.2.2.2.2.2.2.1, .int .u8 σ.2.2.2.2.2.2.2.2.2.2.2.2.2.2.2.2, .int .i64 q29], globA]) [1, 2, 3, 0] (qv4 rfl rfl rfl rfl) (by decide) rfl ?_
   rintro ⟨s_78, x_79, x_80, x_81, x_82, x_83, x_84, x_85, x_86, x_87, x_88, x_89, x_90, x_91, x_92, x_93, x_94⟩ _ o95 h L98 hgo96 hstop97
   change Run _ _ _ (VF.of [(34, .int .i64 s_78), (2, boxP b1 0), (3, v4), (4, boxP b56 0)]) [box b1 [.int .i64 0, .int .i64 0, .int .i64 0, .int .u8 0, .int .u8 0, .int .u8 0, .int .u8 0, .int .u8 0, .int .u8 0, .int .u8 0, .int .u8 0, .int .u8 0, .int .u8 0, .int .u8 0, .int .u8 0, .int .u8 0, .int .u8 0, .int .u8 0, .int .u8 0, .int .i64 0], row v4 1 (r2.map eStr), box b56 [.int .i64 0, .int .i64 q19, .int .i64 q24, .int .u8 x_79, .int .u8 x_80, .int .u8 x_81, .int .u8 x_82, .int .u8 x_83, .int .u8 x_84, .int .u8 x_85, .int .u8 x_86, .int .u8 x_87, .int .u8 x_88, .int .u8 x_89, .int .u8 x_90, .int .u8 x_91, .int .u8 x_92, .int .u8 x_93, .int .u8 x_94, .int .i64 q29], globA]
   refine run_seq ?_
   refine run_region' ?_
   refine oy rfl rfl (y_lss rfl rfl) ?_
   refine ops_nil ?_
   refine goes_code ?_
   refine run_seq ?_
   refine run_cond (decide (s_78 < 16)) rfl (fun hc99 => ?_) (fun hc99 => ?_)
   ·replace h := cond_t h hc99
    refine run_skip ?_
    refine goes_code ?_
    refine run_seq ?_
    refine run_block ?_
    refine run_seq ?_
    refine run_region' ?_
    refine oy rfl rfl (y_move rfl) ?_
    refine oy rfl rfl (y_assign rfl) ?_
    refine ops_nil ?_
    refine goes_code ?_
    refine run_seq ?_
    refine run_drawany [box b1 [.int .i64 0, .int .i64 0, .int .i64 0, .int .u8 0, .int .u8 0, .int .u8 0, .int .u8 0, .int .u8 0, .int .u8 0, .int .u8 0, .int .u8 0, .int .u8 0, .int .u8 0, .int .u8 0, .int .u8 0, .int .u8 0, .int .u8 0, .int .u8 0, .int .u8 0, .int .i64 0], row v4 1 (r2.map eStr), box b56 [.int .i64 0, .int .i64 q19, .int .i64 q24, .int .u8 x_79, .int .u8 x_80, .int .u8 x_81, .int .u8 x_82, .int .u8 x_83, .int .u8 x_84, .int .u8 x_85, .int .u8 x_86, .int .u8 x_87, .int .u8 x_88, .int .u8 x_89, .int .u8 x_90, .int .u8 x_91, .int .u8 x_92, .int .u8 x_93, .int .u8 x_94, .int .i64 q29], globA] (by kernel_rfl) ?_
    refine any_y 0 rfl (by kernel_rfl) (by kernel_rfl) (by kernel_rfl) (ss (ss (ss (ss (sn))))) (wn rfl) rfl (y_move rfl) ?_
    obtain ⟨x100, hzx100, hlx100, hxx100, h⟩ := idx_some h
    refine any_y 1 rfl (by kernel_rfl) (by kernel_rfl) (by kernel_rfl) (ss (ss (ss (ss (sn))))) (wn rfl) rfl (y_indexAddrI (kd := .i64) (i := 3) 1 Tryz.runUnderlying81 Tryz.sizeOf9 rfl rfl rfl reads_row hzx100 (map_lt hlx100)) ?_
    refine any_y 2 rfl (by kernel_rfl) (by kernel_rfl) (by kernel_rfl) (ss (ss (ss (ss (sn))))) (wn rfl) rfl (y_load_elem (i := (3 : Int).toNat) 1 Tryz.isAgg9 rfl rfl reads_row (map_get hxx100)) ?_
    refine any_y 3 rfl (by kernel_rfl) (by kernel_rfl) (by kernel_rfl) (ss (ss (ss (ss (sn))))) (wn rfl) rfl (y_move rfl) ?_
    refine any_y 4 rfl (by kernel_rfl) (by kernel_rfl) (by kernel_rfl) (ss (ss (ss (ss (sn))))) (wn rfl) rfl (y_mul rfl rfl) ?_
    obtain ⟨c101, hzc101, hlc101, hxc101, h⟩ := idx_some h
    refine any_y 5 rfl (by kernel_rfl) (by kernel_rfl) (by kernel_rfl) (ss (ss (ss (ss (sn))))) (wn rfl) rfl (y_index_strI (kd := .i64) (i := (IntKind.i64.wrap (2 * s_78))) Tryz.runUnderlying9 rfl rfl hzc101 hxc101) ?_
    refine any_y 7 rfl (by kernel_rfl) (by kernel_rfl) (by kernel_rfl) (ss (ss (ss (ss (sn))))) (wn rfl) rfl (y_move rfl) ?_
    refine any_y 8 rfl (by kernel_rfl) (by kernel_rfl) (by kernel_rfl) (ss (ss (ss (ss (sn))))) (wn rfl) rfl (y_indexAddrI (kd := .i64) (i := 3) 1 Tryz.runUnderlying81 Tryz.sizeOf9 rfl rfl rfl reads_row hzx100 (map_lt hlx100)) ?_
    refine any_y 9 rfl (by kernel_rfl) (by kernel_rfl) (by kernel_rfl) (ss (ss (ss (ss (sn))))) (wn rfl) rfl (y_load_elem (i := (3 : Int).toNat) 1 Tryz.isAgg9 rfl rfl reads_row (map_get hxx100)) ?_
    refine any_y 10 rfl (by kernel_rfl) (by kernel_rfl) (by kernel_rfl) (ss (ss (ss (ss (sn))))) (wn rfl) rfl (y_move rfl) ?_
    refine any_y 11 rfl (by kernel_rfl) (by kernel_rfl) (by kernel_rfl) (ss (ss (ss (ss (sn))))) (wn rfl) rfl (y_mul rfl rfl) ?_
    refine any_y 12 rfl (by kernel_rfl) (by kernel_rfl) (by kernel_rfl) (ss (ss (ss (ss (sn))))) (wn rfl) rfl (y_add rfl rfl) ?_
    obtain ⟨c102, hzc102, hlc102, hxc102, h⟩ := idx_some h
    refine any_y 13 rfl (by kernel_rfl) (by kernel_rfl) (by kernel_rfl) (ss (ss (ss (ss (sn))))) (wn rfl) rfl (y_index_strI (kd := .i64) (i := (IntKind.i64.wrap ((IntKind.i64.wrap (2 * s_78)) + 1))) Tryz.runUnderlying9 rfl rfl hzc102 hxc102) ?_
    refine any_all [6] (by kernel_rfl) rfl (anyo_cons ?_ anyo_nil)
    obtain ⟨r103, hr104, h⟩ := obind_some h
    refine any_t rfl (wn rfl) rfl (t_callx (vs := [.string (bs [48, 49, 50, 51, 52, 53, 54, 55, 56, 57, 97, 98, 99, 100, 101, 102]), .int .u8 (c101.toNat : Int)]) (cs := []) [] rfl Tryz.call77 rfl (idxH_ok [48, 49, 50, 51, 52, 53, 54, 55, 56, 57, 97, 98, 99, 100, 101, 102] (c101.toNat : Int)  hr104) showsX_nil rfl (.inl rfl)) ?_
    rintro _ _ ⟨_, ⟨rfl, rfl⟩, rfl⟩
    refine ⟨(ss (ss (ss (ss (sn))))), ?_⟩
    refine any_all [14] (by kernel_rfl) rfl (anyo_cons ?_ anyo_nil)
    obtain ⟨r105, hr106, h⟩ := obind_some h
    refine any_t rfl (wn rfl) rfl (t_callx (vs := [.string (bs [48, 49, 50, 51, 52, 53, 54, 55, 56, 57, 97, 98, 99, 100, 101, 102]), .int .u8 (c102.toNat : Int)]) (cs := []) [] rfl Tryz.call77 rfl (idxH_ok [48, 49, 50, 51, 52, 53, 54, 55, 56, 57, 97, 98, 99, 100, 101, 102] (c102.toNat : Int)  hr106) showsX_nil rfl (.inl rfl)) ?_
    rintro _ _ ⟨_, ⟨rfl, rfl⟩, rfl⟩
    refine ⟨(ss (ss (ss (ss (sn))))), ?_⟩
    refine any_y 15 rfl (by kernel_rfl) (by kernel_rfl) (by kernel_rfl) (ss (ss (ss (ss (sn))))) (wn rfl) rfl (y_assign rfl) ?_
    refine any_y 16 rfl (by kernel_rfl) (by kernel_rfl) (by kernel_rfl) (ss (ss (ss (ss (sn))))) (wn rfl) rfl (y_assign rfl) ?_
    refine any_nil (by kernel_rfl) ?_
    refine goes_code ?_
    refine run_seq ?_
    refine run_weak [(34, .int .i64 s_78), (2, boxP b1 0), (3, v4), (4, boxP b56 0), (5, .int .i64 s_78), (6, .int .i64 r103), (7, .int .i64 r105)] [0, 1, 2, 3] [box b1 [.int .i64 0, .int .i64 0, .int .i64 0, .int .u8 0, .int .u8 0, .int .u8 0, .int .u8 0, .int .u8 0, .int .u8 0, .int .u8 0, .int .u8 0, .int .u8 0, .int .u8 0, .int .u8 0, .int .u8 0, .int .u8 0, .int .u8 0, .int .u8 0, .int .u8 0, .int .i64 0], row v4 1 (r2.map eStr), box b56 [.int .i64 0, .int .i64 q19, .int .i64 q24, .int .u8 x_79, .int .u8 x_80, .int .u8 x_81, .int .u8 x_82, .int .u8 x_83, .int .u8 x_84, .int .u8 x_85, .int .u8 x_86, .int .u8 x_87, .int .u8 x_88, .int .u8 x_89, .int .u8 x_90, .int .u8 x_91, .int .u8 x_92, .int .u8 x_93, .int .u8 x_94, .int .i64 q29], globA] (qv7 rfl rfl rfl rfl rfl rfl rfl) (by decide) rfl ?_
    refine run_region' ?_
    refine oy rfl rfl (y_move rfl) ?_
    refine oy rfl rfl (y_geq rfl rfl) ?_
    refine oy rfl rfl (y_move rfl) ?_
    refine ops_cut 3 (Bool) (fun σ => [(34, .int .i64 s_78), (2, boxP b1 0), (3, v4), (4, boxP b56 0), (5, .int .i64 s_78), (6, .int .i64 r103), (7, .int .i64 r105), (57, .bool σ)]) (fun σ => [box b1 [.int .i64 0, .int .i64 0, .int .i64 0, .int .u8 0, .int .u8 0, .int .u8 0, .int .u8 0, .int .u8 0, .int .u8 0, .int .u8 0, .int .u8 0, .int .u8 0, .int .u8 0, .int .u8 0, .int .u8 0, .int .u8 0, .int .u8 0, .int .u8 0, .int .u8 0, .int .i64 0], row v4 1 (r2.map eStr), box b56 [.int .i64 0, .int .i64 q19, .int .i64 q24, .int .u8 x_79, .int .u8 x_80, .int .u8 x_81, .int .u8 x_82, .int .u8 x_83, .int .u8 x_84, .int .u8 x_85, .int .u8 x_86, .int .u8 x_87, .int .u8 x_88, .int .u8 x_89, .int .u8 x_90, .int .u8 x_91, .int .u8 x_92, .int .u8 x_93, .int .u8 x_94, .int .i64 q29], globA]) (fun σ => σ = (decide (0 ≤ r103) && decide (0 ≤ r105))) (fun L107 hL108 => ?_) ?_
    ·refine ops_split 54 (decide (0 ≤ r103)) rfl (fun hg109 => ?_) (fun hg109 => ?_)
     ·skip
      refine ops_y (wg 2 true 54 rfl rfl rfl rfl) rfl (y_move rfl) ?_
      refine ops_y (wg 2 true 54 rfl rfl rfl rfl) rfl (y_geq rfl rfl) ?_
      refine oy rfl rfl (y_pick (b := true) rfl rfl) ?_
      refine ops_nil ?_
      exact goes_cut hL108 (decide (0 ≤ r105)) [0, 1, 2, 3] (qv8 rfl rfl rfl rfl rfl rfl rfl rfl) (by decide) rfl (by rw [hg109]; simp)
     ·skip
      refine ops_no 2 true 54 rfl rfl rfl rfl rfl ?_
      refine ops_no 2 true 54 rfl rfl rfl rfl rfl ?_
      refine oy rfl rfl (y_pick (b := false) rfl rfl) ?_
      refine ops_nil ?_
      exact goes_cut hL108 false [0, 1, 2, 3] (qv8 rfl rfl rfl rfl rfl rfl rfl rfl) (by decide) rfl (by rw [hg109]; simp)
    rintro _ rfl
    obtain ⟨r110, hr111, h⟩ := obind_some h
    rcases r110 with q112 | e113
    rotate_left
    ·replace h := pbind_pan h
     refine ops_tp (wn rfl) rfl (t_callp (vs := [.bool (decide (0 ≤ r103) && decide (0 ≤ r105))]) (cs := []) [] rfl Tryz.call50 rfl (playlist_must_ok (decide (0 ≤ r103) && decide (0 ≤ r105))  hr111) showsX_nil rfl (.inl rfl)) (by rintro _ _ ⟨_, ⟨_, hq, _⟩, _⟩; cases hq) ?_
     rintro _ ⟨_, he, rfl⟩
     obtain rfl := Pn.pan.inj he
     obtain rfl := some_eq h
     obtain rfl := hstop97 _ rfl
     skip
     obtain rfl := after_stop ho75
     exact finP ⟨_, rfl, rfl⟩
    replace h := pbind_ret h
    refine ot rfl rfl (t_callx (vs := [.bool (decide (0 ≤ r103) && decide (0 ≤ r105))]) (cs := []) [] rfl Tryz.call50 rfl (mp_ret (playlist_must_ok (decide (0 ≤ r103) && decide (0 ≤ r105))  hr111)) showsX_nil rfl (.inl rfl)) ?_
    rintro _ _ ⟨_, ⟨rfl, rfl⟩, rfl⟩
    refine ops_nil ?_
    refine goes_code ?_
    refine run_region' ?_
    refine oy rfl rfl (y_move rfl) ?_
    refine oy rfl rfl (y_move rfl) ?_
    refine oy rfl rfl (y_mul rfl rfl) ?_
    refine oy rfl rfl (y_move rfl) ?_
    refine oy rfl rfl (y_add rfl rfl) ?_
    refine oy rfl rfl (y_conv Tryz.runUnderlying3 Tryz.runUnderlying5 rfl) ?_
    refine oy rfl rfl (y_fieldAddr_box (sz := 15) Tryz.runUnderlying57 rfl Tryz.sizeOf55 rfl) ?_
    obtain ⟨hi114, h⟩ := need_some h
    refine oy rfl rfl (y_indexAddr_boxI (i := s_78) Tryz.runUnderlying55 Tryz.sizeOf5 rfl rfl hi114) ?_
    obtain ⟨x115, hxx115, h⟩ := obind_some h
    refine ot rfl rfl (t_store_arr (F := (eInt .u8)) (es := 1) (i := s_78.toNat) (l := S_api_Digest.toL (S_api_Digest.mk x_79 x_80 x_81 x_82 x_83 x_84 x_85 x_86 x_87 x_88 x_89 x_90 x_91 x_92 x_93 x_94)) (v := (IntKind.u8.wrap (IntKind.i64.wrap ((IntKind.i64.wrap (16 * r103)) + r105)))) 2 [.int .i64 0, .int .i64 q19, .int .i64 q24] [.int .i64 q29] (fun x => ((eInt_ok _) x).1) Tryz.sizeOf5 rfl rfl rfl rfl (by rw [S_api_Digest.toL_len]; omega) rfl (by simp [Value.cells, Value.oneCell', boxP])) ?_
    rintro _ _ ⟨rfl, rfl⟩
    refine ops_turn (retell 2 (g := box b56 [.int .i64 0, .int .i64 q19, .int .i64 q24, .int .u8 x115.a0_, .int .u8 x115.a1_, .int .u8 x115.a2_, .int .u8 x115.a3_, .int .u8 x115.a4_, .int .u8 x115.a5_, .int .u8 x115.a6_, .int .u8 x115.a7_, .int .u8 x115.a8_, .int .u8 x115.a9_, .int .u8 x115.a10_, .int .u8 x115.a11_, .int .u8 x115.a12_, .int .u8 x115.a13_, .int .u8 x115.a14_, .int .u8 x115.a15_, .int .i64 q29]) rfl (congrArg (fun q => box b56 ([.int .i64 0, .int .i64 q19, .int .i64 q24] ++ (q.flatMap (eInt .u8) ++ [.int .i64 q29]))) (S_api_Digest.put_at hxx115).symm)) ?_
    refine ops_nil ?_
    refine goes_blk ?_
    refine goes_code ?_
    refine run_weak [(34, .int .i64 s_78), (2, boxP b1 0), (3, v4), (4, boxP b56 0)] [0, 1, 2, 3] [box b1 [.int .i64 0, .int .i64 0, .int .i64 0, .int .u8 0, .int .u8 0, .int .u8 0, .int .u8 0, .int .u8 0, .int .u8 0, .int .u8 0, .int .u8 0, .int .u8 0, .int .u8 0, .int .u8 0, .int .u8 0, .int .u8 0, .int .u8 0, .int .u8 0, .int .u8 0, .int .i64 0], row v4 1 (r2.map eStr), box b56 [.int .i64 0, .int .i64 q19, .int .i64 q24, .int .u8 x115.a0_, .int .u8 x115.a1_, .int .u8 x115.a2_, .int .u8 x115.a3_, .int .u8 x115.a4_, .int .u8 x115.a5_, .int .u8 x115.a6_, .int .u8 x115.a7_, .int .u8 x115.a8_, .int .u8 x115.a9_, .int .u8 x115.a10_, .int .u8 x115.a11_, .int .u8 x115.a12_, .int .u8 x115.a13_, .int .u8 x115.a14_, .int .u8 x115.a15_, .int .i64 q29], globA] (qv4 rfl rfl rfl rfl) (by decide) rfl ?_
    refine run_region' ?_
    refine oy rfl rfl (y_add rfl rfl) ?_
    refine oy rfl rfl (y_move rfl) ?_
    refine ops_nil ?_
    obtain rfl := some_eq h
    exact goes_iter hgo96 ((IntKind.i64.wrap (s_78 + 1)), x115.a0_, x115.a1_, x115.a2_, x115.a3_, x115.a4_, x115.a5_, x115.a6_, x115.a7_, x115.a8_, x115.a9_, x115.a10_, x115.a11_, x115.a12_, x115.a13_, x115.a14_, x115.a15_) () [0, 1, 2, 3] rfl (qv4 rfl rfl rfl rfl) (by decide) rfl
   ·replace h := cond_f h hc99
    refine run_exit _ rfl ?_
    obtain rfl := some_eq h
    obtain rfl := hstop97 _ rfl
    exact goes_cut hL76 ((x_79, x_80, x_81, x_82, x_83, x_84, x_85, x_86, x_87, x_88, x_89, x_90, x_91, x_92, x_93, x_94), ()) [0, 2, 3] (qv2 rfl rfl) (by decide) rfl rfl
  rintro ⟨⟨x_58, x_59, x_60, x_61, x_62, x_63, x_64, x_65, x_66, x_67, x_68, x_69, x_70, x_71, x_72, x_73⟩, _⟩ hj
  obtain rfl : o74 = _ := hj
  replace h := after_go ho75
  clear ho75
  change Run _ _ _ (VF.of [(2, boxP b1 0), (4, boxP b56 0)]) [box b1 [.int .i64 0, .int .i64 0, .int .i64 0, .int .u8 0, .int .u8 0, .int .u8 0, .int .u8 0, .int .u8 0, .int .u8 0, .int .u8 0, .int .u8 0, .int .u8 0, .int .u8 0, .int .u8 0, .int .u8 0, .int .u8 0, .int .u8 0, .int .u8 0, .int .u8 0, .int .i64 0], box b56 [.int .i64 0, .int .i64 q19, .int .i64 q24, .int .u8 x_58, .int .u8 x_59, .int .u8 x_60, .int .u8 x_61, .int .u8 x_62, .int .u8 x_63, .int .u8 x_64, .int .u8 x_65, .int .u8 x_66, .int .u8 x_67, .int .u8 x_68, .int .u8 x_69, .int .u8 x_70, .int .u8 x_71, .int .u8 x_72, .int .u8 x_73, .int .i64 q29], globA]
  refine run_seq ?_
  refine run_region' ?_
  refine oy rfl rfl (y_load_boxagg (c := [.int .i64 0, .int .i64 q19, .int .i64 q24, .int .u8 x_58, .int .u8 x_59, .int .u8 x_60, .int .u8 x_61, .int .u8 x_62, .int .u8 x_63, .int .u8 x_64, .int .u8 x_65, .int .u8 x_66, .int .u8 x_67, .int .u8 x_68, .int .u8 x_69, .int .u8 x_70, .int .u8 x_71, .int .u8 x_72, .int .u8 x_73, .int .i64 q29]) 1 Tryz.isAgg57 Tryz.sizeOf57 rfl rfl rfl) ?_
  refine ot rfl rfl (t_store 0 Tryz.sizeOf57 rfl rfl rfl rfl (by simp [Value.cells, boxP]) (by simp [Value.cells, Value.oneCell', boxP])) ?_
  rintro _ _ ⟨rfl, rfl⟩
  refine ops_turn (retell 0 (g := box b1 [.int .i64 0, .int .i64 q19, .int .i64 q24, .int .u8 x_58, .int .u8 x_59, .int .u8 x_60, .int .u8 x_61, .int .u8 x_62, .int .u8 x_63, .int .u8 x_64, .int .u8 x_65, .int .u8 x_66, .int .u8 x_67, .int .u8 x_68, .int .u8 x_69, .int .u8 x_70, .int .u8 x_71, .int .u8 x_72, .int .u8 x_73, .int .i64 q29]) rfl (by kernel_rfl)) ?_
  refine ops_nil ?_
  refine goes_code ?_
  refine run_ret ?_
  obtain rfl := some_eq h
  refine fin_res [.cell 2 57] [.agg #[.int .i64 0, .int .i64 q19, .int .i64 q24, .int .u8 x_58, .int .u8 x_59, .int .u8 x_60, .int .u8 x_61, .int .u8 x_62, .int .u8 x_63, .int .u8 x_64, .int .u8 x_65, .int .u8 x_66, .int .u8 x_67, .int .u8 x_68, .int .u8 x_69, .int .u8 x_70, .int .u8 x_71, .int .u8 x_72, .int .u8 x_73, .int .i64 q29]] [] [] Tryz.results53 rfl (rescons (res_box 0 Tryz.isAgg57 Tryz.sizeOf57 rfl rfl rfl) resnil) (by decide) rfl ?_
  exact ⟨_, rfl, rfl, rfl⟩
 refine any_cut2 #[true, true, true, true, true, true, true, true, true, true, true, true, true, true, false] 1 (Nat) (fun σ => [(2, boxP b1 0), (3, v4), (33, .agg #[.int .i64 0, .int .i64 q19, .int .i64 q24, .int .u8 0, .int .u8 0, .int .u8 0, .int .u8 0, .int .u8 0, .int .u8 0, .int .u8 0, .int .u8 0, .int .u8 0, .int .u8 0, .int .u8 0, .int .u8 0, .int .u8 0, .int .u8 0, .int .u8 0, .int .u8 0, .int .i64 q29]), (4, boxP σ 0)]) (fun σ => [globA, box b1 [.int .i64 0, .int .i64 0, .int .i64 0, .int .u8 0, .int .u8 0, .int .u8 0, .int .u8 0, .int .u8 0, .int .u8 0, .int .u8 0, .int .u8 0, .int .u8 0, .int .u8 0, .int .u8 0, .int .u8 0, .int .u8 0, .int .u8 0, .int .u8 0, .int .u8 0, .int .i64 0], row v4 1 (r2.map eStr), box σ [.int .i64 0, .int .i64 0, .int .i64 0, .int .u8 0, .int .u8 0, .int .u8 0, .int .u8 0, .int .u8 0, .int .u8 0, .int .u8 0, .int .u8 0, .int .u8 0, .int .u8 0, .int .u8 0, .int .u8 0, .int .u8 0, .int .u8 0, .int .u8 0, .int .u8 0, .int .i64 0]]) ?_ (fun hK116 => ?_)
 ·rintro b56
  change AnyL _ _ _ _ _ (VF.of [(2, boxP b1 0), (3, v4), (33, .agg #[.int .i64 0, .int .i64 q19, .int .i64 q24, .int .u8 0, .int .u8 0, .int .u8 0, .int .u8 0, .int .u8 0, .int .u8 0, .int .u8 0, .int .u8 0, .int .u8 0, .int .u8 0, .int .u8 0, .int .u8 0, .int .u8 0, .int .u8 0, .int .u8 0, .int .u8 0, .int .i64 q29]), (4, boxP b56 0)]) [globA, box b1 [.int .i64 0, .int .i64 0, .int .i64 0, .int .u8 0, .int .u8 0, .int .u8 0, .int .u8 0, .int .u8 0, .int .u8 0, .int .u8 0, .int .u8 0, .int .u8 0, .int .u8 0, .int .u8 0, .int .u8 0, .int .u8 0, .int .u8 0, .int .u8 0, .int .u8 0, .int .i64 0], row v4 1 (r2.map eStr), box b56 [.int .i64 0, .int .i64 0, .int .i64 0, .int .u8 0, .int .u8 0, .int .u8 0, .int .u8 0, .int .u8 0, .int .u8 0, .int .u8 0, .int .u8 0, .int .u8 0, .int .u8 0, .int .u8 0, .int .u8 0, .int .u8 0, .int .u8 0, .int .u8 0, .int .u8 0, .int .i64 0]] _
  refine any_all [14] (by kernel_rfl) rfl ?_
  refine anyo_cons ?_ ?_
  ·
   refine any_t rfl (wn rfl) rfl (t_store 3 Tryz.sizeOf57 rfl rfl rfl rfl (by simp [Value.cells, boxP]) (by simp [Value.cells, Value.oneCell', boxP])) ?_
   rintro _ _ ⟨rfl, rfl⟩
   refine ⟨(ss (ss (ss (sn)))), ?_⟩
   refine any_turn (retell 3 (g := box b56 [.int .i64 0, .int .i64 q19, .int .i64 q24, .int .u8 0, .int .u8 0, .int .u8 0, .int .u8 0, .int .u8 0, .int .u8 0, .int .u8 0, .int .u8 0, .int .u8 0, .int .u8 0, .int .u8 0, .int .u8 0, .int .u8 0, .int .u8 0, .int .u8 0, .int .u8 0, .int .i64 q29]) rfl (by kernel_rfl)) ?_
   exact any_weak2 (hK57 b56) [0, 1, 2, 3] (by kernel_rfl) (qv3 rfl rfl rfl) (by decide) rfl
  exact anyo_nil
 refine any_cut2 #[true, true, true, true, true, true, true, true, true, true, true, true, true, false, false] 2 (Unit) (fun σ => [(2, boxP b1 0), (3, v4), (33, .agg #[.int .i64 0, .int .i64 q19, .int .i64 q24, .int .u8 0, .int .u8 0, .int .u8 0, .int .u8 0, .int .u8 0, .int .u8 0, .int .u8 0, .int .u8 0, .int .u8 0, .int .u8 0, .int .u8 0, .int .u8 0, .int .u8 0, .int .u8 0, .int .u8 0, .int .u8 0, .int .i64 q29])]) (fun σ => [globA, box b1 [.int .i64 0, .int .i64 0, .int .i64 0, .int .u8 0, .int .u8 0, .int .u8 0, .int .u8 0, .int .u8 0, .int .u8 0, .int .u8 0, .int .u8 0, .int .u8 0, .int .u8 0, .int .u8 0, .int .u8 0, .int .u8 0, .int .u8 0, .int .u8 0, .int .u8 0, .int .i64 0], row v4 1 (r2.map eStr)]) ?_ (fun hK117 => ?_)
 ·rintro _
  change AnyL _ _ _ _ _ (VF.of [(2, boxP b1 0), (3, v4), (33, .agg #[.int .i64 0, .int .i64 q19, .int .i64 q24, .int .u8 0, .int .u8 0, .int .u8 0, .int .u8 0, .int .u8 0, .int .u8 0, .int .u8 0, .int .u8 0, .int .u8 0, .int .u8 0, .int .u8 0, .int .u8 0, .int .u8 0, .int .u8 0, .int .u8 0, .int .u8 0, .int .i64 q29])]) [globA, box b1 [.int .i64 0, .int .i64 0, .int .i64 0, .int .u8 0, .int .u8 0, .int .u8 0, .int .u8 0, .int .u8 0, .int .u8 0, .int .u8 0, .int .u8 0, .int .u8 0, .int .u8 0, .int .u8 0, .int .u8 0, .int .u8 0, .int .u8 0, .int .u8 0, .int .u8 0, .int .i64 0], row v4 1 (r2.map eStr)] _
  refine any_all [13] (by kernel_rfl) rfl ?_
  refine anyo_cons ?_ ?_
  ·
   refine any_t rfl (wn rfl) rfl (t_alloc Tryz.zeroValue57) ?_
   rintro _ _ ⟨b118, rfl, rfl⟩
   refine ⟨(ss (ss (ss (sn)))), ?_⟩
   exact any_weak2 (hK116 b118) [0, 1, 2, 3] (by kernel_rfl) (qv4 rfl rfl rfl rfl) (by decide) rfl
  exact anyo_nil
 refine any_cut2 #[true, true, true, true, true, true, true, true, true, true, true, false, false, true, false] 3 (Nat) (fun σ => [(2, boxP b1 0), (3, v4), (31, .string (bs x26)), (24, .int .i64 q19), (28, .int .i64 q24), (4, boxP σ 0)]) (fun σ => [globA, box b1 [.int .i64 0, .int .i64 0, .int .i64 0, .int .u8 0, .int .u8 0, .int .u8 0, .int .u8 0, .int .u8 0, .int .u8 0, .int .u8 0, .int .u8 0, .int .u8 0, .int .u8 0, .int .u8 0, .int .u8 0, .int .u8 0, .int .u8 0, .int .u8 0, .int .u8 0, .int .i64 0], row v4 1 (r2.map eStr), box σ [.int .i64 0, .int .i64 0, .int .i64 0, .int .u8 0, .int .u8 0, .int .u8 0, .int .u8 0, .int .u8 0, .int .u8 0, .int .u8 0, .int .u8 0, .int .u8 0, .int .u8 0, .int .u8 0, .int .u8 0, .int .u8 0, .int .u8 0, .int .u8 0, .int .u8 0, .int .i64 0]]) ?_ (fun hK119 => ?_)
 ·rintro b55
  change AnyL _ _ _ _ _ (VF.of [(2, boxP b1 0), (3, v4), (31, .string (bs x26)), (24, .int .i64 q19), (28, .int .i64 q24), (4, boxP b55 0)]) [globA, box b1 [.int .i64 0, .int .i64 0, .int .i64 0, .int .u8 0, .int .u8 0, .int .u8 0, .int .u8 0, .int .u8 0, .int .u8 0, .int .u8 0, .int .u8 0, .int .u8 0, .int .u8 0, .int .u8 0, .int .u8 0, .int .u8 0, .int .u8 0, .int .u8 0, .int .u8 0, .int .i64 0], row v4 1 (r2.map eStr), box b55 [.int .i64 0, .int .i64 0, .int .i64 0, .int .u8 0, .int .u8 0, .int .u8 0, .int .u8 0, .int .u8 0, .int .u8 0, .int .u8 0, .int .u8 0, .int .u8 0, .int .u8 0, .int .u8 0, .int .u8 0, .int .u8 0, .int .u8 0, .int .u8 0, .int .u8 0, .int .i64 0]] _
  refine any_all [11] (by kernel_rfl) rfl ?_
  refine anyo_cons ?_ ?_
  ·
   refine any_t rfl (wn rfl) rfl (t_callx (vs := [.string (bs x26)]) (cs := []) [(0, 0)] rfl Tryz.call52 rfl (mp_ret (playlist_number_ok x26  hr28)) (showsX_view 0 rfl views_glob showsX_nil) rfl (.inl rfl)) ?_
   rintro _ _ ⟨_, ⟨rfl, rfl⟩, rfl⟩
   refine ⟨(ss (ss (ss (sn)))), ?_⟩
   refine any_y 12 rfl (by kernel_rfl) (by kernel_rfl) (by kernel_rfl) (ss (ss (ss (sn)))) (wn rfl) rfl (y_build_struct (cells := #[.int .i64 0, .int .i64 q19, .int .i64 q24, .int .u8 0, .int .u8 0, .int .u8 0, .int .u8 0, .int .u8 0, .int .u8 0, .int .u8 0, .int .u8 0, .int .u8 0, .int .u8 0, .int .u8 0, .int .u8 0, .int .u8 0, .int .u8 0, .int .u8 0, .int .u8 0, .int .i64 q29]) [(1, .int .i64 q19), (2, .int .i64 q24), (4, .int .i64 q29)] [(1, [.int .i64 q19]), (2, [.int .i64 q24]), (4, [.int .i64 q29])] Tryz.zeroValue57 Tryz.runUnderlying57 (fs_cons Tryz.sizeOf3 (fs_cons Tryz.sizeOf3 (fs_cons Tryz.sizeOf3 (fs_cons Tryz.sizeOf55 (fs_cons Tryz.sizeOf3 fs_nil))))) rfl (by kernel_rfl) (by kernel_rfl)) ?_
   exact any_weak2 (hK116 b55) [0, 1, 2, 3] (by kernel_rfl) (qv4 rfl rfl rfl rfl) (by decide) rfl
  exact anyo_nil
 refine any_cut2 #[true, true, true, true, true, true, true, true, true, true, true, false, false, false, false] 4 (Unit) (fun σ => [(2, boxP b1 0), (3, v4), (31, .string (bs x26)), (24, .int .i64 q19), (28, .int .i64 q24)]) (fun σ => [globA, box b1 [.int .i64 0, .int .i64 0, .int .i64 0, .int .u8 0, .int .u8 0, .int .u8 0, .int .u8 0, .int .u8 0, .int .u8 0, .int .u8 0, .int .u8 0, .int .u8 0, .int .u8 0, .int .u8 0, .int .u8 0, .int .u8 0, .int .u8 0, .int .u8 0, .int .u8 0, .int .i64 0], row v4 1 (r2.map eStr)]) ?_ (fun hK120 => ?_)
 ·rintro _
  change AnyL _ _ _ _ _ (VF.of [(2, boxP b1 0), (3, v4), (31, .string (bs x26)), (24, .int .i64 q19), (28, .int .i64 q24)]) [globA, box b1 [.int .i64 0, .int .i64 0, .int .i64 0, .int .u8 0, .int .u8 0, .int .u8 0, .int .u8 0, .int .u8 0, .int .u8 0, .int .u8 0, .int .u8 0, .int .u8 0, .int .u8 0, .int .u8 0, .int .u8 0, .int .u8 0, .int .u8 0, .int .u8 0, .int .u8 0, .int .i64 0], row v4 1 (r2.map eStr)] _
  refine any_all [11, 13] (by kernel_rfl) rfl ?_
  refine anyo_cons ?_ ?_
  ·
   refine any_t rfl (wn rfl) rfl (t_callx (vs := [.string (bs x26)]) (cs := []) [(0, 0)] rfl Tryz.call52 rfl (mp_ret (playlist_number_ok x26  hr28)) (showsX_view 0 rfl views_glob showsX_nil) rfl (.inl rfl)) ?_
   rintro _ _ ⟨_, ⟨rfl, rfl⟩, rfl⟩
   refine ⟨(ss (ss (ss (sn)))), ?_⟩
   refine any_y 12 rfl (by kernel_rfl) (by kernel_rfl) (by kernel_rfl) (ss (ss (ss (sn)))) (wn rfl) rfl (y_build_struct (cells := #[.int .i64 0, .int .i64 q19, .int .i64 q24, .int .u8 0, .int .u8 0, .int .u8 0, .int .u8 0, .int .u8 0, .int .u8 0, .int .u8 0, .int .u8 0, .int .u8 0, .int .u8 0, .int .u8 0, .int .u8 0, .int .u8 0, .int .u8 0, .int .u8 0, .int .u8 0, .int .i64 q29]) [(1, .int .i64 q19), (2, .int .i64 q24), (4, .int .i64 q29)] [(1, [.int .i64 q19]), (2, [.int .i64 q24]), (4, [.int .i64 q29])] Tryz.zeroValue57 Tryz.runUnderlying57 (fs_cons Tryz.sizeOf3 (fs_cons Tryz.sizeOf3 (fs_cons Tryz.sizeOf3 (fs_cons Tryz.sizeOf55 (fs_cons Tryz.sizeOf3 fs_nil))))) rfl (by kernel_rfl) (by kernel_rfl)) ?_
   exact any_weak2 (hK117 ()) [0, 1, 2] (by kernel_rfl) (qv3 rfl rfl rfl) (by decide) rfl
  refine anyo_cons ?_ ?_
  ·
   refine any_t rfl (wn rfl) rfl (t_alloc Tryz.zeroValue57) ?_
   rintro _ _ ⟨b121, rfl, rfl⟩
   refine ⟨(ss (ss (ss (sn)))), ?_⟩
   exact any_weak2 (hK119 b121) [0, 1, 2, 3] (by kernel_rfl) (qv6 rfl rfl rfl rfl rfl rfl) (by decide) rfl
  exact anyo_nil
 refine any_cut2 #[true, true, true, true, true, true, true, false, true, true, true, false, false, true, false] 4 (Nat) (fun σ => [(2, boxP b1 0), (3, v4), (27, .string (bs x21)), (31, .string (bs x26)), (24, .int .i64 q19), (4, boxP σ 0)]) (fun σ => [globA, box b1 [.int .i64 0, .int .i64 0, .int .i64 0, .int .u8 0, .int .u8 0, .int .u8 0, .int .u8 0, .int .u8 0, .int .u8 0, .int .u8 0, .int .u8 0, .int .u8 0, .int .u8 0, .int .u8 0, .int .u8 0, .int .u8 0, .int .u8 0, .int .u8 0, .int .u8 0, .int .i64 0], row v4 1 (r2.map eStr), box σ [.int .i64 0, .int .i64 0, .int .i64 0, .int .u8 0, .int .u8 0, .int .u8 0, .int .u8 0, .int .u8 0, .int .u8 0, .int .u8 0, .int .u8 0, .int .u8 0, .int .u8 0, .int .u8 0, .int .u8 0, .int .u8 0, .int .u8 0, .int .u8 0, .int .u8 0, .int .i64 0]]) ?_ (fun hK122 => ?_)
 ·rintro b54
  change AnyL _ _ _ _ _ (VF.of [(2, boxP b1 0), (3, v4), (27, .string (bs x21)), (31, .string (bs x26)), (24, .int .i64 q19), (4, boxP b54 0)]) [globA, box b1 [.int .i64 0, .int .i64 0, .int .i64 0, .int .u8 0, .int .u8 0, .int .u8 0, .int .u8 0, .int .u8 0, .int .u8 0, .int .u8 0, .int .u8 0, .int .u8 0, .int .u8 0, .int .u8 0, .int .u8 0, .int .u8 0, .int .u8 0, .int .u8 0, .int .u8 0, .int .i64 0], row v4 1 (r2.map eStr), box b54 [.int .i64 0, .int .i64 0, .int .i64 0, .int .u8 0, .int .u8 0, .int .u8 0, .int .u8 0, .int .u8 0, .int .u8 0, .int .u8 0, .int .u8 0, .int .u8 0, .int .u8 0, .int .u8 0, .int .u8 0, .int .u8 0, .int .u8 0, .int .u8 0, .int .u8 0, .int .i64 0]] _
  refine any_all [7] (by kernel_rfl) rfl ?_
  refine anyo_cons ?_ ?_
  ·
   refine any_t rfl (wn rfl) rfl (t_callx (vs := [.string (bs x21)]) (cs := []) [(0, 0)] rfl Tryz.call52 rfl (mp_ret (playlist_number_ok x21  hr23)) (showsX_view 0 rfl views_glob showsX_nil) rfl (.inl rfl)) ?_
   rintro _ _ ⟨_, ⟨rfl, rfl⟩, rfl⟩
   refine ⟨(ss (ss (ss (sn)))), ?_⟩
   exact any_weak2 (hK119 b54) [0, 1, 2, 3] (by kernel_rfl) (qv6 rfl rfl rfl rfl rfl rfl) (by decide) rfl
  exact anyo_nil
 refine any_cut2 #[true, true, true, true, true, true, true, false, true, true, true, false, false, false, false] 5 (Unit) (fun σ => [(2, boxP b1 0), (3, v4), (27, .string (bs x21)), (31, .string (bs x26)), (24, .int .i64 q19)]) (fun σ => [globA, box b1 [.int .i64 0, .int .i64 0, .int .i64 0, .int .u8 0, .int .u8 0, .int .u8 0, .int .u8 0, .int .u8 0, .int .u8 0, .int .u8 0, .int .u8 0, .int .u8 0, .int .u8 0, .int .u8 0, .int .u8 0, .int .u8 0, .int .u8 0, .int .u8 0, .int .u8 0, .int .i64 0], row v4 1 (r2.map eStr)]) ?_ (fun hK123 => ?_)
 ·rintro _
  change AnyL _ _ _ _ _ (VF.of [(2, boxP b1 0), (3, v4), (27, .string (bs x21)), (31, .string (bs x26)), (24, .int .i64 q19)]) [globA, box b1 [.int .i64 0, .int .i64 0, .int .i64 0, .int .u8 0, .int .u8 0, .int .u8 0, .int .u8 0, .int .u8 0, .int .u8 0, .int .u8 0, .int .u8 0, .int .u8 0, .int .u8 0, .int .u8 0, .int .u8 0, .int .u8 0, .int .u8 0, .int .u8 0, .int .u8 0, .int .i64 0], row v4 1 (r2.map eStr)] _
  refine any_all [7, 13] (by kernel_rfl) rfl ?_
  refine anyo_cons ?_ ?_
  ·
   refine any_t rfl (wn rfl) rfl (t_callx (vs := [.string (bs x21)]) (cs := []) [(0, 0)] rfl Tryz.call52 rfl (mp_ret (playlist_number_ok x21  hr23)) (showsX_view 0 rfl views_glob showsX_nil) rfl (.inl rfl)) ?_
   rintro _ _ ⟨_, ⟨rfl, rfl⟩, rfl⟩
   refine ⟨(ss (ss (ss (sn)))), ?_⟩
   exact any_weak2 (hK120 ()) [0, 1, 2] (by kernel_rfl) (qv5 rfl rfl rfl rfl rfl) (by decide) rfl
  refine anyo_cons ?_ ?_
  ·
   refine any_t rfl (wn rfl) rfl (t_alloc Tryz.zeroValue57) ?_
   rintro _ _ ⟨b124, rfl, rfl⟩
   refine ⟨(ss (ss (ss (sn)))), ?_⟩
   exact any_weak2 (hK122 b124) [0, 1, 2, 3] (by kernel_rfl) (qv6 rfl rfl rfl rfl rfl rfl) (by decide) rfl
  exact anyo_nil
 refine any_cut2 #[true, true, true, false, true, true, true, false, true, true, true, false, false, true, false] 5 (Nat) (fun σ => [(2, boxP b1 0), (3, v4), (23, .string (bs x16)), (27, .string (bs x21)), (31, .string (bs x26)), (4, boxP σ 0)]) (fun σ => [globA, box b1 [.int .i64 0, .int .i64 0, .int .i64 0, .int .u8 0, .int .u8 0, .int .u8 0, .int .u8 0, .int .u8 0, .int .u8 0, .int .u8 0, .int .u8 0, .int .u8 0, .int .u8 0, .int .u8 0, .int .u8 0, .int .u8 0, .int .u8 0, .int .u8 0, .int .u8 0, .int .i64 0], row v4 1 (r2.map eStr), box σ [.int .i64 0, .int .i64 0, .int .i64 0, .int .u8 0, .int .u8 0, .int .u8 0, .int .u8 0, .int .u8 0, .int .u8 0, .int .u8 0, .int .u8 0, .int .u8 0, .int .u8 0, .int .u8 0, .int .u8 0, .int .u8 0, .int .u8 0, .int .u8 0, .int .u8 0, .int .i64 0]]) ?_ (fun hK125 => ?_)
 ·rintro b53
  change AnyL _ _ _ _ _ (VF.of [(2, boxP b1 0), (3, v4), (23, .string (bs x16)), (27, .string (bs x21)), (31, .string (bs x26)), (4, boxP b53 0)]) [globA, box b1 [.int .i64 0, .int .i64 0, .int .i64 0, .int .u8 0, .int .u8 0, .int .u8 0, .int .u8 0, .int .u8 0, .int .u8 0, .int .u8 0, .int .u8 0, .int .u8 0, .int .u8 0, .int .u8 0, .int .u8 0, .int .u8 0, .int .u8 0, .int .u8 0, .int .u8 0, .int .i64 0], row v4 1 (r2.map eStr), box b53 [.int .i64 0, .int .i64 0, .int .i64 0, .int .u8 0, .int .u8 0, .int .u8 0, .int .u8 0, .int .u8 0, .int .u8 0, .int .u8 0, .int .u8 0, .int .u8 0, .int .u8 0, .int .u8 0, .int .u8 0, .int .u8 0, .int .u8 0, .int .u8 0, .int .u8 0, .int .i64 0]] _
  refine any_all [3] (by kernel_rfl) rfl ?_
  refine anyo_cons ?_ ?_
  ·
   refine any_t rfl (wn rfl) rfl (t_callx (vs := [.string (bs x16)]) (cs := []) [(0, 0)] rfl Tryz.call52 rfl (mp_ret (playlist_number_ok x16  hr18)) (showsX_view 0 rfl views_glob showsX_nil) rfl (.inl rfl)) ?_
   rintro _ _ ⟨_, ⟨rfl, rfl⟩, rfl⟩
   refine ⟨(ss (ss (ss (sn)))), ?_⟩
   exact any_weak2 (hK122 b53) [0, 1, 2, 3] (by kernel_rfl) (qv6 rfl rfl rfl rfl rfl rfl) (by decide) rfl
  exact anyo_nil
 refine any_all [3, 13] (by kernel_rfl) rfl ?_
 refine anyo_cons ?_ ?_
 ·
  refine any_t rfl (wn rfl) rfl (t_callx (vs := [.string (bs x16)]) (cs := []) [(0, 0)] rfl Tryz.call52 rfl (mp_ret (playlist_number_ok x16  hr18)) (showsX_view 0 rfl views_glob showsX_nil) rfl (.inl rfl)) ?_
  rintro _ _ ⟨_, ⟨rfl, rfl⟩, rfl⟩
  refine ⟨(ss (ss (ss (sn)))), ?_⟩
  exact any_weak2 (hK123 ()) [0, 1, 2] (by kernel_rfl) (qv5 rfl rfl rfl rfl rfl) (by decide) rfl
 refine anyo_cons ?_ ?_
 ·
  refine any_t rfl (wn rfl) rfl (t_alloc Tryz.zeroValue57) ?_
  rintro _ _ ⟨b126, rfl, rfl⟩
  refine ⟨(ss (ss (ss (sn)))), ?_⟩
  exact any_weak2 (hK125 b126) [0, 1, 2, 3] (by kernel_rfl) (qv6 rfl rfl rfl rfl rfl rfl) (by decide) rfl
 exact anyo_nil

def playlist_Parse_L1 (n : Nat) (q26 : Int) (l_28 : (List (List UInt8))) : (Int × (List S_api_Segment)) → Option (Lp (Int × (List S_api_Segment)) (Lp ((List S_api_Segment)) (S_api_Playlist × Int))) :=
 fun (s_53, x_54) =>
  cond (decide (s_53 < (l_28.length : Int)))
   (idx l_28 s_53 fun x61 =>
   obind (playlist_segment n x61) fun r62 =>
   pbind r62 (fun e65 =>
    some (.stop (.stop ((S_api_Playlist.mk 0 ([] : List S_api_Segment) false), e65)))) fun q64 =>
   need (x_54.length + ([(S_api_Segment.mk (IntKind.i64.wrap (q26 + s_53)) q64.Begin q64.Len q64.Body q64.Size)] : List S_api_Segment).length ≤ 4294967296) (
   some (.go ((IntKind.i64.wrap (s_53 + 1)), (x_54 ++ ([(S_api_Segment.mk (IntKind.i64.wrap (q26 + s_53)) q64.Begin q64.Len q64.Body q64.Size)] : List S_api_Segment))))))
   (some (.stop (.go x_54)))
def playlist_Parse (n : Nat) (s_0 : (List UInt8)) : Option (S_api_Playlist × Int) :=
 cond (decide (65536 < (s_0.length : Int)))
  (some ((S_api_Playlist.mk 0 ([] : List S_api_Segment) false), 2))
  (obind (splitH s_0 [10]) fun r4 =>
  idx r4 (IntKind.i64.wrap ((r4.length : Int) - 1)) fun x7 =>
  obind (playlist_must (decide (x7 = []))) fun r8 =>
  pbind r8 (fun e11 =>
   some ((S_api_Playlist.mk 0 ([] : List S_api_Segment) false), e11)) fun q10 =>
  need (0 ≤ (0 : Int) ∧ 0 ≤ (IntKind.i64.wrap ((r4.length : Int) - 1)) ∧ (IntKind.i64.wrap ((r4.length : Int) - 1)) ≤ (r4.length : Int)) (
  obind (playlist_must (decide (0 < ((r4.take (((IntKind.i64.wrap ((r4.length : Int) - 1))).toNat)).length : Int)))) fun r13 =>
  pbind r13 (fun e16 =>
   some ((S_api_Playlist.mk 0 ([] : List S_api_Segment) false), e16)) fun q15 =>
  idx (r4.take (((IntKind.i64.wrap ((r4.length : Int) - 1))).toNat)) 0 fun x17 =>
  obind (strings_CutPrefix_51 x17 [108, 105, 118, 101, 32]) fun r18 =>
  obind (playlist_must r18.2) fun r20 =>
  pbind r20 (fun e23 =>
   some ((S_api_Playlist.mk 0 ([] : List S_api_Segment) false), e23)) fun q22 =>
  obind (playlist_number r18.1) fun r24 =>
  pbind r24 (fun e27 =>
   some ((S_api_Playlist.mk 0 ([] : List S_api_Segment) false), e27)) fun q26 =>
  bindJ (S := (List (List UInt8)) × Bool)
   (need (0 ≤ (1 : Int) ∧ 1 ≤ ((r4.take (((IntKind.i64.wrap ((r4.length : Int) - 1))).toNat)).length : Int) ∧ ((r4.take (((IntKind.i64.wrap ((r4.length : Int) - 1))).toNat)).length : Int) ≤ ((r4.take (((IntKind.i64.wrap ((r4.length : Int) - 1))).toNat)).length : Int)) (
   bindJ (S := Bool)
    (cond (decide (0 < (((r4.take (((IntKind.i64.wrap ((r4.length : Int) - 1))).toNat)).drop ((1 : Int).toNat)).length : Int)))
     (idx ((r4.take (((IntKind.i64.wrap ((r4.length : Int) - 1))).toNat)).drop ((1 : Int).toNat)) (IntKind.i64.wrap ((((r4.take (((IntKind.i64.wrap ((r4.length : Int) - 1))).toNat)).drop ((1 : Int).toNat)).length : Int) - 1)) fun x42 =>
     some (.go (decide (x42 = [100, 111, 110, 101]))))
     (some (.go false)))
   (fun b36 =>
    cond b36
     (need (0 ≤ (0 : Int) ∧ 0 ≤ (IntKind.i64.wrap ((((r4.take (((IntKind.i64.wrap ((r4.length : Int) - 1))).toNat)).drop ((1 : Int).toNat)).length : Int) - 1)) ∧ (IntKind.i64.wrap ((((r4.take (((IntKind.i64.wrap ((r4.length : Int) - 1))).toNat)).drop ((1 : Int).toNat)).length : Int) - 1)) ≤ (((r4.take (((IntKind.i64.wrap ((r4.length : Int) - 1))).toNat)).drop ((1 : Int).toNat)).length : Int)) (
     some (.go ((((r4.take (((IntKind.i64.wrap ((r4.length : Int) - 1))).toNat)).drop ((1 : Int).toNat)).take (((IntKind.i64.wrap ((((r4.take (((IntKind.i64.wrap ((r4.length : Int) - 1))).toNat)).drop ((1 : Int).toNat)).length : Int) - 1))).toNat)), true))))
     (some (.go (((r4.take (((IntKind.i64.wrap ((r4.length : Int) - 1))).toNat)).drop ((1 : Int).toNat)), false))))))
  (fun (l_28, x_29) =>
   bindJ (S := (List S_api_Segment))
    (iter (playlist_Parse_L1 n q26 l_28) n (0, ([] : List S_api_Segment)))
   (fun x_47 =>
    obind (playlist_Valid n (S_api_Playlist.mk q26 x_47 x_29)) fun r71 =>
    obind (playlist_must r71) fun r73 =>
    pbind r73 (fun e76 =>
     some ((S_api_Playlist.mk 0 ([] : List S_api_Segment) false), e76)) fun q75 =>
    some ((S_api_Playlist.mk q26 x_47 x_29), 0)))))
theorem playlist_Parse_ok (n : Nat) (s_0 : (List UInt8))  {r : S_api_Playlist × Int} (h : playlist_Parse n s_0 = some r) :
  Meets Tryz.prog 14 [.string (bs s_0)] [globA] (fun v G => ∃ v0, v = .tuple #[.agg #[.int .i64 r.1.First, v0, .bool r.1.Done], .int .i64 r.2] ∧ G = [row v0 20 (r.1.L.map S_api_Segment.enc)]) := by
 refine fnq_of_run Tryz.func14 rfl Tryz.ntmps14 rfl (fun w0 o0 => ?_)
 refine run_seq ?_
 refine run_region' ?_
 refine ot rfl rfl (t_alloc Tryz.zeroValue24) ?_
 rintro _ _ ⟨b1, rfl, rfl⟩
 refine ot rfl rfl (t_alloc Tryz.zeroValue27) ?_
 rintro _ _ ⟨b2, rfl, rfl⟩
 refine ops_nil ?_
 refine goes_code ?_
 refine run_seq ?_
 refine run_seq ?_
 refine run_region' ?_
 refine oy rfl rfl (y_move rfl) ?_
 refine oy rfl rfl (y_len_str rfl Tryz.runUnderlying9 rfl) ?_
 refine oy rfl rfl (y_gtr rfl rfl) ?_
 refine ops_nil ?_
 refine goes_code ?_
 refine run_cond (decide (65536 < (s_0.length : Int))) rfl (fun hc3 => ?_) (fun hc3 => ?_)
 ·replace h := cond_t h hc3
  refine run_seq ?_
  refine run_region' ?_
  refine oy rfl rfl (y_build_struct (cells := #[.int .i64 0, .slice none 0 0, .bool false]) [] [] Tryz.zeroValue24 Tryz.runUnderlying24 (fs_cons Tryz.sizeOf3 (fs_cons Tryz.sizeOf22 (fs_cons Tryz.sizeOf4 fs_nil))) rfl rfl rfl) ?_
  refine ot rfl rfl (t_store 1 Tryz.sizeOf24 rfl rfl rfl rfl (by simp [Value.cells, boxP]) (by simp [Value.cells, Value.oneCell', boxP])) ?_
  rintro _ _ ⟨rfl, rfl⟩
  refine ops_turn (retell 1 (g := box b1 [.int .i64 0, .slice none 0 0, .bool false]) rfl rfl) ?_
  refine ot rfl rfl (t_store 2 Tryz.sizeOf27 rfl rfl rfl rfl (by simp [Value.cells, boxP]) (by simp [Value.cells, Value.oneCell', boxP])) ?_
  rintro _ _ ⟨rfl, rfl⟩
  refine ops_turn (retell 2 (g := box b2 [.int .i64 2]) rfl rfl) ?_
  refine ops_nil ?_
  refine goes_code ?_
  refine run_ret ?_
  refine fin_turn (nilrow 20) ?_
  refine fin_turn (retell 3 (g := row (.slice none 0 0) 20 (([] : List S_api_Segment).map S_api_Segment.enc)) rfl rfl) ?_
  obtain rfl := some_eq h
  refine fin_resQ [.cell 2 24, .cell 3 27] [.agg #[.int .i64 0, (.slice none 0 0), .bool false], .int .i64 2] [3] [row (.slice none 0 0) 20 (([] : List S_api_Segment).map S_api_Segment.enc)] Tryz.results14 rfl (rescons (res_box 1 Tryz.isAgg24 Tryz.sizeOf24 rfl rfl rfl) (rescons (res_boxs 2 Tryz.isAgg27 rfl rfl) resnil)) (by decide) rfl ?_
  exact ⟨_, rfl, rfl⟩
 ·replace h := cond_f h hc3
  refine run_skip ?_
  refine goes_code ?_
  refine run_seq ?_
  refine run_region' ?_
  refine oy rfl rfl (y_makeFunc (vs := [boxP b1 0, boxP b2 0]) rfl) ?_
  refine ops_defer (wn rfl) rfl rfl rfl rfl ?_
  refine ops_nil ?_
  refine goes_code ?_
  refine run_seq ?_
  refine run_region' ?_
  refine oy rfl rfl (y_move rfl) ?_
  obtain ⟨r4, hr5, h⟩ := obind_some h
  refine ot rfl rfl (t_callx (vs := [.string (bs s_0), .string (bs [10])]) (cs := []) [(0, 0)] rfl Tryz.call49 rfl (splitH_ok s_0 [10]  hr5) (showsX_view 0 rfl views_glob showsX_nil) rfl (.inl rfl)) ?_
  rintro v6 _ ⟨_, ⟨_, rfl, rfl⟩, rfl⟩
  refine oy rfl rfl (y_assign rfl) ?_
  refine ops_nil ?_
  refine goes_code ?_
  refine run_seq ?_
  refine run_weak [(2, boxP b1 0), (3, boxP b2 0), (4, v6)] [0, 1, 2, 3] [globA, box b1 [.int .i64 0, .slice none 0 0, .bool false], box b2 [.int .i64 0], row v6 1 (r4.map eStr)] (qv3 rfl rfl rfl) (by decide) rfl ?_
  refine run_region' ?_
  refine oy rfl rfl (y_move rfl) ?_
  refine oy rfl rfl (y_move rfl) ?_
  refine oy rfl rfl ((y_len 3 rfl Tryz.runUnderlying81 rfl rfl reads_row).to (v_len eStr _)) ?_
  refine oy rfl rfl (y_sub rfl rfl) ?_
  obtain ⟨x7, hzx7, hlx7, hxx7, h⟩ := idx_some h
  refine oy rfl rfl (y_indexAddrI (kd := .i64) (i := (IntKind.i64.wrap ((r4.length : Int) - 1))) 3 Tryz.runUnderlying81 Tryz.sizeOf9 rfl rfl rfl reads_row hzx7 (map_lt hlx7)) ?_
  refine oy rfl rfl (y_load_elem (i := ((IntKind.i64.wrap ((r4.length : Int) - 1))).toNat) 3 Tryz.isAgg9 rfl rfl reads_row (map_get hxx7)) ?_
  refine oy rfl rfl (y_seql rfl rfl) ?_
  obtain ⟨r8, hr9, h⟩ := obind_some h
  rcases r8 with q10 | e11
  rotate_left
  ·replace h := pbind_pan h
   refine ops_tp (wn rfl) rfl (t_callp (vs := [.bool (decide (x7 = []))]) (cs := []) [] rfl Tryz.call50 rfl (playlist_must_ok (decide (x7 = []))  hr9) showsX_nil rfl (.inl rfl)) (by rintro _ _ ⟨_, ⟨_, hq, _⟩, _⟩; cases hq) ?_
   rintro _ ⟨_, he, rfl⟩
   obtain rfl := Pn.pan.inj he
   refine finP_rec Tryz.call48 (parseRec_pan b1 b2 e11 1 2 rfl rfl rfl (by decide)) ?_
   refine fin_turn (nilrow 20) ?_
   refine fin_turn (retell 4 (g := row (.slice none 0 0) 20 (([] : List S_api_Segment).map S_api_Segment.enc)) rfl rfl) ?_
   obtain rfl := some_eq h
   refine fin_resQ [.cell 2 24, .cell 3 27] [.agg #[.int .i64 0, (.slice none 0 0), .bool false], .int .i64 e11] [4] [row (.slice none 0 0) 20 (([] : List S_api_Segment).map S_api_Segment.enc)] Tryz.results14 rfl (rescons (res_box 1 Tryz.isAgg24 Tryz.sizeOf24 rfl rfl rfl) (rescons (res_boxs 2 Tryz.isAgg27 rfl rfl) resnil)) (by decide) rfl ?_
   exact ⟨_, rfl, rfl⟩
  replace h := pbind_ret h
  refine ot rfl rfl (t_callx (vs := [.bool (decide (x7 = []))]) (cs := []) [] rfl Tryz.call50 rfl (mp_ret (playlist_must_ok (decide (x7 = []))  hr9)) showsX_nil rfl (.inl rfl)) ?_
  rintro _ _ ⟨_, ⟨rfl, rfl⟩, rfl⟩
  refine ops_nil ?_
  refine goes_code ?_
  refine run_seq ?_
  refine run_weak [(2, boxP b1 0), (3, boxP b2 0), (4, v6)] [0, 1, 2, 3] [globA, box b1 [.int .i64 0, .slice none 0 0, .bool false], box b2 [.int .i64 0], row v6 1 (r4.map eStr)] (qv3 rfl rfl rfl) (by decide) rfl ?_
  refine run_region' ?_
  refine oy rfl rfl (y_move rfl) ?_
  refine oy rfl rfl (y_move rfl) ?_
  refine oy rfl rfl ((y_len 3 rfl Tryz.runUnderlying81 rfl rfl reads_row).to (v_len eStr _)) ?_
  refine oy rfl rfl (y_sub rfl rfl) ?_
  obtain ⟨hb12, h⟩ := need_some h
  refine ops_turn (Go.Abs.freeze 3 rfl) ?_
  refine oy rfl rfl (y_slice (l := 0) (r := (IntKind.i64.wrap ((r4.length : Int) - 1))) 3 Tryz.runUnderlying81 Tryz.sizeOf9 rfl rfl reads_ro bi0 (bi1 (kd := .i64) rfl) hb12.1 hb12.2.1 (map_len_le hb12.2.2)) ?_
  refine ops_turn (turn_sub (l := (0 : Int).toNat) (r := ((IntKind.i64.wrap ((r4.length : Int) - 1))).toNat) 3 rfl (by omega) (map_toNat_le hb12.2.2)) ?_
  refine ops_turn (retell 4 (g := ro (subS v6 1 ((0 : Int).toNat) (((IntKind.i64.wrap ((r4.length : Int) - 1))).toNat)) 1 ((r4.take (((IntKind.i64.wrap ((r4.length : Int) - 1))).toNat)).map eStr)) rfl (congrArg (ro _ _) (sub_hi _ _ _))) ?_
  refine oy rfl rfl (y_assign rfl) ?_
  refine ops_nil ?_
  refine goes_code ?_
  refine run_seq ?_
  refine run_region' ?_
  refine oy rfl rfl (y_move rfl) ?_
  refine oy rfl rfl ((y_len 4 rfl Tryz.runUnderlying81 rfl rfl reads_ro).to (v_len eStr _)) ?_
  refine oy rfl rfl (y_gtr rfl rfl) ?_
  obtain ⟨r13, hr14, h⟩ := obind_some h
  rcases r13 with q15 | e16
  rotate_left
  ·replace h := pbind_pan h
   refine ops_tp (wn rfl) rfl (t_callp (vs := [.bool (decide (0 < ((r4.take (((IntKind.i64.wrap ((r4.length : Int) - 1))).toNat)).length : Int)))]) (cs := []) [] rfl Tryz.call50 rfl (playlist_must_ok (decide (0 < ((r4.take (((IntKind.i64.wrap ((r4.length : Int) - 1))).toNat)).length : Int)))  hr14) showsX_nil rfl (.inl rfl)) (by rintro _ _ ⟨_, ⟨_, hq, _⟩, _⟩; cases hq) ?_
   rintro _ ⟨_, he, rfl⟩
   obtain rfl := Pn.pan.inj he
   refine finP_rec Tryz.call48 (parseRec_pan b1 b2 e16 1 2 rfl rfl rfl (by decide)) ?_
   refine fin_turn (nilrow 20) ?_
   refine fin_turn (retell 5 (g := row (.slice none 0 0) 20 (([] : List S_api_Segment).map S_api_Segment.enc)) rfl rfl) ?_
   obtain rfl := some_eq h
   refine fin_resQ [.cell 2 24, .cell 3 27] [.agg #[.int .i64 0, (.slice none 0 0), .bool false], .int .i64 e16] [5] [row (.slice none 0 0) 20 (([] : List S_api_Segment).map S_api_Segment.enc)] Tryz.results14 rfl (rescons (res_box 1 Tryz.isAgg24 Tryz.sizeOf24 rfl rfl rfl) (rescons (res_boxs 2 Tryz.isAgg27 rfl rfl) resnil)) (by decide) rfl ?_
   exact ⟨_, rfl, rfl⟩
  replace h := pbind_ret h
  refine ot rfl rfl (t_callx (vs := [.bool (decide (0 < ((r4.take (((IntKind.i64.wrap ((r4.length : Int) - 1))).toNat)).length : Int)))]) (cs := []) [] rfl Tryz.call50 rfl (mp_ret (playlist_must_ok (decide (0 < ((r4.take (((IntKind.i64.wrap ((r4.length : Int) - 1))).toNat)).length : Int)))  hr14)) showsX_nil rfl (.inl rfl)) ?_
  rintro _ _ ⟨_, ⟨rfl, rfl⟩, rfl⟩
  refine ops_nil ?_
  refine goes_code ?_
  refine run_seq ?_
  refine run_weak [(2, boxP b1 0), (3, boxP b2 0), (4, (subS v6 1 ((0 : Int).toNat) (((IntKind.i64.wrap ((r4.length : Int) - 1))).toNat)))] [0, 1, 2, 4] [globA, box b1 [.int .i64 0, .slice none 0 0, .bool false], box b2 [.int .i64 0], ro (subS v6 1 ((0 : Int).toNat) (((IntKind.i64.wrap ((r4.length : Int) - 1))).toNat)) 1 ((r4.take (((IntKind.i64.wrap ((r4.length : Int) - 1))).toNat)).map eStr)] (qv3 rfl rfl rfl) (by decide) rfl ?_
  refine run_region' ?_
  refine oy rfl rfl (y_move rfl) ?_
  obtain ⟨x17, hzx17, hlx17, hxx17, h⟩ := idx_some h
  refine oy rfl rfl (y_indexAddrI (kd := .i64) (i := 0) 3 Tryz.runUnderlying81 Tryz.sizeOf9 rfl rfl rfl reads_ro hzx17 (map_lt hlx17)) ?_
  refine oy rfl rfl (y_load_elem (i := (0 : Int).toNat) 3 Tryz.isAgg9 rfl rfl reads_ro (map_get hxx17)) ?_
  obtain ⟨r18, hr19, h⟩ := obind_some h
  refine ot rfl rfl (t_callx (vs := [.string (bs x17), .string (bs [108, 105, 118, 101, 32])]) (cs := []) [] rfl Tryz.call51 rfl (strings_CutPrefix_51_ok x17 [108, 105, 118, 101, 32]  hr19) showsX_nil rfl (.inl rfl)) ?_
  rintro _ _ ⟨_, ⟨rfl, rfl⟩, rfl⟩
  refine oy rfl rfl (y_move rfl) ?_
  refine oy rfl rfl (y_extract rfl rfl) ?_
  refine oy rfl rfl (y_extract rfl rfl) ?_
  refine oy rfl rfl (y_assign rfl) ?_
  refine oy rfl rfl (y_assign rfl) ?_
  refine ops_nil ?_
  refine goes_code ?_
  refine run_seq ?_
  refine run_weak [(2, boxP b1 0), (3, boxP b2 0), (4, (subS v6 1 ((0 : Int).toNat) (((IntKind.i64.wrap ((r4.length : Int) - 1))).toNat))), (5, .string (bs r18.1)), (6, .bool r18.2)] [0, 1, 2, 3] [globA, box b1 [.int .i64 0, .slice none 0 0, .bool false], box b2 [.int .i64 0], ro (subS v6 1 ((0 : Int).toNat) (((IntKind.i64.wrap ((r4.length : Int) - 1))).toNat)) 1 ((r4.take (((IntKind.i64.wrap ((r4.length : Int) - 1))).toNat)).map eStr)] (qv5 rfl rfl rfl rfl rfl) (by decide) rfl ?_
  refine run_region' ?_
  refine oy rfl rfl (y_move rfl) ?_
  obtain ⟨r20, hr21, h⟩ := obind_some h
  rcases r20 with q22 | e23
  rotate_left
  ·replace h := pbind_pan h
   refine ops_tp (wn rfl) rfl (t_callp (vs := [.bool r18.2]) (cs := []) [] rfl Tryz.call50 rfl (playlist_must_ok r18.2  hr21) showsX_nil rfl (.inl rfl)) (by rintro _ _ ⟨_, ⟨_, hq, _⟩, _⟩; cases hq) ?_
   rintro _ ⟨_, he, rfl⟩
   obtain rfl := Pn.pan.inj he
   refine finP_rec Tryz.call48 (parseRec_pan b1 b2 e23 1 2 rfl rfl rfl (by decide)) ?_
   refine fin_turn (nilrow 20) ?_
   refine fin_turn (retell 4 (g := row (.slice none 0 0) 20 (([] : List S_api_Segment).map S_api_Segment.enc)) rfl rfl) ?_
   obtain rfl := some_eq h
   refine fin_resQ [.cell 2 24, .cell 3 27] [.agg #[.int .i64 0, (.slice none 0 0), .bool false], .int .i64 e23] [4] [row (.slice none 0 0) 20 (([] : List S_api_Segment).map S_api_Segment.enc)] Tryz.results14 rfl (rescons (res_box 1 Tryz.isAgg24 Tryz.sizeOf24 rfl rfl rfl) (rescons (res_boxs 2 Tryz.isAgg27 rfl rfl) resnil)) (by decide) rfl ?_
   exact ⟨_, rfl, rfl⟩
  replace h := pbind_ret h
  refine ot rfl rfl (t_callx (vs := [.bool r18.2]) (cs := []) [] rfl Tryz.call50 rfl (mp_ret (playlist_must_ok r18.2  hr21)) showsX_nil rfl (.inl rfl)) ?_
  rintro _ _ ⟨_, ⟨rfl, rfl⟩, rfl⟩
  refine ops_nil ?_
  refine goes_code ?_
  refine run_seq ?_
  refine run_region' ?_
  refine oy rfl rfl (y_move rfl) ?_
  obtain ⟨r24, hr25, h⟩ := obind_some h
  rcases r24 with q26 | e27
  rotate_left
  ·replace h := pbind_pan h
   refine ops_tp (wn rfl) rfl (t_callp (vs := [.string (bs r18.1)]) (cs := []) [(0, 0)] rfl Tryz.call52 rfl (playlist_number_ok r18.1  hr25) (showsX_view 0 rfl views_glob showsX_nil) rfl (.inl rfl)) (by rintro _ _ ⟨_, ⟨_, hq, _⟩, _⟩; cases hq) ?_
   rintro _ ⟨_, he, rfl⟩
   obtain rfl := Pn.pan.inj he
   refine finP_rec Tryz.call48 (parseRec_pan b1 b2 e27 1 2 rfl rfl rfl (by decide)) ?_
   refine fin_turn (nilrow 20) ?_
   refine fin_turn (retell 4 (g := row (.slice none 0 0) 20 (([] : List S_api_Segment).map S_api_Segment.enc)) rfl rfl) ?_
   obtain rfl := some_eq h
   refine fin_resQ [.cell 2 24, .cell 3 27] [.agg #[.int .i64 0, (.slice none 0 0), .bool false], .int .i64 e27] [4] [row (.slice none 0 0) 20 (([] : List S_api_Segment).map S_api_Segment.enc)] Tryz.results14 rfl (rescons (res_box 1 Tryz.isAgg24 Tryz.sizeOf24 rfl rfl rfl) (rescons (res_boxs 2 Tryz.isAgg27 rfl rfl) resnil)) (by decide) rfl ?_
   exact ⟨_, rfl, rfl⟩
  replace h := pbind_ret h
  refine ot rfl rfl (t_callx (vs := [.string (bs r18.1)]) (cs := []) [(0, 0)] rfl Tryz.call52 rfl (mp_ret (playlist_number_ok r18.1  hr25)) (showsX_view 0 rfl views_glob showsX_nil) rfl (.inl rfl)) ?_
  rintro _ _ ⟨_, ⟨rfl, rfl⟩, rfl⟩
  refine oy rfl rfl (y_fieldAddr_box (sz := 0) Tryz.runUnderlying24 rfl Tryz.sizeOf3 rfl) ?_
  refine ot rfl rfl (t_store 1 Tryz.sizeOf3 rfl rfl rfl rfl (by simp [Value.cells, boxP]) (by simp [Value.cells, Value.oneCell', boxP])) ?_
  rintro _ _ ⟨rfl, rfl⟩
  refine ops_turn (retell 1 (g := box b1 [.int .i64 q26, .slice none 0 0, .bool false]) rfl rfl) ?_
  refine ops_nil ?_
  refine goes_code ?_
  obtain ⟨o31, h, ho32⟩ := bindJ_some h
  refine run_cut (((List (List UInt8)) × Bool) × (Value)) (fun σ => [(4, σ.2), (2, boxP b1 0), (3, boxP b2 0)]) (fun σ => [ro σ.2 1 (σ.1.1.map eStr), box b1 [.int .i64 q26, .slice none 0 0, .bool σ.1.2], box b2 [.int .i64 0], globA]) (fun σ => o31 = .go σ.1) (fun L34 hL33 => ?_) ?_
  ·
   refine run_seq ?_
   refine run_region' ?_
   refine oy rfl rfl (y_move rfl) ?_
   obtain ⟨hb35, h⟩ := need_some h
   refine oy rfl rfl (y_slice (l := 1) (r := ((r4.take (((IntKind.i64.wrap ((r4.length : Int) - 1))).toNat)).length : Int)) 3 Tryz.runUnderlying81 Tryz.sizeOf9 rfl rfl reads_ro (bi1 (kd := .i64) rfl) bi0m hb35.1 hb35.2.1 (map_len_le hb35.2.2)) ?_
   refine ops_turn (turn_sub (l := (1 : Int).toNat) (r := (((r4.take (((IntKind.i64.wrap ((r4.length : Int) - 1))).toNat)).length : Int)).toNat) 3 rfl (by omega) (map_toNat_le hb35.2.2)) ?_
   refine ops_turn (retell 4 (g := ro (subS (subS v6 1 ((0 : Int).toNat) (((IntKind.i64.wrap ((r4.length : Int) - 1))).toNat)) 1 ((1 : Int).toNat) ((((r4.take (((IntKind.i64.wrap ((r4.length : Int) - 1))).toNat)).length : Int)).toNat)) 1 (((r4.take (((IntKind.i64.wrap ((r4.length : Int) - 1))).toNat)).drop ((1 : Int).toNat)).map eStr)) rfl (congrArg (ro _ _) (sub_lo _ _ _))) ?_
   refine oy rfl rfl (y_assign rfl) ?_
   refine ops_nil ?_
   refine goes_code ?_
   refine run_seq ?_
   refine run_weak [(2, boxP b1 0), (3, boxP b2 0), (4, (subS (subS v6 1 ((0 : Int).toNat) (((IntKind.i64.wrap ((r4.length : Int) - 1))).toNat)) 1 ((1 : Int).toNat) ((((r4.take (((IntKind.i64.wrap ((r4.length : Int) - 1))).toNat)).length : Int)).toNat)))] [0, 1, 2, 4] [globA, box b1 [.int .i64 q26, .slice none 0 0, .bool false], box b2 [.int .i64 0], ro (subS (subS v6 1 ((0 : Int).toNat) (((IntKind.i64.wrap ((r4.length : Int) - 1))).toNat)) 1 ((1 : Int).toNat) ((((r4.take (((IntKind.i64.wrap ((r4.length : Int) - 1))).toNat)).length : Int)).toNat)) 1 (((r4.take (((IntKind.i64.wrap ((r4.length : Int) - 1))).toNat)).drop ((1 : Int).toNat)).map eStr)] (qv3 rfl rfl rfl) (by decide) rfl ?_
   refine run_region' ?_
   refine oy rfl rfl (y_move rfl) ?_
   refine oy rfl rfl ((y_len 3 rfl Tryz.runUnderlying81 rfl rfl reads_ro).to (v_len eStr _)) ?_
   refine oy rfl rfl (y_gtr rfl rfl) ?_
   refine oy rfl rfl (y_move rfl) ?_
   obtain ⟨o37, h, ho38⟩ := bindJ_some h
   refine ops_cut 8 (Bool) (fun σ => [(2, boxP b1 0), (3, boxP b2 0), (4, (subS (subS v6 1 ((0 : Int).toNat) (((IntKind.i64.wrap ((r4.length : Int) - 1))).toNat)) 1 ((1 : Int).toNat) ((((r4.take (((IntKind.i64.wrap ((r4.length : Int) - 1))).toNat)).length : Int)).toNat))), (59, .bool σ)]) (fun σ => [globA, box b1 [.int .i64 q26, .slice none 0 0, .bool false], box b2 [.int .i64 0], ro (subS (subS v6 1 ((0 : Int).toNat) (((IntKind.i64.wrap ((r4.length : Int) - 1))).toNat)) 1 ((1 : Int).toNat) ((((r4.take (((IntKind.i64.wrap ((r4.length : Int) - 1))).toNat)).length : Int)).toNat)) 1 (((r4.take (((IntKind.i64.wrap ((r4.length : Int) - 1))).toNat)).drop ((1 : Int).toNat)).map eStr)]) (fun σ => o37 = .go σ) (fun L39 hL40 => ?_) ?_
   ·refine ops_split 51 (decide (0 < (((r4.take (((IntKind.i64.wrap ((r4.length : Int) - 1))).toNat)).drop ((1 : Int).toNat)).length : Int))) rfl (fun hg41 => ?_) (fun hg41 => ?_)
    ·replace h := cond_t h hg41
     refine ops_y (wg 3 true 51 rfl rfl rfl rfl) rfl (y_move rfl) ?_
     refine ops_y (wg 3 true 51 rfl rfl rfl rfl) rfl (y_move rfl) ?_
     refine ops_y (wg 3 true 51 rfl rfl rfl rfl) rfl ((y_len 3 rfl Tryz.runUnderlying81 rfl rfl reads_ro).to (v_len eStr _)) ?_
     refine ops_y (wg 3 true 51 rfl rfl rfl rfl) rfl (y_sub rfl rfl) ?_
     obtain ⟨x42, hzx42, hlx42, hxx42, h⟩ := idx_some h
     refine ops_y (wg 3 true 51 rfl rfl rfl rfl) rfl (y_indexAddrI (kd := .i64) (i := (IntKind.i64.wrap ((((r4.take (((IntKind.i64.wrap ((r4.length : Int) - 1))).toNat)).drop ((1 : Int).toNat)).length : Int) - 1))) 3 Tryz.runUnderlying81 Tryz.sizeOf9 rfl rfl rfl reads_ro hzx42 (map_lt hlx42)) ?_
     refine ops_y (wg 3 true 51 rfl rfl rfl rfl) rfl (y_load_elem (i := ((IntKind.i64.wrap ((((r4.take (((IntKind.i64.wrap ((r4.length : Int) - 1))).toNat)).drop ((1 : Int).toNat)).length : Int) - 1))).toNat) 3 Tryz.isAgg9 rfl rfl reads_ro (map_get hxx42)) ?_
     refine ops_y (wg 3 true 51 rfl rfl rfl rfl) rfl (y_seql rfl rfl) ?_
     refine oy rfl rfl (y_pick (b := true) rfl rfl) ?_
     refine ops_nil ?_
     obtain rfl := some_eq h
     exact goes_cut hL40 (decide (x42 = [100, 111, 110, 101])) [0, 1, 2, 3] (qv4 rfl rfl rfl rfl) (by decide) rfl rfl
    ·replace h := cond_f h hg41
     refine ops_no 3 true 51 rfl rfl rfl rfl rfl ?_
     refine ops_no 3 true 51 rfl rfl rfl rfl rfl ?_
     refine ops_no 3 true 51 rfl rfl rfl rfl rfl ?_
     refine ops_no 3 true 51 rfl rfl rfl rfl rfl ?_
     refine ops_no 3 true 51 rfl rfl rfl rfl rfl ?_
     refine ops_no 3 true 51 rfl rfl rfl rfl rfl ?_
     refine ops_no 3 true 51 rfl rfl rfl rfl rfl ?_
     refine oy rfl rfl (y_pick (b := false) rfl rfl) ?_
     refine ops_nil ?_
     obtain rfl := some_eq h
     exact goes_cut hL40 false [0, 1, 2, 3] (qv4 rfl rfl rfl rfl) (by decide) rfl rfl
   rintro b36 hj
   obtain rfl : o37 = _ := hj
   replace h := after_go ho38
   clear ho38
   refine ops_nil ?_
   refine goes_code ?_
   refine run_cond b36 rfl (fun hc43 => ?_) (fun hc43 => ?_)
   ·replace h := cond_t h hc43
    refine run_calm (fun L44 hL45 => ?_)
    refine run_drawany [globA, HA.emp, box b2 [.int .i64 0], ro (subS (subS v6 1 ((0 : Int).toNat) (((IntKind.i64.wrap ((r4.length : Int) - 1))).toNat)) 1 ((1 : Int).toNat) ((((r4.take (((IntKind.i64.wrap ((r4.length : Int) - 1))).toNat)).length : Int)).toNat)) 1 (((r4.take (((IntKind.i64.wrap ((r4.length : Int) - 1))).toNat)).drop ((1 : Int).toNat)).map eStr)] (by kernel_rfl) ?_
    refine any_y 0 rfl (by kernel_rfl) (by kernel_rfl) (by kernel_rfl) (ss (se (ss (ss (sn))))) (wn rfl) rfl (y_move rfl) ?_
    refine any_y 1 rfl (by kernel_rfl) (by kernel_rfl) (by kernel_rfl) (ss (se (ss (ss (sn))))) (wn rfl) rfl (y_move rfl) ?_
    refine any_y 2 rfl (by kernel_rfl) (by kernel_rfl) (by kernel_rfl) (ss (se (ss (ss (sn))))) (wn rfl) rfl ((y_len 3 rfl Tryz.runUnderlying81 rfl rfl reads_ro).to (v_len eStr _)) ?_
    refine any_y 3 rfl (by kernel_rfl) (by kernel_rfl) (by kernel_rfl) (ss (se (ss (ss (sn))))) (wn rfl) rfl (y_sub rfl rfl) ?_
    obtain ⟨hb46, h⟩ := need_some h
    refine any_y 4 rfl (by kernel_rfl) (by kernel_rfl) (by kernel_rfl) (ss (se (ss (ss (sn))))) (wn rfl) rfl (y_slice (l := 0) (r := (IntKind.i64.wrap ((((r4.take (((IntKind.i64.wrap ((r4.length : Int) - 1))).toNat)).drop ((1 : Int).toNat)).length : Int) - 1))) 3 Tryz.runUnderlying81 Tryz.sizeOf9 rfl rfl reads_ro bi0 (bi1 (kd := .i64) rfl) hb46.1 hb46.2.1 (map_len_le hb46.2.2)) ?_
    refine any_turn (turn_sub (l := (0 : Int).toNat) (r := ((IntKind.i64.wrap ((((r4.take (((IntKind.i64.wrap ((r4.length : Int) - 1))).toNat)).drop ((1 : Int).toNat)).length : Int) - 1))).toNat) 3 rfl (by omega) (map_toNat_le hb46.2.2)) ?_
    refine any_turn (retell 4 (g := ro (subS (subS (subS v6 1 ((0 : Int).toNat) (((IntKind.i64.wrap ((r4.length : Int) - 1))).toNat)) 1 ((1 : Int).toNat) ((((r4.take (((IntKind.i64.wrap ((r4.length : Int) - 1))).toNat)).length : Int)).toNat)) 1 ((0 : Int).toNat) (((IntKind.i64.wrap ((((r4.take (((IntKind.i64.wrap ((r4.length : Int) - 1))).toNat)).drop ((1 : Int).toNat)).length : Int) - 1))).toNat)) 1 ((((r4.take (((IntKind.i64.wrap ((r4.length : Int) - 1))).toNat)).drop ((1 : Int).toNat)).take (((IntKind.i64.wrap ((((r4.take (((IntKind.i64.wrap ((r4.length : Int) - 1))).toNat)).drop ((1 : Int).toNat)).length : Int) - 1))).toNat)).map eStr)) rfl (congrArg (ro _ _) (sub_hi _ _ _))) ?_
    refine any_y 5 rfl (by kernel_rfl) (by kernel_rfl) (by kernel_rfl) (ss (se (ss (ss (sn))))) (wn rfl) rfl (y_fieldAddr_box (sz := 0) Tryz.runUnderlying24 rfl Tryz.sizeOf4 rfl) ?_
    refine any_all [6] (by kernel_rfl) rfl (anyo_cons ?_ anyo_nil)
    refine any_t rfl (wn rfl) rfl (t_store 1 Tryz.sizeOf4 rfl rfl rfl rfl (by simp [Value.cells, boxP]) (by simp [Value.cells, Value.oneCell', boxP])) ?_
    rintro _ _ ⟨rfl, rfl⟩
    refine ⟨(ss (se (ss (ss (sn))))), ?_⟩
    refine any_turn (retell 1 (g := box b1 [.int .i64 q26, .slice none 0 0, .bool true]) rfl rfl) ?_
    refine any_y 7 rfl (by kernel_rfl) (by kernel_rfl) (by kernel_rfl) (ss (se (ss (ss (sn))))) (wn rfl) rfl (y_assign rfl) ?_
    refine any_nil (by kernel_rfl) ?_
    refine goes_calm hL45 ?_
    obtain rfl := some_eq h
    exact goes_cut hL33 (((((r4.take (((IntKind.i64.wrap ((r4.length : Int) - 1))).toNat)).drop ((1 : Int).toNat)).take (((IntKind.i64.wrap ((((r4.take (((IntKind.i64.wrap ((r4.length : Int) - 1))).toNat)).drop ((1 : Int).toNat)).length : Int) - 1))).toNat)), true), (subS (subS (subS v6 1 ((0 : Int).toNat) (((IntKind.i64.wrap ((r4.length : Int) - 1))).toNat)) 1 ((1 : Int).toNat) ((((r4.take (((IntKind.i64.wrap ((r4.length : Int) - 1))).toNat)).length : Int)).toNat)) 1 ((0 : Int).toNat) (((IntKind.i64.wrap ((((r4.take (((IntKind.i64.wrap ((r4.length : Int) - 1))).toNat)).drop ((1 : Int).toNat)).length : Int) - 1))).toNat))) [4, 1, 2, 0] (qv3 rfl rfl rfl) (by decide) rfl rfl
   ·replace h := cond_f h hc43
    refine run_skip ?_
    obtain rfl := some_eq h
    exact goes_cut hL33 ((((r4.take (((IntKind.i64.wrap ((r4.length : Int) - 1))).toNat)).drop ((1 : Int).toNat)), false), (subS (subS v6 1 ((0 : Int).toNat) (((IntKind.i64.wrap ((r4.length : Int) - 1))).toNat)) 1 ((1 : Int).toNat) ((((r4.take (((IntKind.i64.wrap ((r4.length : Int) - 1))).toNat)).length : Int)).toNat))) [3, 1, 2, 0] (qv3 rfl rfl rfl) (by decide) rfl rfl
  rintro ⟨⟨l_28, x_29⟩, v30⟩ hj
  obtain rfl : o31 = _ := hj
  replace h := after_go ho32
  clear ho32
  change Run _ _ _ (VF.of [(4, v30), (2, boxP b1 0), (3, boxP b2 0)]) [ro v30 1 (l_28.map eStr), box b1 [.int .i64 q26, .slice none 0 0, .bool x_29], box b2 [.int .i64 0], globA]
  obtain ⟨o49, h, ho50⟩ := bindJ_some h
  refine run_cut (((List S_api_Segment)) × (Value)) (fun σ => [(2, boxP b1 0), (3, boxP b2 0)]) (fun σ => [box b1 [.int .i64 q26, σ.2, .bool x_29], row σ.2 20 (σ.1.map S_api_Segment.enc), box b2 [.int .i64 0], globA]) (fun σ => o49 = .go σ.1) (fun L52 hL51 => ?_) ?_
  ·
   refine run_seq ?_
   refine run_region' ?_
   refine oy rfl rfl (y_move rfl) ?_
   refine oy rfl rfl ((y_len 0 rfl Tryz.runUnderlying81 rfl rfl reads_ro).to (v_len eStr _)) ?_
   refine oy rfl rfl (y_move rfl) ?_
   refine ops_nil ?_
   refine goes_code ?_
   refine run_block ?_
   refine run_turn (nilrow 20) ?_
   refine run_turn (retell 4 (g := row (.slice none 0 0) 20 (([] : List S_api_Segment).map S_api_Segment.enc)) rfl rfl) ?_
   refine run_iter (step := playlist_Parse_L1 n q26 l_28) (n := n) (s0 := (0, ([] : List S_api_Segment))) h (G := Value) (.slice none 0 0) (fun σ γ => [(68, .int .i64 σ.1), (2, boxP b1 0), (3, boxP b2 0), (66, v30), (67, .int .i64 (l_28.length : Int))]) (fun σ γ => [box b1 [.int .i64 q26, γ, .bool x_29], row γ 20 (σ.2.map S_api_Segment.enc), box b2 [.int .i64 0], ro v30 1 (l_28.map eStr), globA]) [1, 4, 2, 0, 3] (qv5 rfl rfl rfl rfl rfl) (by decide) rfl ?_
   rintro ⟨s_53, x_54⟩ v55 o56 h L59 hgo57 hstop58
   change Run _ _ _ (VF.of [(68, .int .i64 s_53), (2, boxP b1 0), (3, boxP b2 0), (66, v30), (67, .int .i64 (l_28.length : Int))]) [box b1 [.int .i64 q26, v55, .bool x_29], row v55 20 (x_54.map S_api_Segment.enc), box b2 [.int .i64 0], ro v30 1 (l_28.map eStr), globA]
   refine run_seq ?_
   refine run_region' ?_
   refine oy rfl rfl (y_lss rfl rfl) ?_
   refine ops_nil ?_
   refine goes_code ?_
   refine run_seq ?_
   refine run_cond (decide (s_53 < (l_28.length : Int))) rfl (fun hc60 => ?_) (fun hc60 => ?_)
   ·replace h := cond_t h hc60
    refine run_skip ?_
    refine goes_code ?_
    refine run_seq ?_
    refine run_block ?_
    refine run_seq ?_
    refine run_region' ?_
    refine oy rfl rfl (y_move rfl) ?_
    obtain ⟨x61, hzx61, hlx61, hxx61, h⟩ := idx_some h
    refine oy rfl rfl (y_indexAddrI (kd := .i64) (i := s_53) 3 Tryz.runUnderlying81 Tryz.sizeOf9 rfl rfl rfl reads_ro hzx61 (map_lt hlx61)) ?_
    refine oy rfl rfl (y_load_elem (i := s_53.toNat) 3 Tryz.isAgg9 rfl rfl reads_ro (map_get hxx61)) ?_
    refine oy rfl rfl (y_assign rfl) ?_
    refine oy rfl rfl (y_assign rfl) ?_
    refine ops_nil ?_
    refine goes_code ?_
    refine run_seq ?_
    refine run_region' ?_
    refine oy rfl rfl (y_move rfl) ?_
    obtain ⟨r62, hr63, h⟩ := obind_some h
    rcases r62 with q64 | e65
    rotate_left
    ·replace h := pbind_pan h
     refine ops_tp (wn rfl) rfl (t_callp (vs := [.string (bs x61)]) (cs := []) [(4, 0)] rfl Tryz.call53 rfl (playlist_segment_ok n x61  hr63) (showsX_view 4 rfl views_glob showsX_nil) rfl (.inl rfl)) (by rintro _ _ ⟨_, ⟨_, hq, _⟩, _⟩; cases hq) ?_
     rintro _ ⟨_, he, rfl⟩
     obtain rfl := Pn.pan.inj he
     refine finP_rec Tryz.call48 (parseRec_pan b1 b2 e65 0 2 rfl rfl rfl (by decide)) ?_
     refine fin_turn (nilrow 20) ?_
     refine fin_turn (retell 5 (g := row (.slice none 0 0) 20 (([] : List S_api_Segment).map S_api_Segment.enc)) rfl rfl) ?_
     obtain rfl := some_eq h
     obtain rfl := hstop58 _ rfl
     skip
     obtain rfl := after_stop ho50
     refine fin_resQ [.cell 2 24, .cell 3 27] [.agg #[.int .i64 0, (.slice none 0 0), .bool false], .int .i64 e65] [5] [row (.slice none 0 0) 20 (([] : List S_api_Segment).map S_api_Segment.enc)] Tryz.results14 rfl (rescons (res_box 0 Tryz.isAgg24 Tryz.sizeOf24 rfl rfl rfl) (rescons (res_boxs 2 Tryz.isAgg27 rfl rfl) resnil)) (by decide) rfl ?_
     exact ⟨_, rfl, rfl⟩
    replace h := pbind_ret h
    refine ot rfl rfl (t_callx (vs := [.string (bs x61)]) (cs := []) [(4, 0)] rfl Tryz.call53 rfl (mp_ret (playlist_segment_ok n x61  hr63)) (showsX_view 4 rfl views_glob showsX_nil) rfl (.inl rfl)) ?_
    rintro _ _ ⟨_, ⟨rfl, rfl⟩, rfl⟩
    refine ot rfl rfl (t_alloc Tryz.zeroValue57) ?_
    rintro _ _ ⟨b66, rfl, rfl⟩
    refine ot rfl rfl (t_store 5 Tryz.sizeOf57 rfl rfl rfl rfl (by simp [Value.cells, boxP]) (by simp [Value.cells, Value.oneCell', boxP])) ?_
    rintro _ _ ⟨rfl, rfl⟩
    refine ops_turn (retell 5 (g := box b66 [.int .i64 q64.Num, .int .i64 q64.Begin, .int .i64 q64.Len, .int .u8 q64.Body.a0_, .int .u8 q64.Body.a1_, .int .u8 q64.Body.a2_, .int .u8 q64.Body.a3_, .int .u8 q64.Body.a4_, .int .u8 q64.Body.a5_, .int .u8 q64.Body.a6_, .int .u8 q64.Body.a7_, .int .u8 q64.Body.a8_, .int .u8 q64.Body.a9_, .int .u8 q64.Body.a10_, .int .u8 q64.Body.a11_, .int .u8 q64.Body.a12_, .int .u8 q64.Body.a13_, .int .u8 q64.Body.a14_, .int .u8 q64.Body.a15_, .int .i64 q64.Size]) rfl (by kernel_rfl)) ?_
    refine ops_nil ?_
    refine goes_code ?_
    refine run_seq ?_
    refine run_weak [(68, .int .i64 s_53), (2, boxP b1 0), (3, boxP b2 0), (66, v30), (67, .int .i64 (l_28.length : Int)), (7, .int .i64 s_53), (9, boxP b66 0)] [0, 1, 2, 3, 4, 5] [box b1 [.int .i64 q26, v55, .bool x_29], row v55 20 (x_54.map S_api_Segment.enc), box b2 [.int .i64 0], ro v30 1 (l_28.map eStr), globA, box b66 [.int .i64 q64.Num, .int .i64 q64.Begin, .int .i64 q64.Len, .int .u8 q64.Body.a0_, .int .u8 q64.Body.a1_, .int .u8 q64.Body.a2_, .int .u8 q64.Body.a3_, .int .u8 q64.Body.a4_, .int .u8 q64.Body.a5_, .int .u8 q64.Body.a6_, .int .u8 q64.Body.a7_, .int .u8 q64.Body.a8_, .int .u8 q64.Body.a9_, .int .u8 q64.Body.a10_, .int .u8 q64.Body.a11_, .int .u8 q64.Body.a12_, .int .u8 q64.Body.a13_, .int .u8 q64.Body.a14_, .int .u8 q64.Body.a15_, .int .i64 q64.Size]] (qv7 rfl rfl rfl rfl rfl rfl rfl) (by decide) rfl ?_
    refine run_region' ?_
    refine oy rfl rfl (y_fieldAddr_box (sz := 0) Tryz.runUnderlying24 rfl Tryz.sizeOf3 rfl) ?_
    refine oy rfl rfl (y_load_box 0 Tryz.isAgg3 rfl rfl rfl) ?_
    refine oy rfl rfl (y_move rfl) ?_
    refine oy rfl rfl (y_add rfl rfl) ?_
    refine oy rfl rfl (y_fieldAddr_box (sz := 0) Tryz.runUnderlying57 rfl Tryz.sizeOf3 rfl) ?_
    refine ot rfl rfl (t_store 5 Tryz.sizeOf3 rfl rfl rfl rfl (by simp [Value.cells, boxP]) (by simp [Value.cells, Value.oneCell', boxP])) ?_
    rintro _ _ ⟨rfl, rfl⟩
    refine ops_turn (retell 5 (g := box b66 [.int .i64 (IntKind.i64.wrap (q26 + s_53)), .int .i64 q64.Begin, .int .i64 q64.Len, .int .u8 q64.Body.a0_, .int .u8 q64.Body.a1_, .int .u8 q64.Body.a2_, .int .u8 q64.Body.a3_, .int .u8 q64.Body.a4_, .int .u8 q64.Body.a5_, .int .u8 q64.Body.a6_, .int .u8 q64.Body.a7_, .int .u8 q64.Body.a8_, .int .u8 q64.Body.a9_, .int .u8 q64.Body.a10_, .int .u8 q64.Body.a11_, .int .u8 q64.Body.a12_, .int .u8 q64.Body.a13_, .int .u8 q64.Body.a14_, .int .u8 q64.Body.a15_, .int .i64 q64.Size]) rfl (by kernel_rfl)) ?_
    refine ops_nil ?_
    refine goes_code ?_
    refine run_region' ?_
    refine oy rfl rfl (y_fieldAddr_box (sz := 0) Tryz.runUnderlying24 rfl Tryz.sizeOf22 rfl) ?_
    refine oy rfl rfl (y_load_box 0 Tryz.isAgg22 rfl rfl rfl) ?_
    refine oy rfl rfl (y_load_boxagg (c := [.int .i64 (IntKind.i64.wrap (q26 + s_53)), .int .i64 q64.Begin, .int .i64 q64.Len, .int .u8 q64.Body.a0_, .int .u8 q64.Body.a1_, .int .u8 q64.Body.a2_, .int .u8 q64.Body.a3_, .int .u8 q64.Body.a4_, .int .u8 q64.Body.a5_, .int .u8 q64.Body.a6_, .int .u8 q64.Body.a7_, .int .u8 q64.Body.a8_, .int .u8 q64.Body.a9_, .int .u8 q64.Body.a10_, .int .u8 q64.Body.a11_, .int .u8 q64.Body.a12_, .int .u8 q64.Body.a13_, .int .u8 q64.Body.a14_, .int .u8 q64.Body.a15_, .int .i64 q64.Size]) 5 Tryz.isAgg57 Tryz.sizeOf57 rfl rfl rfl) ?_
    refine ot rfl rfl (t_lit [.agg #[.int .i64 (IntKind.i64.wrap (q26 + s_53)), .int .i64 q64.Begin, .int .i64 q64.Len, .int .u8 q64.Body.a0_, .int .u8 q64.Body.a1_, .int .u8 q64.Body.a2_, .int .u8 q64.Body.a3_, .int .u8 q64.Body.a4_, .int .u8 q64.Body.a5_, .int .u8 q64.Body.a6_, .int .u8 q64.Body.a7_, .int .u8 q64.Body.a8_, .int .u8 q64.Body.a9_, .int .u8 q64.Body.a10_, .int .u8 q64.Body.a11_, .int .u8 q64.Body.a12_, .int .u8 q64.Body.a13_, .int .u8 q64.Body.a14_, .int .u8 q64.Body.a15_, .int .i64 q64.Size]] Tryz.runUnderlying22 Tryz.sizeOf57 Tryz.zeroValue57 rfl (by decide) (by decide) rfl (by simp [Value.cells, boxP])) ?_
    rintro v67 _ ⟨rfl, _⟩
    refine ops_turn (retell 6 (g := row v67 20 (([(S_api_Segment.mk (IntKind.i64.wrap (q26 + s_53)) q64.Begin q64.Len q64.Body q64.Size)] : List S_api_Segment).map S_api_Segment.enc)) rfl rfl) ?_
    obtain ⟨hr69, h⟩ := need_some h
    refine ot rfl rfl (t_append (es := 20) 1 rfl Tryz.runUnderlying22 rfl Tryz.runUnderlying22 (.inr ⟨_, rfl⟩) Tryz.typeInfo57 rfl (by decide) Tryz.zeroValue57 rfl rfl rfl rfl (src_reads 6 rfl reads_row (map_ok S_api_Segment.enc_ok _)) (map_room hr69 (by decide)) (map_fit hr69)) ?_
    rintro v68 _ rfl
    refine ops_turn (retell 1 (g := row v68 20 ((x_54 ++ ([(S_api_Segment.mk (IntKind.i64.wrap (q26 + s_53)) q64.Begin q64.Len q64.Body q64.Size)] : List S_api_Segment)).map S_api_Segment.enc)) rfl (congrArg (row _ _) List.map_append.symm)) ?_
    refine oy rfl rfl (y_fieldAddr_box (sz := 0) Tryz.runUnderlying24 rfl Tryz.sizeOf22 rfl) ?_
    refine ops_slc 1 rfl reads_row (fun hs70 hs70o => ?_)
    refine ot rfl rfl (t_store 0 Tryz.sizeOf22 rfl rfl rfl (by rw [hs70]; rfl) (by simp [Value.cells, boxP]) (by rw [hs70]; exact allL_cons hs70o (allL_nil))) ?_
    rintro _ _ ⟨rfl, rfl⟩
    refine ops_turn (retell 0 (g := box b1 [.int .i64 q26, v68, .bool x_29]) rfl (by rw [hs70]; rfl)) ?_
    refine ops_nil ?_
    refine goes_blk ?_
    refine goes_code ?_
    refine run_weak [(68, .int .i64 s_53), (2, boxP b1 0), (3, boxP b2 0), (66, v30), (67, .int .i64 (l_28.length : Int))] [0, 1, 2, 3, 4] [box b1 [.int .i64 q26, v68, .bool x_29], row v68 20 ((x_54 ++ ([(S_api_Segment.mk (IntKind.i64.wrap (q26 + s_53)) q64.Begin q64.Len q64.Body q64.Size)] : List S_api_Segment)).map S_api_Segment.enc), box b2 [.int .i64 0], ro v30 1 (l_28.map eStr), globA] (qv5 rfl rfl rfl rfl rfl) (by decide) rfl ?_
    refine run_region' ?_
    refine oy rfl rfl (y_add rfl rfl) ?_
    refine oy rfl rfl (y_move rfl) ?_
    refine ops_nil ?_
    obtain rfl := some_eq h
    exact goes_iter hgo57 ((IntKind.i64.wrap (s_53 + 1)), (x_54 ++ ([(S_api_Segment.mk (IntKind.i64.wrap (q26 + s_53)) q64.Begin q64.Len q64.Body q64.Size)] : List S_api_Segment))) v68 [0, 1, 2, 3, 4] rfl (qv5 rfl rfl rfl rfl rfl) (by decide) rfl
   ·replace h := cond_f h hc60
    refine run_exit _ rfl ?_
    obtain rfl := some_eq h
    obtain rfl := hstop58 _ rfl
    exact goes_cut hL51 (x_54, v55) [0, 1, 2, 4] (qv2 rfl rfl) (by decide) rfl rfl
  rintro ⟨x_47, v48⟩ hj
  obtain rfl : o49 = _ := hj
  replace h := after_go ho50
  clear ho50
  change Run _ _ _ (VF.of [(2, boxP b1 0), (3, boxP b2 0)]) [box b1 [.int .i64 q26, v48, .bool x_29], row v48 20 (x_47.map S_api_Segment.enc), box b2 [.int .i64 0], globA]
  refine run_seq ?_
  refine run_region' ?_
  refine oy rfl rfl (y_load_boxagg (c := [.int .i64 q26, v48, .bool x_29]) 0 Tryz.isAgg24 Tryz.sizeOf24 rfl rfl rfl) ?_
  obtain ⟨r71, hr72, h⟩ := obind_some h
  refine ot rfl rfl (t_callx (vs := [.agg #[.int .i64 q26, v48, .bool x_29]]) (cs := []) [(1, 1)] rfl Tryz.call22 rfl (playlist_Valid_ok n (S_api_Playlist.mk q26 x_47 x_29) v48 hr72) (showsX_look 1 rfl views_row showsX_nil) rfl (.inr (by rintro _ _ ⟨rfl, rfl⟩ g hg; first | (cases hg; done) | (simp only [List.mem_cons, List.not_mem_nil, or_false] at hg; first | (subst hg; first | exact strict_row | exact strict_box) | (rcases hg with rfl | rfl <;> first | exact strict_row | exact strict_box) | (rcases hg with rfl | rfl | rfl <;> first | exact strict_row | exact strict_box))))) ?_
  rintro _ _ ⟨_, ⟨rfl, rfl⟩, rfl⟩
  obtain ⟨r73, hr74, h⟩ := obind_some h
  rcases r73 with q75 | e76
  rotate_left
  ·replace h := pbind_pan h
   refine ops_tp (wn rfl) rfl (t_callp (vs := [.bool r71]) (cs := []) [] rfl Tryz.call50 rfl (playlist_must_ok r71  hr74) showsX_nil rfl (.inl rfl)) (by rintro _ _ ⟨_, ⟨_, hq, _⟩, _⟩; cases hq) ?_
   rintro _ ⟨_, he, rfl⟩
   obtain rfl := Pn.pan.inj he
   refine finP_rec Tryz.call48 (parseRec_pan b1 b2 e76 0 2 rfl rfl rfl (by decide)) ?_
   refine fin_turn (nilrow 20) ?_
   refine fin_turn (retell 4 (g := row (.slice none 0 0) 20 (([] : List S_api_Segment).map S_api_Segment.enc)) rfl rfl) ?_
   obtain rfl := some_eq h
   refine fin_resQ [.cell 2 24, .cell 3 27] [.agg #[.int .i64 0, (.slice none 0 0), .bool false], .int .i64 e76] [4] [row (.slice none 0 0) 20 (([] : List S_api_Segment).map S_api_Segment.enc)] Tryz.results14 rfl (rescons (res_box 0 Tryz.isAgg24 Tryz.sizeOf24 rfl rfl rfl) (rescons (res_boxs 2 Tryz.isAgg27 rfl rfl) resnil)) (by decide) rfl ?_
   exact ⟨_, rfl, rfl⟩
  replace h := pbind_ret h
  refine ot rfl rfl (t_callx (vs := [.bool r71]) (cs := []) [] rfl Tryz.call50 rfl (mp_ret (playlist_must_ok r71  hr74)) showsX_nil rfl (.inl rfl)) ?_
  rintro _ _ ⟨_, ⟨rfl, rfl⟩, rfl⟩
  refine ops_nil ?_
  refine goes_code ?_
  refine run_seq ?_
  refine run_region' ?_
  refine oy rfl rfl (y_load_boxagg (c := [.int .i64 q26, v48, .bool x_29]) 0 Tryz.isAgg24 Tryz.sizeOf24 rfl rfl rfl) ?_
  refine ops_slc 1 rfl reads_row (fun hs77 hs77o => ?_)
  refine ot rfl rfl (t_store 0 Tryz.sizeOf24 rfl rfl rfl rfl (by simp [Value.cells, boxP]) (allL_cons rfl (allL_cons hs77o (allL_cons rfl (allL_nil))))) ?_
  rintro _ _ ⟨rfl, rfl⟩
  refine ops_turn (retell 0 (g := box b1 [.int .i64 q26, v48, .bool x_29]) rfl rfl) ?_
  refine ot rfl rfl (t_store 2 Tryz.sizeOf27 rfl rfl rfl rfl (by simp [Value.cells, boxP]) (by simp [Value.cells, Value.oneCell', boxP])) ?_
  rintro _ _ ⟨rfl, rfl⟩
  refine ops_turn (retell 2 (g := box b2 [.int .i64 0]) rfl rfl) ?_
  refine ops_nil ?_
  refine goes_code ?_
  refine run_ret ?_
  refine fin_rec Tryz.call48 (parseRec_ret b1 b2 _) ?_
  obtain rfl := some_eq h
  refine fin_resQ [.cell 2 24, .cell 3 27] [.agg #[.int .i64 q26, v48, .bool x_29], .int .i64 0] [1] [row v48 20 (x_47.map S_api_Segment.enc)] Tryz.results14 rfl (rescons (res_box 0 Tryz.isAgg24 Tryz.sizeOf24 rfl rfl rfl) (rescons (res_boxs 2 Tryz.isAgg27 rfl rfl) resnil)) (by decide) rfl ?_
  exact ⟨_, rfl, rfl⟩

def playlist_Lag (depth_0 : Int) (hop_1 : Int) (longest_2 : Int) : Option (Int) :=
 some (IntKind.i64.wrap (longest_2 + (IntKind.i64.wrap (depth_0 * hop_1))))
theorem playlist_Lag_ok (depth_0 : Int) (hop_1 : Int) (longest_2 : Int)  {r : Int} (h : playlist_Lag depth_0 hop_1 longest_2 = some r) :
  Meets Tryz.prog 38 [.int .i64 depth_0, .int .i64 hop_1, .int .i64 longest_2] [] (fun v G => v = .int .i64 r ∧ G = []) := by
 refine fn_of_run Tryz.func38 rfl Tryz.ntmps38 rfl (fun w0 o0 => ?_)
 refine run_seq ?_
 refine run_region' ?_
 refine oy rfl rfl (y_assign rfl) ?_
 refine ops_nil ?_
 refine goes_code ?_
 refine run_seq ?_
 refine run_region' ?_
 refine oy rfl rfl (y_move rfl) ?_
 refine oy rfl rfl (y_move rfl) ?_
 refine oy rfl rfl (y_move rfl) ?_
 refine oy rfl rfl (y_mul rfl rfl) ?_
 refine oy rfl rfl (y_add rfl rfl) ?_
 refine oy rfl rfl (y_assign rfl) ?_
 refine ops_nil ?_
 refine goes_code ?_
 refine run_ret ?_
 obtain rfl := some_eq h
 refine fin_slots [6] [.int .i64 (IntKind.i64.wrap (longest_2 + (IntKind.i64.wrap (depth_0 * hop_1))))] [] [] Tryz.results38 rfl (by decide) rfl ?_
 exact ⟨rfl, rfl⟩

def playlist_Gap (depth_0 : Int) (hop_1 : Int) (shortest_2 : Int) : Option (Int) :=
 need (shortest_2 ≠ 0) (
 some (IntKind.i64.wrap ((IntKind.i64.wrap ((IntKind.i64.wrap ((IntKind.i64.wrap (depth_0 * hop_1)) + shortest_2)) - 1)).tdiv shortest_2)))
theorem playlist_Gap_ok (depth_0 : Int) (hop_1 : Int) (shortest_2 : Int)  {r : Int} (h : playlist_Gap depth_0 hop_1 shortest_2 = some r) :
  Meets Tryz.prog 39 [.int .i64 depth_0, .int .i64 hop_1, .int .i64 shortest_2] [] (fun v G => v = .int .i64 r ∧ G = []) := by
 refine fn_of_run Tryz.func39 rfl Tryz.ntmps39 rfl (fun w0 o0 => ?_)
 refine run_seq ?_
 refine run_region' ?_
 refine oy rfl rfl (y_assign rfl) ?_
 refine ops_nil ?_
 refine goes_code ?_
 refine run_seq ?_
 refine run_region' ?_
 refine oy rfl rfl (y_move rfl) ?_
 refine oy rfl rfl (y_move rfl) ?_
 refine oy rfl rfl (y_mul rfl rfl) ?_
 refine oy rfl rfl (y_move rfl) ?_
 refine oy rfl rfl (y_add rfl rfl) ?_
 refine oy rfl rfl (y_sub rfl rfl) ?_
 refine oy rfl rfl (y_move rfl) ?_
 obtain ⟨hd1, h⟩ := need_some h
 refine oy rfl rfl (y_quo rfl rfl hd1) ?_
 refine oy rfl rfl (y_assign rfl) ?_
 refine ops_nil ?_
 refine goes_code ?_
 refine run_ret ?_
 obtain rfl := some_eq h
 refine fin_slots [6] [.int .i64 (IntKind.i64.wrap ((IntKind.i64.wrap ((IntKind.i64.wrap ((IntKind.i64.wrap (depth_0 * hop_1)) + shortest_2)) - 1)).tdiv shortest_2))] [] [] Tryz.results39 rfl (by decide) rfl ?_
 exact ⟨rfl, rfl⟩

def playlist_Seen_1_66 (at_0 : Int) (a_1 : Int) : Option (Bool) :=
 some (decide (a_1 < at_0))
theorem playlist_Seen_1_66_ok (at_0 : Int) (a_1 : Int) (a_1b : Nat) {r : Bool} (h : playlist_Seen_1_66 at_0 a_1 = some r) :
  Meets Tryz.prog 66 [.int .i64 at_0, boxP a_1b 0] [box a_1b [.int .i64 a_1]] (fun v G => v = .bool r ∧ G = [box a_1b [.int .i64 a_1]]) := by
 refine fn_of_run Tryz.func66 rfl Tryz.ntmps66 rfl (fun w0 o0 => ?_)
 refine run_seq ?_
 refine run_region' ?_
 refine oy rfl rfl (y_assign rfl) ?_
 refine ops_nil ?_
 refine goes_code ?_
 refine run_seq ?_
 refine run_region' ?_
 refine oy rfl rfl (y_move rfl) ?_
 refine oy rfl rfl (y_load_box 0 Tryz.isAgg3 rfl rfl rfl) ?_
 refine oy rfl rfl (y_gtr rfl rfl) ?_
 refine oy rfl rfl (y_assign rfl) ?_
 refine ops_nil ?_
 refine goes_code ?_
 refine run_ret ?_
 obtain rfl := some_eq h
 refine fin_slots [3] [.bool (decide (a_1 < at_0))] [0] [box a_1b [.int .i64 a_1]] Tryz.results66 rfl (by decide) rfl ?_
 exact ⟨rfl, rfl⟩

def slices_IndexFunc_int_int_65_v1_L1 (s_0 : (List Int)) (f_1_0 : Int) : (Int) → Option (Lp (Int) (Lp (Unit) (Int))) :=
 fun s_5 =>
  cond (decide (s_5 < (s_0.length : Int)))
   (idx s_0 s_5 fun x11 =>
   obind (playlist_Seen_1_66 x11 f_1_0) fun r12 =>
   cond r12
    (some (.stop (.stop s_5)))
    (some (.go (IntKind.i64.wrap (s_5 + 1)))))
   (some (.stop (.go ())))
def slices_IndexFunc_int_int_65_v1 (n : Nat) (s_0 : (List Int)) (f_1_0 : Int) : Option (Int) :=
 bindJ (S := Unit)
  (iter (slices_IndexFunc_int_int_65_v1_L1 s_0 f_1_0) n 0)
 (fun _ =>
  some (-1))
theorem slices_IndexFunc_int_int_65_v1_ok (n : Nat) (s_0 : (List Int)) (f_1_0 : Int) (s_0v : Value) (f_1_0b : Nat) {r : Int} (h : slices_IndexFunc_int_int_65_v1 n s_0 f_1_0 = some r) :
  Meets Tryz.prog 65 [s_0v, .func (.func 66) #[] #[boxP f_1_0b 0]] [ro s_0v 1 (s_0.map (eInt .i64)), box f_1_0b [.int .i64 f_1_0]] (fun v G => v = .int .i64 r ∧ G = [box f_1_0b [.int .i64 f_1_0]]) := by
 refine fn_of_run Tryz.func65 rfl Tryz.ntmps65 rfl (fun w0 o0 => ?_)
 refine run_seq ?_
 refine run_region' ?_
 refine oy rfl rfl (y_assign rfl) ?_
 refine ops_nil ?_
 refine goes_code ?_
 obtain ⟨o1, h, ho2⟩ := bindJ_some h
 refine run_cut ((Unit) × (Unit)) (fun σ => []) (fun σ => [box f_1_0b [.int .i64 f_1_0]]) (fun σ => o1 = .go σ.1) (fun L4 hL3 => ?_) ?_
 ·
  refine run_seq ?_
  refine run_region' ?_
  refine oy rfl rfl (y_move rfl) ?_
  refine oy rfl rfl ((y_len 0 rfl Tryz.runUnderlying43 rfl rfl reads_ro).to (v_len (eInt .i64) _)) ?_
  refine oy rfl rfl (y_move rfl) ?_
  refine ops_nil ?_
  refine goes_code ?_
  refine run_block ?_
  refine run_iter (step := slices_IndexFunc_int_int_65_v1_L1 s_0 f_1_0) (n := n) (s0 := 0) h (G := Unit) () (fun σ γ => [(8, .int .i64 σ), (0, s_0v), (1, .func (.func 66) #[] #[boxP f_1_0b 0]), (7, .int .i64 (s_0.length : Int))]) (fun σ γ => [ro s_0v 1 (s_0.map (eInt .i64)), box f_1_0b [.int .i64 f_1_0]]) [0, 1] (qv4 rfl rfl rfl rfl) (by decide) rfl ?_
  rintro s_5 _ o6 h L9 hgo7 hstop8
  change Run _ _ _ (VF.of [(8, .int .i64 s_5), (0, s_0v), (1, .func (.func 66) #[] #[boxP f_1_0b 0]), (7, .int .i64 (s_0.length : Int))]) [ro s_0v 1 (s_0.map (eInt .i64)), box f_1_0b [.int .i64 f_1_0]]
  refine run_seq ?_
  refine run_region' ?_
  refine oy rfl rfl (y_lss rfl rfl) ?_
  refine ops_nil ?_
  refine goes_code ?_
  refine run_seq ?_
  refine run_cond (decide (s_5 < (s_0.length : Int))) rfl (fun hc10 => ?_) (fun hc10 => ?_)
  ·replace h := cond_t h hc10
   refine run_skip ?_
   refine goes_code ?_
   refine run_seq ?_
   refine run_block ?_
   refine run_seq ?_
   refine run_region' ?_
   refine oy rfl rfl (y_move rfl) ?_
   refine oy rfl rfl (y_assign rfl) ?_
   refine ops_nil ?_
   refine goes_code ?_
   refine run_seq ?_
   refine run_region' ?_
   refine oy rfl rfl (y_move rfl) ?_
   refine oy rfl rfl (y_move rfl) ?_
   refine oy rfl rfl (y_move rfl) ?_
   obtain ⟨x11, hzx11, hlx11, hxx11, h⟩ := idx_some h
   refine oy rfl rfl (y_indexAddrI (kd := .i64) (i := s_5) 0 Tryz.runUnderlying43 Tryz.sizeOf3 rfl rfl rfl reads_ro hzx11 (map_lt hlx11)) ?_
   refine oy rfl rfl (y_load_elem (i := s_5.toNat) 0 Tryz.isAgg3 rfl rfl reads_ro (map_get hxx11)) ?_
   obtain ⟨r12, hr13, h⟩ := obind_some h
   refine ot rfl rfl (t_callx (vs := [.int .i64 x11]) (cs := [boxP f_1_0b 0]) [(1, 2)] rfl Tryz.call66 rfl (playlist_Seen_1_66_ok x11 f_1_0 f_1_0b hr13) (showsX_lend 1 rfl showsX_nil) rfl (.inl rfl)) ?_
   rintro _ _ ⟨_, ⟨rfl, rfl⟩, rfl⟩
   refine ops_nil ?_
   refine goes_code ?_
   refine run_cond r12 rfl (fun hc14 => ?_) (fun hc14 => ?_)
   ·replace h := cond_t h hc14
    refine run_seq ?_
    refine run_weak [(5, .int .i64 s_5)] [2] [box f_1_0b [.int .i64 f_1_0]] (qv1 rfl) (by decide) rfl ?_
    refine run_region' ?_
    refine oy rfl rfl (y_move rfl) ?_
    refine oy rfl rfl (y_assign rfl) ?_
    refine ops_nil ?_
    refine goes_code ?_
    refine run_ret ?_
    obtain rfl := some_eq h
    obtain rfl := hstop8 _ rfl
    skip
    obtain rfl := after_stop ho2
    refine fin_slots [4] [.int .i64 s_5] [0] [box f_1_0b [.int .i64 f_1_0]] Tryz.results65 rfl (by decide) rfl ?_
    exact ⟨rfl, rfl⟩
   ·replace h := cond_f h hc14
    refine run_skip ?_
    refine goes_blk ?_
    refine goes_code ?_
    refine run_weak [(8, .int .i64 s_5), (0, s_0v), (1, .func (.func 66) #[] #[boxP f_1_0b 0]), (7, .int .i64 (s_0.length : Int))] [0, 2] [ro s_0v 1 (s_0.map (eInt .i64)), box f_1_0b [.int .i64 f_1_0]] (qv4 rfl rfl rfl rfl) (by decide) rfl ?_
    refine run_region' ?_
    refine oy rfl rfl (y_add rfl rfl) ?_
    refine oy rfl rfl (y_move rfl) ?_
    refine ops_nil ?_
    obtain rfl := some_eq h
    exact goes_iter hgo7 (IntKind.i64.wrap (s_5 + 1)) () [0, 1] rfl (qv4 rfl rfl rfl rfl) (by decide) rfl
  ·replace h := cond_f h hc10
   refine run_exit _ rfl ?_
   obtain rfl := some_eq h
   obtain rfl := hstop8 _ rfl
   exact goes_cut hL3 ((), ()) [1] vnil (by decide) rfl rfl
 rintro ⟨_, _⟩ hj
 obtain rfl : o1 = _ := hj
 replace h := after_go ho2
 clear ho2
 change Run _ _ _ (VF.of []) [box f_1_0b [.int .i64 f_1_0]]
 refine run_seq ?_
 refine run_region' ?_
 refine oy rfl rfl (y_assign rfl) ?_
 refine ops_nil ?_
 refine goes_code ?_
 refine run_ret ?_
 obtain rfl := some_eq h
 refine fin_slots [4] [.int .i64 (-1)] [0] [box f_1_0b [.int .i64 f_1_0]] Tryz.results65 rfl (by decide) rfl ?_
 exact ⟨rfl, rfl⟩

def playlist_Seen (n : Nat) (l_0 : (List S_api_Segment)) (arrived_1 : (List Int)) (t_2 : Int) (window_3 : Int) : Option (S_api_Playlist) :=
 obind (slices_IndexFunc_int_int_65_v1 n arrived_1 t_2) fun r3 =>
 bindJ (S := Int)
  (cond (decide (r3 < 0))
   (some (.go (l_0.length : Int)))
   (some (.go r3)))
 (fun n_5 =>
  bindJ (S := Int × (List S_api_Segment))
   (cond (decide (0 < (l_0.length : Int)))
    (idx l_0 0 fun x20 =>
    need (0 ≤ (0 : Int) ∧ 0 ≤ n_5 ∧ n_5 ≤ (l_0.length : Int)) (
    obind (slices_Clone_weirgate_api_Segment_weirgate_api_Segment_40 (l_0.take n_5.toNat)) fun r22 =>
    some (.go (x20.Num, r22))))
    (some (.go (0, ([] : List S_api_Segment)))))
  (fun (x_12, x_13) =>
   obind (playlist_cut (S_api_Playlist.mk x_12 x_13 false) window_3) fun r27 =>
   some r27))
theorem playlist_Seen_ok (n : Nat) (l_0 : (List S_api_Segment)) (arrived_1 : (List Int)) (t_2 : Int) (window_3 : Int) (l_0v : Value) (arrived_1v : Value) {r : S_api_Playlist} (h : playlist_Seen n l_0 arrived_1 t_2 window_3 = some r) :
  Meets Tryz.prog 20 [l_0v, arrived_1v, .int .i64 t_2, .int .i64 window_3] [ro l_0v 20 (l_0.map S_api_Segment.enc), ro arrived_1v 1 (arrived_1.map (eInt .i64))] (fun v G => ∃ v0, v = .agg #[.int .i64 r.First, v0, .bool r.Done] ∧ G = [ro v0 20 (r.L.map S_api_Segment.enc)]) := by
 refine fn_of_run Tryz.func20 rfl Tryz.ntmps20 rfl (fun w0 o0 => ?_)
 refine run_seq ?_
 refine run_region' ?_
 refine ot rfl rfl (t_box rfl) ?_
 rintro _ _ ⟨b1, rfl, rfl⟩
 refine ot rfl rfl (t_alloc Tryz.zeroValue24) ?_
 rintro _ _ ⟨b2, rfl, rfl⟩
 refine ops_nil ?_
 refine goes_code ?_
 refine run_seq ?_
 refine run_region' ?_
 refine oy rfl rfl (y_move rfl) ?_
 refine oy rfl rfl (y_makeFunc (vs := [boxP b1 0]) rfl) ?_
 obtain ⟨r3, hr4, h⟩ := obind_some h
 refine ot rfl rfl (t_callx (vs := [arrived_1v, .func (.func 66) #[] #[boxP b1 0]]) (cs := []) [(1, 0), (2, 2)] rfl Tryz.call65 rfl (slices_IndexFunc_int_int_65_v1_ok n arrived_1 t_2 arrived_1v b1 hr4) (showsX_view 1 rfl views_ro (showsX_lend 2 rfl showsX_nil)) rfl (.inl rfl)) ?_
 rintro _ _ ⟨_, ⟨rfl, rfl⟩, rfl⟩
 refine oy rfl rfl (y_assign rfl) ?_
 refine ops_nil ?_
 refine goes_code ?_
 obtain ⟨o6, h, ho7⟩ := bindJ_some h
 refine run_cut ((Int) × (Unit)) (fun σ => [(9, .int .i64 σ.1), (0, l_0v), (3, .int .i64 window_3), (8, boxP b2 0)]) (fun σ => [ro l_0v 20 (l_0.map S_api_Segment.enc), box b2 [.int .i64 0, .slice none 0 0, .bool false]]) (fun σ => o6 = .go σ.1) (fun L9 hL8 => ?_) ?_
 ·
  refine run_seq ?_
  refine run_region' ?_
  refine oy rfl rfl (y_move rfl) ?_
  refine oy rfl rfl (y_lss rfl rfl) ?_
  refine ops_nil ?_
  refine goes_code ?_
  refine run_cond (decide (r3 < 0)) rfl (fun hc10 => ?_) (fun hc10 => ?_)
  ·replace h := cond_t h hc10
   refine run_weak [(0, l_0v), (3, .int .i64 window_3), (8, boxP b2 0)] [0, 3] [ro l_0v 20 (l_0.map S_api_Segment.enc), box b2 [.int .i64 0, .slice none 0 0, .bool false]] (qv3 rfl rfl rfl) (by decide) rfl ?_
   refine run_region' ?_
   refine oy rfl rfl (y_move rfl) ?_
   refine oy rfl rfl ((y_len 0 rfl Tryz.runUnderlying22 rfl rfl reads_ro).to (v_len S_api_Segment.enc _)) ?_
   refine oy rfl rfl (y_assign rfl) ?_
   refine ops_nil ?_
   obtain rfl := some_eq h
   exact goes_cut hL8 ((l_0.length : Int), ()) [0, 1] (qv4 rfl rfl rfl rfl) (by decide) rfl rfl
  ·replace h := cond_f h hc10
   refine run_skip ?_
   obtain rfl := some_eq h
   exact goes_cut hL8 (r3, ()) [0, 3] (qv4 rfl rfl rfl rfl) (by decide) rfl rfl
 rintro ⟨n_5, _⟩ hj
 obtain rfl : o6 = _ := hj
 replace h := after_go ho7
 clear ho7
 change Run _ _ _ (VF.of [(9, .int .i64 n_5), (0, l_0v), (3, .int .i64 window_3), (8, boxP b2 0)]) [ro l_0v 20 (l_0.map S_api_Segment.enc), box b2 [.int .i64 0, .slice none 0 0, .bool false]]
 refine run_seq ?_
 refine run_region' ?_
 refine ot rfl rfl (t_alloc Tryz.zeroValue24) ?_
 rintro _ _ ⟨b11, rfl, rfl⟩
 refine ops_nil ?_
 refine goes_code ?_
 obtain ⟨o15, h, ho16⟩ := bindJ_some h
 refine run_cut ((Int × (List S_api_Segment)) × (Value)) (fun σ => [(3, .int .i64 window_3), (8, boxP b2 0), (10, boxP b11 0)]) (fun σ => [box b2 [.int .i64 0, .slice none 0 0, .bool false], box b11 [.int .i64 σ.1.1, σ.2, .bool false], row σ.2 20 (σ.1.2.map S_api_Segment.enc)]) (fun σ => o15 = .go σ.1) (fun L18 hL17 => ?_) ?_
 ·
  refine run_seq ?_
  refine run_region' ?_
  refine oy rfl rfl (y_move rfl) ?_
  refine oy rfl rfl ((y_len 0 rfl Tryz.runUnderlying22 rfl rfl reads_ro).to (v_len S_api_Segment.enc _)) ?_
  refine oy rfl rfl (y_gtr rfl rfl) ?_
  refine ops_nil ?_
  refine goes_code ?_
  refine run_cond (decide (0 < (l_0.length : Int))) rfl (fun hc19 => ?_) (fun hc19 => ?_)
  ·replace h := cond_t h hc19
   refine run_drawany [ro l_0v 20 (l_0.map S_api_Segment.enc), box b2 [.int .i64 0, .slice none 0 0, .bool false], HA.emp] (by kernel_rfl) ?_
   refine any_y 0 rfl (by kernel_rfl) (by kernel_rfl) (by kernel_rfl) (ss (ss (se (sn)))) (wn rfl) rfl (y_move rfl) ?_
   obtain ⟨x20, hzx20, hlx20, hxx20, h⟩ := idx_some h
   refine any_y 1 rfl (by kernel_rfl) (by kernel_rfl) (by kernel_rfl) (ss (ss (se (sn)))) (wn rfl) rfl (y_indexAddrI (kd := .i64) (i := 0) 0 Tryz.runUnderlying22 Tryz.sizeOf57 rfl rfl rfl reads_ro hzx20 (map_lt hlx20)) ?_
   refine any_y 2 rfl (by kernel_rfl) (by kernel_rfl) (by kernel_rfl) (ss (ss (se (sn)))) (wn rfl) rfl (y_fieldAddr_elem (sz := 0) Tryz.runUnderlying57 rfl Tryz.sizeOf3 rfl) ?_
   refine any_y 3 rfl (by kernel_rfl) (by kernel_rfl) (by kernel_rfl) (ss (ss (se (sn)))) (wn rfl) rfl (y_load_field (i := (0 : Int).toNat) (j := 0) 0 Tryz.isAgg3 rfl rfl reads_ro (map_get hxx20) rfl) ?_
   refine any_y 4 rfl (by kernel_rfl) (by kernel_rfl) (by kernel_rfl) (ss (ss (se (sn)))) (wn rfl) rfl (y_move rfl) ?_
   refine any_y 5 rfl (by kernel_rfl) (by kernel_rfl) (by kernel_rfl) (ss (ss (se (sn)))) (wn rfl) rfl (y_move rfl) ?_
   obtain ⟨hb21, h⟩ := need_some h
   refine any_y 6 rfl (by kernel_rfl) (by kernel_rfl) (by kernel_rfl) (ss (ss (se (sn)))) (wn rfl) rfl (y_slice (l := 0) (r := n_5) 0 Tryz.runUnderlying22 Tryz.sizeOf57 rfl rfl reads_ro bi0 (bi1 (kd := .i64) rfl) hb21.1 hb21.2.1 (map_len_le hb21.2.2)) ?_
   refine any_turn (turn_sub (l := (0 : Int).toNat) (r := n_5.toNat) 0 rfl (by omega) (map_toNat_le hb21.2.2)) ?_
   refine any_turn (retell 3 (g := ro (subS l_0v 20 ((0 : Int).toNat) n_5.toNat) 20 ((l_0.take n_5.toNat).map S_api_Segment.enc)) rfl (congrArg (ro _ _) (sub_hi _ _ _))) ?_
   refine any_all [7] (by kernel_rfl) rfl (anyo_cons ?_ anyo_nil)
   obtain ⟨r22, hr23, h⟩ := obind_some h
   refine any_t rfl (wn rfl) rfl (t_callx (vs := [(subS l_0v 20 ((0 : Int).toNat) n_5.toNat)]) (cs := []) [(3, 0)] rfl Tryz.call40 rfl (slices_Clone_weirgate_api_Segment_weirgate_api_Segment_40_ok (l_0.take n_5.toNat) (subS l_0v 20 ((0 : Int).toNat) n_5.toNat) hr23) (showsX_view 3 rfl views_ro showsX_nil) rfl (.inl rfl)) ?_
   rintro v24 _ ⟨_, ⟨_, rfl, rfl⟩, rfl⟩
   refine ⟨(ss (ss (se (sn)))), ?_⟩
   refine any_all [8] (by kernel_rfl) rfl (anyo_cons ?_ anyo_nil)
   refine anyo_slc 4 rfl reads_row (fun hs25 hs25o => ?_)
   refine any_ty rfl (wn rfl) rfl (y_build_struct (cells := #[.int .i64 x20.Num, v24, .bool false]) [(0, .int .i64 x20.Num), (1, v24)] [(0, [.int .i64 x20.Num]), (1, [v24])] Tryz.zeroValue24 Tryz.runUnderlying24 (fs_cons Tryz.sizeOf3 (fs_cons Tryz.sizeOf22 (fs_cons Tryz.sizeOf4 fs_nil))) rfl (by first | (simp only [List.map_cons, List.map_nil, hs25]; done) | (simp only [List.map_cons, List.map_nil, hs25]; rfl)) rfl) ⟨(ss (ss (se (sn)))), ?_⟩
   refine any_all [9] (by kernel_rfl) rfl (anyo_cons ?_ anyo_nil)
   refine anyo_slc 4 rfl reads_row (fun hs26 hs26o => ?_)
   refine any_t rfl (wn rfl) rfl (t_store 2 Tryz.sizeOf24 rfl rfl rfl rfl (by simp [Value.cells, boxP]) (allL_cons rfl (allL_cons hs26o (allL_cons rfl (allL_nil))))) ?_
   rintro _ _ ⟨rfl, rfl⟩
   refine ⟨(ss (ss (se (sn)))), ?_⟩
   refine any_turn (retell 2 (g := box b11 [.int .i64 x20.Num, v24, .bool false]) rfl rfl) ?_
   refine any_nil (by kernel_rfl) ?_
   obtain rfl := some_eq h
   exact goes_cut hL17 ((x20.Num, r22), v24) [1, 2, 4] (qv3 rfl rfl rfl) (by decide) rfl rfl
  ·replace h := cond_f h hc19
   refine run_skip ?_
   refine goes_turn (nilrow 20) ?_
   refine goes_turn (retell 3 (g := row (.slice none 0 0) 20 (([] : List S_api_Segment).map S_api_Segment.enc)) rfl rfl) ?_
   obtain rfl := some_eq h
   exact goes_cut hL17 ((0, ([] : List S_api_Segment)), (.slice none 0 0)) [1, 2, 3] (qv3 rfl rfl rfl) (by decide) rfl rfl
 rintro ⟨⟨x_12, x_13⟩, v14⟩ hj
 obtain rfl : o15 = _ := hj
 replace h := after_go ho16
 clear ho16
 change Run _ _ _ (VF.of [(3, .int .i64 window_3), (8, boxP b2 0), (10, boxP b11 0)]) [box b2 [.int .i64 0, .slice none 0 0, .bool false], box b11 [.int .i64 x_12, v14, .bool false], row v14 20 (x_13.map S_api_Segment.enc)]
 refine run_seq ?_
 refine run_region' ?_
 refine oy rfl rfl (y_load_boxagg (c := [.int .i64 x_12, v14, .bool false]) 1 Tryz.isAgg24 Tryz.sizeOf24 rfl rfl rfl) ?_
 refine oy rfl rfl (y_move rfl) ?_
 refine ops_turn (Go.Abs.freeze 2 rfl) ?_
 obtain ⟨r27, hr28, h⟩ := obind_some h
 refine ot rfl rfl (t_callx (vs := [.agg #[.int .i64 x_12, v14, .bool false], .int .i64 window_3]) (cs := []) [(2, 0)] rfl Tryz.call41 rfl (playlist_cut_ok (S_api_Playlist.mk x_12 x_13 false) window_3 v14 hr28) (showsX_view 2 rfl views_ro showsX_nil) rfl (.inl rfl)) ?_
 rintro _ _ ⟨_, ⟨v29, rfl, rfl⟩, rfl⟩
 refine ops_slc 3 rfl reads_ro (fun hs30 hs30o => ?_)
 refine ot rfl rfl (t_store 0 Tryz.sizeOf24 rfl rfl rfl rfl (by simp [Value.cells, boxP]) (allL_cons rfl (allL_cons hs30o (allL_cons rfl (allL_nil))))) ?_
 rintro _ _ ⟨rfl, rfl⟩
 refine ops_turn (retell 0 (g := box b2 [.int .i64 r27.First, v29, .bool r27.Done]) rfl rfl) ?_
 refine ops_nil ?_
 refine goes_code ?_
 refine run_ret ?_
 obtain rfl := some_eq h
 refine fin_res [.cell 8 24] [.agg #[.int .i64 r27.First, v29, .bool r27.Done]] [3] [ro v29 20 (r27.L.map S_api_Segment.enc)] Tryz.results20 rfl (rescons (res_box 0 Tryz.isAgg24 Tryz.sizeOf24 rfl rfl rfl) resnil) (by decide) rfl ?_
 exact ⟨_, rfl, rfl⟩

end Go.Proofs.YtbgpojdmdnkeaaaGreatDoor
