/-
  Functions that the law PlaylistReadsAsSpecified needs, lifted.
-/
import Derived.Test.YtbgpojdmdnkeaaaGreatDoorM8
namespace Go.Proofs.YtbgpojdmdnkeaaaGreatDoor
open Go.Abs
set_option linter.unusedVariables false
set_option linter.unusedSimpArgs false
set_option maxRecDepth 20000
set_option maxHeartbeats 4000000

def ref43_decimal_L1 : (Int × (List UInt8)) → Option (Lp (Int × (List UInt8)) (Lp (Int × (List UInt8)) ((List UInt8)))) :=
 fun (n_7, out_8) =>
  cond (decide (10 ≤ n_7))
   (need (([((IntKind.u8.wrap (IntKind.i64.wrap (48 + (n_7.tmod 10))))).toNat.toUInt8] : List UInt8).length + out_8.length ≤ 4294967296) (
   some (.go ((IntKind.i64.wrap (n_7.tdiv 10)), (([((IntKind.u8.wrap (IntKind.i64.wrap (48 + (n_7.tmod 10))))).toNat.toUInt8] : List UInt8) ++ out_8)))))
   (some (.stop (.go (n_7, out_8))))
def ref43_decimal (n : Nat) (n_0 : Int) : Option ((List UInt8)) :=
 bindJ (S := Int × (List UInt8))
  (iter (ref43_decimal_L1) n (n_0, []))
 (fun (n_1, out_2) =>
  need (([((IntKind.u8.wrap (IntKind.i64.wrap (48 + n_1)))).toNat.toUInt8] : List UInt8).length + out_2.length ≤ 4294967296) (
  some (([((IntKind.u8.wrap (IntKind.i64.wrap (48 + n_1)))).toNat.toUInt8] : List UInt8) ++ out_2)))
theorem ref43_decimal_ok (n : Nat) (n_0 : Int)  {r : (List UInt8)} (h : ref43_decimal n n_0 = some r) :
  Meets Tryz.prog 46 [.int .i64 n_0] [] (fun v G => v = .string (bs r) ∧ G = []) := by
 refine fn_of_run Tryz.func46 rfl Tryz.ntmps46 rfl (fun w0 o0 => ?_)
 refine run_seq ?_
 refine run_region' ?_
 refine oy rfl rfl (y_assign rfl) ?_
 refine ops_nil ?_
 refine goes_code ?_
 refine run_seq ?_
 refine run_region' ?_
 refine oy rfl rfl (y_assign rfl) ?_
 refine ops_nil ?_
 refine goes_code ?_
 obtain ⟨o3, h, ho4⟩ := bindJ_some h
 refine run_cut ((Int × (List UInt8)) × (Unit)) (fun σ => [(0, .int .i64 σ.1.1), (3, .string (bs σ.1.2))]) (fun σ => []) (fun σ => o3 = .go σ.1) (fun L6 hL5 => ?_) ?_
 ·
  refine run_block ?_
  refine run_iter (step := ref43_decimal_L1) (n := n) (s0 := (n_0, [])) h (G := Unit) () (fun σ γ => [(0, .int .i64 σ.1), (3, .string (bs σ.2))]) (fun σ γ => []) [] (qv2 rfl rfl) (by decide) rfl ?_
  rintro ⟨n_7, out_8⟩ _ o9 h L12 hgo10 hstop11
  change Run _ _ _ (VF.of [(0, .int .i64 n_7), (3, .string (bs out_8))]) []
  refine run_seq ?_
  refine run_seq ?_
  refine run_region' ?_
  refine oy rfl rfl (y_move rfl) ?_
  refine oy rfl rfl (y_geq rfl rfl) ?_
  refine ops_nil ?_
  refine goes_code ?_
  refine run_cond (decide (10 ≤ n_7)) rfl (fun hc13 => ?_) (fun hc13 => ?_)
  ·replace h := cond_t h hc13
   refine run_skip ?_
   refine goes_code ?_
   refine run_block ?_
   refine run_seq ?_
   refine run_region' ?_
   refine oy rfl rfl (y_move rfl) ?_
   refine oy rfl rfl (y_rem rfl rfl (by decide)) ?_
   refine oy rfl rfl (y_add rfl rfl) ?_
   refine oy rfl rfl (y_conv Tryz.runUnderlying3 Tryz.runUnderlying5 rfl) ?_
   refine ot rfl rfl (t_lit [.int .u8 (IntKind.u8.wrap (IntKind.i64.wrap (48 + (n_7.tmod 10))))] Tryz.runUnderlying97 Tryz.sizeOf5 Tryz.zeroValue5 rfl (by decide) (by decide) rfl (by simp [Value.cells, boxP])) ?_
   rintro v14 _ ⟨rfl, _⟩
   refine ops_turn (retell 0 (g := row v14 1 (([((IntKind.u8.wrap (IntKind.i64.wrap (48 + (n_7.tmod 10))))).toNat.toUInt8] : List UInt8).map eB8)) rfl (congrArg (row _ _) (by simp only [List.map_cons, List.map_nil, eB8_back]; rfl))) ?_
   refine oy rfl rfl (y_b2s (l := ([((IntKind.u8.wrap (IntKind.i64.wrap (48 + (n_7.tmod 10))))).toNat.toUInt8] : List UInt8)) 0 Tryz.runUnderlying97 Tryz.runUnderlying5 Tryz.runUnderlying9 rfl rfl reads_row) ?_
   refine oy rfl rfl (y_move rfl) ?_
   obtain ⟨hs15, h⟩ := need_some h
   refine oy rfl rfl (y_sadd rfl rfl hs15) ?_
   refine oy rfl rfl (y_assign rfl) ?_
   refine ops_nil ?_
   refine goes_code ?_
   refine run_weak [(0, .int .i64 n_7), (3, .string (bs (([((IntKind.u8.wrap (IntKind.i64.wrap (48 + (n_7.tmod 10))))).toNat.toUInt8] : List UInt8) ++ out_8)))] [] [] (qv2 rfl rfl) (by decide) rfl ?_
   refine run_region' ?_
   refine oy rfl rfl (y_move rfl) ?_
   refine oy rfl rfl (y_quo rfl rfl (by decide)) ?_
   refine oy rfl rfl (y_assign rfl) ?_
   refine ops_nil ?_
   refine goes_blk ?_
   obtain rfl := some_eq h
   exact goes_iter hgo10 ((IntKind.i64.wrap (n_7.tdiv 10)), (([((IntKind.u8.wrap (IntKind.i64.wrap (48 + (n_7.tmod 10))))).toNat.toUInt8] : List UInt8) ++ out_8)) () [] rfl (qv2 rfl rfl) (by decide) rfl
  ·replace h := cond_f h hc13
   refine run_exit _ rfl ?_
   obtain rfl := some_eq h
   obtain rfl := hstop11 _ rfl
   exact goes_cut hL5 ((n_7, out_8), ()) [] (qv2 rfl rfl) (by decide) rfl rfl
 rintro ⟨⟨n_1, out_2⟩, _⟩ hj
 obtain rfl : o3 = _ := hj
 replace h := after_go ho4
 clear ho4
 change Run _ _ _ (VF.of [(0, .int .i64 n_1), (3, .string (bs out_2))]) []
 refine run_seq ?_
 refine run_region' ?_
 refine oy rfl rfl (y_move rfl) ?_
 refine oy rfl rfl (y_add rfl rfl) ?_
 refine oy rfl rfl (y_conv Tryz.runUnderlying3 Tryz.runUnderlying5 rfl) ?_
 refine ot rfl rfl (t_lit [.int .u8 (IntKind.u8.wrap (IntKind.i64.wrap (48 + n_1)))] Tryz.runUnderlying97 Tryz.sizeOf5 Tryz.zeroValue5 rfl (by decide) (by decide) rfl (by simp [Value.cells, boxP])) ?_
 rintro v16 _ ⟨rfl, _⟩
 refine ops_turn (retell 0 (g := row v16 1 (([((IntKind.u8.wrap (IntKind.i64.wrap (48 + n_1)))).toNat.toUInt8] : List UInt8).map eB8)) rfl (congrArg (row _ _) (by simp only [List.map_cons, List.map_nil, eB8_back]; rfl))) ?_
 refine oy rfl rfl (y_b2s (l := ([((IntKind.u8.wrap (IntKind.i64.wrap (48 + n_1)))).toNat.toUInt8] : List UInt8)) 0 Tryz.runUnderlying97 Tryz.runUnderlying5 Tryz.runUnderlying9 rfl rfl reads_row) ?_
 refine oy rfl rfl (y_move rfl) ?_
 obtain ⟨hs17, h⟩ := need_some h
 refine oy rfl rfl (y_sadd rfl rfl hs17) ?_
 refine oy rfl rfl (y_assign rfl) ?_
 refine ops_nil ?_
 refine goes_code ?_
 refine run_ret ?_
 obtain rfl := some_eq h
 refine fin_slots [2] [.string (bs (([((IntKind.u8.wrap (IntKind.i64.wrap (48 + n_1)))).toNat.toUInt8] : List UInt8) ++ out_2))] [] [] Tryz.results46 rfl (by decide) rfl ?_
 exact ⟨rfl, rfl⟩

def ref43_digit (n_0 : Int) : Option ((List UInt8)) :=
 cond (decide (n_0 < 10))
  (some ([((IntKind.u8.wrap (IntKind.i64.wrap (48 + n_0)))).toNat.toUInt8] : List UInt8))
  (some ([((IntKind.u8.wrap (IntKind.i64.wrap ((IntKind.i64.wrap (97 + n_0)) - 10)))).toNat.toUInt8] : List UInt8))
theorem ref43_digit_ok (n_0 : Int)  {r : (List UInt8)} (h : ref43_digit n_0 = some r) :
  Meets Tryz.prog 73 [.int .i64 n_0] [] (fun v G => v = .string (bs r) ∧ G = []) := by
 refine fn_of_run Tryz.func73 rfl Tryz.ntmps73 rfl (fun w0 o0 => ?_)
 refine run_seq ?_
 refine run_region' ?_
 refine oy rfl rfl (y_assign rfl) ?_
 refine ops_nil ?_
 refine goes_code ?_
 refine run_seq ?_
 refine run_seq ?_
 refine run_region' ?_
 refine oy rfl rfl (y_move rfl) ?_
 refine oy rfl rfl (y_lss rfl rfl) ?_
 refine ops_nil ?_
 refine goes_code ?_
 refine run_cond (decide (n_0 < 10)) rfl (fun hc1 => ?_) (fun hc1 => ?_)
 ·replace h := cond_t h hc1
  refine run_seq ?_
  refine run_region' ?_
  refine oy rfl rfl (y_move rfl) ?_
  refine oy rfl rfl (y_add rfl rfl) ?_
  refine oy rfl rfl (y_conv Tryz.runUnderlying3 Tryz.runUnderlying5 rfl) ?_
  refine ot rfl rfl (t_lit [.int .u8 (IntKind.u8.wrap (IntKind.i64.wrap (48 + n_0)))] Tryz.runUnderlying97 Tryz.sizeOf5 Tryz.zeroValue5 rfl (by decide) (by decide) rfl (by simp [Value.cells, boxP])) ?_
  rintro v2 _ ⟨rfl, _⟩
  refine ops_turn (retell 0 (g := row v2 1 (([((IntKind.u8.wrap (IntKind.i64.wrap (48 + n_0)))).toNat.toUInt8] : List UInt8).map eB8)) rfl (congrArg (row _ _) (by simp only [List.map_cons, List.map_nil, eB8_back]; rfl))) ?_
  refine oy rfl rfl (y_b2s (l := ([((IntKind.u8.wrap (IntKind.i64.wrap (48 + n_0)))).toNat.toUInt8] : List UInt8)) 0 Tryz.runUnderlying97 Tryz.runUnderlying5 Tryz.runUnderlying9 rfl rfl reads_row) ?_
  refine oy rfl rfl (y_assign rfl) ?_
  refine ops_nil ?_
  refine goes_code ?_
  refine run_ret ?_
  obtain rfl := some_eq h
  refine fin_slots [2] [.string (bs ([((IntKind.u8.wrap (IntKind.i64.wrap (48 + n_0)))).toNat.toUInt8] : List UInt8))] [] [] Tryz.results73 rfl (by decide) rfl ?_
  exact ⟨rfl, rfl⟩
 ·replace h := cond_f h hc1
  refine run_skip ?_
  refine goes_code ?_
  refine run_seq ?_
  refine run_region' ?_
  refine oy rfl rfl (y_move rfl) ?_
  refine oy rfl rfl (y_add rfl rfl) ?_
  refine oy rfl rfl (y_sub rfl rfl) ?_
  refine oy rfl rfl (y_conv Tryz.runUnderlying3 Tryz.runUnderlying5 rfl) ?_
  refine ot rfl rfl (t_lit [.int .u8 (IntKind.u8.wrap (IntKind.i64.wrap ((IntKind.i64.wrap (97 + n_0)) - 10)))] Tryz.runUnderlying97 Tryz.sizeOf5 Tryz.zeroValue5 rfl (by decide) (by decide) rfl (by simp [Value.cells, boxP])) ?_
  rintro v3 _ ⟨rfl, _⟩
  refine ops_turn (retell 0 (g := row v3 1 (([((IntKind.u8.wrap (IntKind.i64.wrap ((IntKind.i64.wrap (97 + n_0)) - 10)))).toNat.toUInt8] : List UInt8).map eB8)) rfl (congrArg (row _ _) (by simp only [List.map_cons, List.map_nil, eB8_back]; rfl))) ?_
  refine oy rfl rfl (y_b2s (l := ([((IntKind.u8.wrap (IntKind.i64.wrap ((IntKind.i64.wrap (97 + n_0)) - 10)))).toNat.toUInt8] : List UInt8)) 0 Tryz.runUnderlying97 Tryz.runUnderlying5 Tryz.runUnderlying9 rfl rfl reads_row) ?_
  refine oy rfl rfl (y_assign rfl) ?_
  refine ops_nil ?_
  refine goes_code ?_
  refine run_ret ?_
  obtain rfl := some_eq h
  refine fin_slots [2] [.string (bs ([((IntKind.u8.wrap (IntKind.i64.wrap ((IntKind.i64.wrap (97 + n_0)) - 10)))).toNat.toUInt8] : List UInt8))] [] [] Tryz.results73 rfl (by decide) rfl ?_
  exact ⟨rfl, rfl⟩

def ref43_hex_L1 (d_0 : S_api_Digest) : ((List UInt8) × Int) → Option (Lp ((List UInt8) × Int) (Lp ((List UInt8)) ((List UInt8)))) :=
 fun (out_7, i_8) =>
  cond (decide (i_8 < 16))
   (need (0 ≤ i_8 ∧ i_8 < 16) (
   obind (some (S_api_Digest.get d_0 i_8)) fun x15 =>
   need (0 ≤ i_8 ∧ i_8 < 16) (
   obind (some (S_api_Digest.get d_0 i_8)) fun x17 =>
   obind (ref43_digit (IntKind.i64.wrap ((IntKind.i64.wrap x15).tdiv 16))) fun r18 =>
   need (out_7.length + r18.length ≤ 4294967296) (
   obind (ref43_digit ((IntKind.i64.wrap x17).tmod 16)) fun r21 =>
   need ((out_7 ++ r18).length + r21.length ≤ 4294967296) (
   some (.go (((out_7 ++ r18) ++ r21), (IntKind.i64.wrap (i_8 + 1)))))))))
   (some (.stop (.go out_7)))
def ref43_hex (n : Nat) (d_0 : S_api_Digest) : Option ((List UInt8)) :=
 bindJ (S := (List UInt8))
  (iter (ref43_hex_L1 d_0) n ([], 0))
 (fun out_2 =>
  some out_2)
theorem ref43_hex_ok (n : Nat) (d_0 : S_api_Digest)  {r : (List UInt8)} (h : ref43_hex n d_0 = some r) :
  Meets Tryz.prog 47 [.agg #[.int .u8 d_0.a0_, .int .u8 d_0.a1_, .int .u8 d_0.a2_, .int .u8 d_0.a3_, .int .u8 d_0.a4_, .int .u8 d_0.a5_, .int .u8 d_0.a6_, .int .u8 d_0.a7_, .int .u8 d_0.a8_, .int .u8 d_0.a9_, .int .u8 d_0.a10_, .int .u8 d_0.a11_, .int .u8 d_0.a12_, .int .u8 d_0.a13_, .int .u8 d_0.a14_, .int .u8 d_0.a15_]] [] (fun v G => v = .string (bs r) ∧ G = []) := by
 refine fn_of_run Tryz.func47 rfl Tryz.ntmps47 rfl (fun w0 o0 => ?_)
 refine run_seq ?_
 refine run_region' ?_
 refine ot rfl rfl (t_box rfl) ?_
 rintro _ _ ⟨b1, rfl, rfl⟩
 refine oy rfl rfl (y_assign rfl) ?_
 refine ops_nil ?_
 refine goes_code ?_
 refine run_seq ?_
 refine run_region' ?_
 refine oy rfl rfl (y_assign rfl) ?_
 refine ops_nil ?_
 refine goes_code ?_
 obtain ⟨o3, h, ho4⟩ := bindJ_some h
 refine run_cut (((List UInt8)) × (Unit)) (fun σ => [(3, .string (bs σ.1))]) (fun σ => []) (fun σ => o3 = .go σ.1) (fun L6 hL5 => ?_) ?_
 ·
  refine run_seq ?_
  refine run_region' ?_
  refine oy rfl rfl (y_assign rfl) ?_
  refine ops_nil ?_
  refine goes_code ?_
  refine run_block ?_
  refine run_iter (step := ref43_hex_L1 d_0) (n := n) (s0 := ([], 0)) h (G := Unit) () (fun σ γ => [(3, .string (bs σ.1)), (4, .int .i64 σ.2), (1, boxP b1 0)]) (fun σ γ => [box b1 [.int .u8 d_0.a0_, .int .u8 d_0.a1_, .int .u8 d_0.a2_, .int .u8 d_0.a3_, .int .u8 d_0.a4_, .int .u8 d_0.a5_, .int .u8 d_0.a6_, .int .u8 d_0.a7_, .int .u8 d_0.a8_, .int .u8 d_0.a9_, .int .u8 d_0.a10_, .int .u8 d_0.a11_, .int .u8 d_0.a12_, .int .u8 d_0.a13_, .int .u8 d_0.a14_, .int .u8 d_0.a15_]]) [0] (qv3 rfl rfl rfl) (by decide) rfl ?_
  rintro ⟨out_7, i_8⟩ _ o9 h L12 hgo10 hstop11
  change Run _ _ _ (VF.of [(3, .string (bs out_7)), (4, .int .i64 i_8), (1, boxP b1 0)]) [box b1 [.int .u8 d_0.a0_, .int .u8 d_0.a1_, .int .u8 d_0.a2_, .int .u8 d_0.a3_, .int .u8 d_0.a4_, .int .u8 d_0.a5_, .int .u8 d_0.a6_, .int .u8 d_0.a7_, .int .u8 d_0.a8_, .int .u8 d_0.a9_, .int .u8 d_0.a10_, .int .u8 d_0.a11_, .int .u8 d_0.a12_, .int .u8 d_0.a13_, .int .u8 d_0.a14_, .int .u8 d_0.a15_]]
  refine run_seq ?_
  refine run_seq ?_
  refine run_region' ?_
  refine oy rfl rfl (y_move rfl) ?_
  refine oy rfl rfl (y_lss rfl rfl) ?_
  refine ops_nil ?_
  refine goes_code ?_
  refine run_cond (decide (i_8 < 16)) rfl (fun hc13 => ?_) (fun hc13 => ?_)
  ·replace h := cond_t h hc13
   refine run_skip ?_
   refine goes_code ?_
   refine run_seq ?_
   refine run_block ?_
   refine run_drawany [box b1 [.int .u8 d_0.a0_, .int .u8 d_0.a1_, .int .u8 d_0.a2_, .int .u8 d_0.a3_, .int .u8 d_0.a4_, .int .u8 d_0.a5_, .int .u8 d_0.a6_, .int .u8 d_0.a7_, .int .u8 d_0.a8_, .int .u8 d_0.a9_, .int .u8 d_0.a10_, .int .u8 d_0.a11_, .int .u8 d_0.a12_, .int .u8 d_0.a13_, .int .u8 d_0.a14_, .int .u8 d_0.a15_]] (by kernel_rfl) ?_
   refine any_y 0 rfl (by kernel_rfl) (by kernel_rfl) (by kernel_rfl) (ss (sn)) (wn rfl) rfl (y_move rfl) ?_
   refine any_y 1 rfl (by kernel_rfl) (by kernel_rfl) (by kernel_rfl) (ss (sn)) (wn rfl) rfl (y_move rfl) ?_
   obtain ⟨hi14, h⟩ := need_some h
   refine any_y 2 rfl (by kernel_rfl) (by kernel_rfl) (by kernel_rfl) (ss (sn)) (wn rfl) rfl (y_indexAddr_boxI (i := i_8) Tryz.runUnderlying55 Tryz.sizeOf5 rfl rfl hi14) ?_
   obtain ⟨x15, hxx15, h⟩ := obind_some h
   refine any_y 3 rfl (by kernel_rfl) (by kernel_rfl) (by kernel_rfl) (ss (sn)) (wn rfl) rfl (y_load_box 0 Tryz.isAgg5 rfl rfl (arr_get (F := (eInt .u8)) (es := 1) (j := 0) (fun x => ((eInt_ok _) x).1) (S_api_Digest.get_at (p := d_0) hi14 hxx15) rfl [] [])) ?_
   refine any_y 4 rfl (by kernel_rfl) (by kernel_rfl) (by kernel_rfl) (ss (sn)) (wn rfl) rfl (y_conv Tryz.runUnderlying5 Tryz.runUnderlying3 rfl) ?_
   refine any_y 5 rfl (by kernel_rfl) (by kernel_rfl) (by kernel_rfl) (ss (sn)) (wn rfl) rfl (y_quo rfl rfl (by decide)) ?_
   refine any_y 8 rfl (by kernel_rfl) (by kernel_rfl) (by kernel_rfl) (ss (sn)) (wn rfl) rfl (y_move rfl) ?_
   obtain ⟨hi16, h⟩ := need_some h
   refine any_y 9 rfl (by kernel_rfl) (by kernel_rfl) (by kernel_rfl) (ss (sn)) (wn rfl) rfl (y_indexAddr_boxI (i := i_8) Tryz.runUnderlying55 Tryz.sizeOf5 rfl rfl hi16) ?_
   obtain ⟨x17, hxx17, h⟩ := obind_some h
   refine any_y 10 rfl (by kernel_rfl) (by kernel_rfl) (by kernel_rfl) (ss (sn)) (wn rfl) rfl (y_load_box 0 Tryz.isAgg5 rfl rfl (arr_get (F := (eInt .u8)) (es := 1) (j := 0) (fun x => ((eInt_ok _) x).1) (S_api_Digest.get_at (p := d_0) hi16 hxx17) rfl [] [])) ?_
   refine any_y 11 rfl (by kernel_rfl) (by kernel_rfl) (by kernel_rfl) (ss (sn)) (wn rfl) rfl (y_conv Tryz.runUnderlying5 Tryz.runUnderlying3 rfl) ?_
   refine any_y 12 rfl (by kernel_rfl) (by kernel_rfl) (by kernel_rfl) (ss (sn)) (wn rfl) rfl (y_rem rfl rfl (by decide)) ?_
   refine any_all [6] (by kernel_rfl) rfl (anyo_cons ?_ anyo_nil)
   obtain ⟨r18, hr19, h⟩ := obind_some h
   refine any_t rfl (wn rfl) rfl (t_callx (vs := [.int .i64 (IntKind.i64.wrap ((IntKind.i64.wrap x15).tdiv 16))]) (cs := []) [] rfl Tryz.call73 rfl (ref43_digit_ok (IntKind.i64.wrap ((IntKind.i64.wrap x15).tdiv 16))  hr19) showsX_nil rfl (.inl rfl)) ?_
   rintro _ _ ⟨_, ⟨rfl, rfl⟩, rfl⟩
   refine ⟨(ss (sn)), ?_⟩
   obtain ⟨hs20, h⟩ := need_some h
   refine any_y 7 rfl (by kernel_rfl) (by kernel_rfl) (by kernel_rfl) (ss (sn)) (wn rfl) rfl (y_sadd rfl rfl hs20) ?_
   refine any_all [13] (by kernel_rfl) rfl (anyo_cons ?_ anyo_nil)
   obtain ⟨r21, hr22, h⟩ := obind_some h
   refine any_t rfl (wn rfl) rfl (t_callx (vs := [.int .i64 ((IntKind.i64.wrap x17).tmod 16)]) (cs := []) [] rfl Tryz.call73 rfl (ref43_digit_ok ((IntKind.i64.wrap x17).tmod 16)  hr22) showsX_nil rfl (.inl rfl)) ?_
   rintro _ _ ⟨_, ⟨rfl, rfl⟩, rfl⟩
   refine ⟨(ss (sn)), ?_⟩
   obtain ⟨hs23, h⟩ := need_some h
   refine any_y 14 rfl (by kernel_rfl) (by kernel_rfl) (by kernel_rfl) (ss (sn)) (wn rfl) rfl (y_sadd rfl rfl hs23) ?_
   refine any_y 15 rfl (by kernel_rfl) (by kernel_rfl) (by kernel_rfl) (ss (sn)) (wn rfl) rfl (y_assign rfl) ?_
   refine any_nil (by kernel_rfl) ?_
   refine goes_blk ?_
   refine goes_code ?_
   refine run_weak [(3, .string (bs ((out_7 ++ r18) ++ r21))), (4, .int .i64 i_8), (1, boxP b1 0)] [0] [box b1 [.int .u8 d_0.a0_, .int .u8 d_0.a1_, .int .u8 d_0.a2_, .int .u8 d_0.a3_, .int .u8 d_0.a4_, .int .u8 d_0.a5_, .int .u8 d_0.a6_, .int .u8 d_0.a7_, .int .u8 d_0.a8_, .int .u8 d_0.a9_, .int .u8 d_0.a10_, .int .u8 d_0.a11_, .int .u8 d_0.a12_, .int .u8 d_0.a13_, .int .u8 d_0.a14_, .int .u8 d_0.a15_]] (qv3 rfl rfl rfl) (by decide) rfl ?_
   refine run_region' ?_
   refine oy rfl rfl (y_move rfl) ?_
   refine oy rfl rfl (y_add rfl rfl) ?_
   refine oy rfl rfl (y_assign rfl) ?_
   refine ops_nil ?_
   obtain rfl := some_eq h
   exact goes_iter hgo10 (((out_7 ++ r18) ++ r21), (IntKind.i64.wrap (i_8 + 1))) () [0] rfl (qv3 rfl rfl rfl) (by decide) rfl
  ·replace h := cond_f h hc13
   refine run_exit _ rfl ?_
   obtain rfl := some_eq h
   obtain rfl := hstop11 _ rfl
   exact goes_cut hL5 (out_7, ()) [] (qv1 rfl) (by decide) rfl rfl
 rintro ⟨out_2, _⟩ hj
 obtain rfl : o3 = _ := hj
 replace h := after_go ho4
 clear ho4
 change Run _ _ _ (VF.of [(3, .string (bs out_2))]) []
 refine run_seq ?_
 refine run_region' ?_
 refine oy rfl rfl (y_move rfl) ?_
 refine oy rfl rfl (y_assign rfl) ?_
 refine ops_nil ?_
 refine goes_code ?_
 refine run_ret ?_
 obtain rfl := some_eq h
 refine fin_slots [2] [.string (bs out_2)] [] [] Tryz.results47 rfl (by decide) rfl ?_
 exact ⟨rfl, rfl⟩

def ref43_Text_L1 (n : Nat) (p_0 : S_api_Playlist) : ((List UInt8) × Int) → Option (Lp ((List UInt8) × Int) (Lp ((List UInt8)) (S_ref43_Written))) :=
 fun (out_15, i_16) =>
  cond (decide (i_16 < (p_0.L.length : Int)))
   (idx p_0.L i_16 fun x22 =>
   obind (ref43_decimal n x22.Begin) fun r23 =>
   need (out_15.length + r23.length ≤ 4294967296) (
   need ((out_15 ++ r23).length + [32].length ≤ 4294967296) (
   obind (ref43_decimal n x22.Len) fun r27 =>
   need (((out_15 ++ r23) ++ [32]).length + r27.length ≤ 4294967296) (
   need ((((out_15 ++ r23) ++ [32]) ++ r27).length + [32].length ≤ 4294967296) (
   obind (ref43_decimal n x22.Size) fun r31 =>
   need (((((out_15 ++ r23) ++ [32]) ++ r27) ++ [32]).length + r31.length ≤ 4294967296) (
   need ((((((out_15 ++ r23) ++ [32]) ++ r27) ++ [32]) ++ r31).length + [32].length ≤ 4294967296) (
   obind (ref43_hex n x22.Body) fun r35 =>
   need (((((((out_15 ++ r23) ++ [32]) ++ r27) ++ [32]) ++ r31) ++ [32]).length + r35.length ≤ 4294967296) (
   need ((((((((out_15 ++ r23) ++ [32]) ++ r27) ++ [32]) ++ r31) ++ [32]) ++ r35).length + [10].length ≤ 4294967296) (
   some (.go (((((((((out_15 ++ r23) ++ [32]) ++ r27) ++ [32]) ++ r31) ++ [32]) ++ r35) ++ [10]), (IntKind.i64.wrap (i_16 + 1)))))))))))))
   (some (.stop (.go out_15)))
def ref43_Text (n : Nat) (p_0 : S_api_Playlist) : Option (S_ref43_Written) :=
 obind (ref43_Valid n p_0) fun r3 =>
 cond (!r3)
  (some (S_ref43_Written.mk [] 3))
  (obind (ref43_decimal n p_0.First) fun r6 =>
  need ([108, 105, 118, 101, 32].length + r6.length ≤ 4294967296) (
  need (([108, 105, 118, 101, 32] ++ r6).length + [10].length ≤ 4294967296) (
  bindJ (S := (List UInt8))
   (iter (ref43_Text_L1 n p_0) n ((([108, 105, 118, 101, 32] ++ r6) ++ [10]), 0))
  (fun out_10 =>
   bindJ (S := (List UInt8))
    (cond p_0.Done
     (need (out_10.length + [100, 111, 110, 101, 10].length ≤ 4294967296) (
     some (.go (out_10 ++ [100, 111, 110, 101, 10]))))
     (some (.go out_10)))
   (fun out_39 =>
    some (S_ref43_Written.mk out_39 0))))))
theorem ref43_Text_ok (n : Nat) (p_0 : S_api_Playlist) (p_0_Lv : Value) {r : S_ref43_Written} (h : ref43_Text n p_0 = some r) :
  Meets Tryz.prog 13 [.agg #[.int .i64 p_0.First, p_0_Lv, .bool p_0.Done]] [ro p_0_Lv 20 (p_0.L.map S_api_Segment.enc)] (fun v G => v = .agg #[.string (bs r.S), .int .i64 r.E] ∧ G = []) := by
 refine fn_of_run Tryz.func13 rfl Tryz.ntmps13 rfl (fun w0 o0 => ?_)
 refine run_seq ?_
 refine run_region' ?_
 refine ot rfl rfl (t_box rfl) ?_
 rintro _ _ ⟨b1, rfl, rfl⟩
 refine ot rfl rfl (t_alloc Tryz.zeroValue38) ?_
 rintro _ _ ⟨b2, rfl, rfl⟩
 refine ops_nil ?_
 refine goes_code ?_
 refine run_seq ?_
 refine run_region' ?_
 refine oy rfl rfl (y_load_boxagg (c := [.int .i64 p_0.First, p_0_Lv, .bool p_0.Done]) 1 Tryz.isAgg24 Tryz.sizeOf24 rfl rfl rfl) ?_
 obtain ⟨r3, hr4, h⟩ := obind_some h
 refine ot rfl rfl (t_callx (vs := [.agg #[.int .i64 p_0.First, p_0_Lv, .bool p_0.Done]]) (cs := []) [(0, 0)] rfl Tryz.call7 rfl (ref43_Valid_ok n p_0 p_0_Lv hr4) (showsX_view 0 rfl views_ro showsX_nil) rfl (.inl rfl)) ?_
 rintro _ _ ⟨_, ⟨rfl, rfl⟩, rfl⟩
 refine oy rfl rfl (y_assign rfl) ?_
 refine ops_nil ?_
 refine goes_code ?_
 refine run_seq ?_
 refine run_seq ?_
 refine run_region' ?_
 refine oy rfl rfl (y_move rfl) ?_
 refine oy rfl rfl (y_not rfl) ?_
 refine ops_nil ?_
 refine goes_code ?_
 refine run_cond (!r3) rfl (fun hc5 => ?_) (fun hc5 => ?_)
 ·replace h := cond_t h hc5
  refine run_seq ?_
  refine run_region' ?_
  refine oy rfl rfl (y_build_struct (cells := #[.string (bs []), .int .i64 3]) [(1, .int .i64 3)] [(1, [.int .i64 3])] Tryz.zeroValue38 Tryz.runUnderlying38 (fs_cons Tryz.sizeOf9 (fs_cons Tryz.sizeOf27 fs_nil)) rfl rfl rfl) ?_
  refine ot rfl rfl (t_store 2 Tryz.sizeOf38 rfl rfl rfl rfl (by simp [Value.cells, boxP]) (by simp [Value.cells, Value.oneCell', boxP])) ?_
  rintro _ _ ⟨rfl, rfl⟩
  refine ops_turn (retell 2 (g := box b2 [.string (bs []), .int .i64 3]) rfl rfl) ?_
  refine ops_nil ?_
  refine goes_code ?_
  refine run_ret ?_
  obtain rfl := some_eq h
  refine fin_res [.cell 2 38] [.agg #[.string (bs []), .int .i64 3]] [] [] Tryz.results13 rfl (rescons (res_box 2 Tryz.isAgg38 Tryz.sizeOf38 rfl rfl rfl) resnil) (by decide) rfl ?_
  exact ⟨rfl, rfl⟩
 ·replace h := cond_f h hc5
  refine run_skip ?_
  refine goes_code ?_
  refine run_seq ?_
  refine run_region' ?_
  refine oy rfl rfl (y_fieldAddr_box (sz := 0) Tryz.runUnderlying24 rfl Tryz.sizeOf3 rfl) ?_
  refine oy rfl rfl (y_load_box 1 Tryz.isAgg3 rfl rfl rfl) ?_
  obtain ⟨r6, hr7, h⟩ := obind_some h
  refine ot rfl rfl (t_callx (vs := [.int .i64 p_0.First]) (cs := []) [] rfl Tryz.call46 rfl (ref43_decimal_ok n p_0.First  hr7) showsX_nil rfl (.inl rfl)) ?_
  rintro _ _ ⟨_, ⟨rfl, rfl⟩, rfl⟩
  obtain ⟨hs8, h⟩ := need_some h
  refine oy rfl rfl (y_sadd rfl rfl hs8) ?_
  obtain ⟨hs9, h⟩ := need_some h
  refine oy rfl rfl (y_sadd rfl rfl hs9) ?_
  refine oy rfl rfl (y_assign rfl) ?_
  refine ops_nil ?_
  refine goes_code ?_
  obtain ⟨o11, h, ho12⟩ := bindJ_some h
  refine run_cut (((List UInt8)) × (Unit)) (fun σ => [(4, .string (bs σ.1)), (1, boxP b1 0), (2, boxP b2 0)]) (fun σ => [box b1 [.int .i64 p_0.First, p_0_Lv, .bool p_0.Done], ro p_0_Lv 20 (p_0.L.map S_api_Segment.enc), box b2 [.string (bs []), .int .i64 0]]) (fun σ => o11 = .go σ.1) (fun L14 hL13 => ?_) ?_
  ·
   refine run_seq ?_
   refine run_weak [(1, boxP b1 0), (2, boxP b2 0), (4, .string (bs (([108, 105, 118, 101, 32] ++ r6) ++ [10])))] [0, 1, 2] [ro p_0_Lv 20 (p_0.L.map S_api_Segment.enc), box b1 [.int .i64 p_0.First, p_0_Lv, .bool p_0.Done], box b2 [.string (bs []), .int .i64 0]] (qv3 rfl rfl rfl) (by decide) rfl ?_
   refine run_region' ?_
   refine oy rfl rfl (y_assign rfl) ?_
   refine ops_nil ?_
   refine goes_code ?_
   refine run_block ?_
   refine run_iter (step := ref43_Text_L1 n p_0) (n := n) (s0 := ((([108, 105, 118, 101, 32] ++ r6) ++ [10]), 0)) h (G := Unit) () (fun σ γ => [(4, .string (bs σ.1)), (5, .int .i64 σ.2), (1, boxP b1 0), (2, boxP b2 0)]) (fun σ γ => [box b1 [.int .i64 p_0.First, p_0_Lv, .bool p_0.Done], ro p_0_Lv 20 (p_0.L.map S_api_Segment.enc), box b2 [.string (bs []), .int .i64 0]]) [1, 0, 2] (qv4 rfl rfl rfl rfl) (by decide) rfl ?_
   rintro ⟨out_15, i_16⟩ _ o17 h L20 hgo18 hstop19
   change Run _ _ _ (VF.of [(4, .string (bs out_15)), (5, .int .i64 i_16), (1, boxP b1 0), (2, boxP b2 0)]) [box b1 [.int .i64 p_0.First, p_0_Lv, .bool p_0.Done], ro p_0_Lv 20 (p_0.L.map S_api_Segment.enc), box b2 [.string (bs []), .int .i64 0]]
   refine run_seq ?_
   refine run_seq ?_
   refine run_region' ?_
   refine oy rfl rfl (y_move rfl) ?_
   refine oy rfl rfl (y_fieldAddr_box (sz := 0) Tryz.runUnderlying24 rfl Tryz.sizeOf22 rfl) ?_
   refine oy rfl rfl (y_load_box 0 Tryz.isAgg22 rfl rfl rfl) ?_
   refine oy rfl rfl ((y_len 1 rfl Tryz.runUnderlying22 rfl rfl reads_ro).to (v_len S_api_Segment.enc _)) ?_
   refine oy rfl rfl (y_lss rfl rfl) ?_
   refine ops_nil ?_
   refine goes_code ?_
   refine run_cond (decide (i_16 < (p_0.L.length : Int))) rfl (fun hc21 => ?_) (fun hc21 => ?_)
   ·replace h := cond_t h hc21
    refine run_skip ?_
    refine goes_code ?_
    refine run_seq ?_
    refine run_block ?_
    refine run_drawany [box b1 [.int .i64 p_0.First, p_0_Lv, .bool p_0.Done], ro p_0_Lv 20 (p_0.L.map S_api_Segment.enc), box b2 [.string (bs []), .int .i64 0]] (by kernel_rfl) ?_
    refine any_y 0 rfl (by kernel_rfl) (by kernel_rfl) (by kernel_rfl) (ss (ss (ss (sn)))) (wn rfl) rfl (y_move rfl) ?_
    refine any_y 1 rfl (by kernel_rfl) (by kernel_rfl) (by kernel_rfl) (ss (ss (ss (sn)))) (wn rfl) rfl (y_fieldAddr_box (sz := 0) Tryz.runUnderlying24 rfl Tryz.sizeOf22 rfl) ?_
    refine any_y 2 rfl (by kernel_rfl) (by kernel_rfl) (by kernel_rfl) (ss (ss (ss (sn)))) (wn rfl) rfl (y_load_box 0 Tryz.isAgg22 rfl rfl rfl) ?_
    refine any_y 3 rfl (by kernel_rfl) (by kernel_rfl) (by kernel_rfl) (ss (ss (ss (sn)))) (wn rfl) rfl (y_move rfl) ?_
    obtain ⟨x22, hzx22, hlx22, hxx22, h⟩ := idx_some h
    refine any_y 4 rfl (by kernel_rfl) (by kernel_rfl) (by kernel_rfl) (ss (ss (ss (sn)))) (wn rfl) rfl (y_indexAddrI (kd := .i64) (i := i_16) 1 Tryz.runUnderlying22 Tryz.sizeOf57 rfl rfl rfl reads_ro hzx22 (map_lt hlx22)) ?_
    refine any_y 5 rfl (by kernel_rfl) (by kernel_rfl) (by kernel_rfl) (ss (ss (ss (sn)))) (wn rfl) rfl (y_fieldAddr_elem (sz := 0) Tryz.runUnderlying57 rfl Tryz.sizeOf3 rfl) ?_
    refine any_y 6 rfl (by kernel_rfl) (by kernel_rfl) (by kernel_rfl) (ss (ss (ss (sn)))) (wn rfl) rfl (y_load_field (i := i_16.toNat) (j := 1) 1 Tryz.isAgg3 rfl rfl reads_ro (map_get hxx22) rfl) ?_
    refine any_y 10 rfl (by kernel_rfl) (by kernel_rfl) (by kernel_rfl) (ss (ss (ss (sn)))) (wn rfl) rfl (y_fieldAddr_box (sz := 0) Tryz.runUnderlying24 rfl Tryz.sizeOf22 rfl) ?_
    refine any_y 11 rfl (by kernel_rfl) (by kernel_rfl) (by kernel_rfl) (ss (ss (ss (sn)))) (wn rfl) rfl (y_load_box 0 Tryz.isAgg22 rfl rfl rfl) ?_
    refine any_y 12 rfl (by kernel_rfl) (by kernel_rfl) (by kernel_rfl) (ss (ss (ss (sn)))) (wn rfl) rfl (y_move rfl) ?_
    refine any_y 13 rfl (by kernel_rfl) (by kernel_rfl) (by kernel_rfl) (ss (ss (ss (sn)))) (wn rfl) rfl (y_indexAddrI (kd := .i64) (i := i_16) 1 Tryz.runUnderlying22 Tryz.sizeOf57 rfl rfl rfl reads_ro hzx22 (map_lt hlx22)) ?_
    refine any_y 14 rfl (by kernel_rfl) (by kernel_rfl) (by kernel_rfl) (ss (ss (ss (sn)))) (wn rfl) rfl (y_fieldAddr_elem (sz := 0) Tryz.runUnderlying57 rfl Tryz.sizeOf3 rfl) ?_
    refine any_y 15 rfl (by kernel_rfl) (by kernel_rfl) (by kernel_rfl) (ss (ss (ss (sn)))) (wn rfl) rfl (y_load_field (i := i_16.toNat) (j := 2) 1 Tryz.isAgg3 rfl rfl reads_ro (map_get hxx22) rfl) ?_
    refine any_y 19 rfl (by kernel_rfl) (by kernel_rfl) (by kernel_rfl) (ss (ss (ss (sn)))) (wn rfl) rfl (y_fieldAddr_box (sz := 0) Tryz.runUnderlying24 rfl Tryz.sizeOf22 rfl) ?_
    refine any_y 20 rfl (by kernel_rfl) (by kernel_rfl) (by kernel_rfl) (ss (ss (ss (sn)))) (wn rfl) rfl (y_load_box 0 Tryz.isAgg22 rfl rfl rfl) ?_
    refine any_y 21 rfl (by kernel_rfl) (by kernel_rfl) (by kernel_rfl) (ss (ss (ss (sn)))) (wn rfl) rfl (y_move rfl) ?_
    refine any_y 22 rfl (by kernel_rfl) (by kernel_rfl) (by kernel_rfl) (ss (ss (ss (sn)))) (wn rfl) rfl (y_indexAddrI (kd := .i64) (i := i_16) 1 Tryz.runUnderlying22 Tryz.sizeOf57 rfl rfl rfl reads_ro hzx22 (map_lt hlx22)) ?_
    refine any_y 23 rfl (by kernel_rfl) (by kernel_rfl) (by kernel_rfl) (ss (ss (ss (sn)))) (wn rfl) rfl (y_fieldAddr_elem (sz := 0) Tryz.runUnderlying57 rfl Tryz.sizeOf3 rfl) ?_
    refine any_y 24 rfl (by kernel_rfl) (by kernel_rfl) (by kernel_rfl) (ss (ss (ss (sn)))) (wn rfl) rfl (y_load_field (i := i_16.toNat) (j := 19) 1 Tryz.isAgg3 rfl rfl reads_ro (map_get hxx22) rfl) ?_
    refine any_y 28 rfl (by kernel_rfl) (by kernel_rfl) (by kernel_rfl) (ss (ss (ss (sn)))) (wn rfl) rfl (y_fieldAddr_box (sz := 0) Tryz.runUnderlying24 rfl Tryz.sizeOf22 rfl) ?_
    refine any_y 29 rfl (by kernel_rfl) (by kernel_rfl) (by kernel_rfl) (ss (ss (ss (sn)))) (wn rfl) rfl (y_load_box 0 Tryz.isAgg22 rfl rfl rfl) ?_
    refine any_y 30 rfl (by kernel_rfl) (by kernel_rfl) (by kernel_rfl) (ss (ss (ss (sn)))) (wn rfl) rfl (y_move rfl) ?_
    refine any_y 31 rfl (by kernel_rfl) (by kernel_rfl) (by kernel_rfl) (ss (ss (ss (sn)))) (wn rfl) rfl (y_indexAddrI (kd := .i64) (i := i_16) 1 Tryz.runUnderlying22 Tryz.sizeOf57 rfl rfl rfl reads_ro hzx22 (map_lt hlx22)) ?_
    refine any_y 32 rfl (by kernel_rfl) (by kernel_rfl) (by kernel_rfl) (ss (ss (ss (sn)))) (wn rfl) rfl (y_fieldAddr_elem (sz := 15) Tryz.runUnderlying57 rfl Tryz.sizeOf55 rfl) ?_
    refine any_y 33 rfl (by kernel_rfl) (by kernel_rfl) (by kernel_rfl) (ss (ss (ss (sn)))) (wn rfl) rfl (y_load_part (i := i_16.toNat) (j := 3) (c := [.int .i64 x22.Num, .int .i64 x22.Begin, .int .i64 x22.Len, .int .u8 x22.Body.a0_, .int .u8 x22.Body.a1_, .int .u8 x22.Body.a2_, .int .u8 x22.Body.a3_, .int .u8 x22.Body.a4_, .int .u8 x22.Body.a5_, .int .u8 x22.Body.a6_, .int .u8 x22.Body.a7_, .int .u8 x22.Body.a8_, .int .u8 x22.Body.a9_, .int .u8 x22.Body.a10_, .int .u8 x22.Body.a11_, .int .u8 x22.Body.a12_, .int .u8 x22.Body.a13_, .int .u8 x22.Body.a14_, .int .u8 x22.Body.a15_, .int .i64 x22.Size]) (r := [.int .u8 x22.Body.a0_, .int .u8 x22.Body.a1_, .int .u8 x22.Body.a2_, .int .u8 x22.Body.a3_, .int .u8 x22.Body.a4_, .int .u8 x22.Body.a5_, .int .u8 x22.Body.a6_, .int .u8 x22.Body.a7_, .int .u8 x22.Body.a8_, .int .u8 x22.Body.a9_, .int .u8 x22.Body.a10_, .int .u8 x22.Body.a11_, .int .u8 x22.Body.a12_, .int .u8 x22.Body.a13_, .int .u8 x22.Body.a14_, .int .u8 x22.Body.a15_]) 1 Tryz.isAgg55 Tryz.sizeOf55 rfl rfl reads_ro (map_get hxx22) rfl) ?_
    refine any_all [7] (by kernel_rfl) rfl (anyo_cons ?_ anyo_nil)
    obtain ⟨r23, hr24, h⟩ := obind_some h
    refine any_t rfl (wn rfl) rfl (t_callx (vs := [.int .i64 x22.Begin]) (cs := []) [] rfl Tryz.call46 rfl (ref43_decimal_ok n x22.Begin  hr24) showsX_nil rfl (.inl rfl)) ?_
    rintro _ _ ⟨_, ⟨rfl, rfl⟩, rfl⟩
    refine ⟨(ss (ss (ss (sn)))), ?_⟩
    obtain ⟨hs25, h⟩ := need_some h
    refine any_y 8 rfl (by kernel_rfl) (by kernel_rfl) (by kernel_rfl) (ss (ss (ss (sn)))) (wn rfl) rfl (y_sadd rfl rfl hs25) ?_
    obtain ⟨hs26, h⟩ := need_some h
    refine any_y 9 rfl (by kernel_rfl) (by kernel_rfl) (by kernel_rfl) (ss (ss (ss (sn)))) (wn rfl) rfl (y_sadd rfl rfl hs26) ?_
    refine any_all [16] (by kernel_rfl) rfl (anyo_cons ?_ anyo_nil)
    obtain ⟨r27, hr28, h⟩ := obind_some h
    refine any_t rfl (wn rfl) rfl (t_callx (vs := [.int .i64 x22.Len]) (cs := []) [] rfl Tryz.call46 rfl (ref43_decimal_ok n x22.Len  hr28) showsX_nil rfl (.inl rfl)) ?_
    rintro _ _ ⟨_, ⟨rfl, rfl⟩, rfl⟩
    refine ⟨(ss (ss (ss (sn)))), ?_⟩
    obtain ⟨hs29, h⟩ := need_some h
    refine any_y 17 rfl (by kernel_rfl) (by kernel_rfl) (by kernel_rfl) (ss (ss (ss (sn)))) (wn rfl) rfl (y_sadd rfl rfl hs29) ?_
    obtain ⟨hs30, h⟩ := need_some h
    refine any_y 18 rfl (by kernel_rfl) (by kernel_rfl) (by kernel_rfl) (ss (ss (ss (sn)))) (wn rfl) rfl (y_sadd rfl rfl hs30) ?_
    refine any_all [25] (by kernel_rfl) rfl (anyo_cons ?_ anyo_nil)
    obtain ⟨r31, hr32, h⟩ := obind_some h
    refine any_t rfl (wn rfl) rfl (t_callx (vs := [.int .i64 x22.Size]) (cs := []) [] rfl Tryz.call46 rfl (ref43_decimal_ok n x22.Size  hr32) showsX_nil rfl (.inl rfl)) ?_
    rintro _ _ ⟨_, ⟨rfl, rfl⟩, rfl⟩
    refine ⟨(ss (ss (ss (sn)))), ?_⟩
    obtain ⟨hs33, h⟩ := need_some h
    refine any_y 26 rfl (by kernel_rfl) (by kernel_rfl) (by kernel_rfl) (ss (ss (ss (sn)))) (wn rfl) rfl (y_sadd rfl rfl hs33) ?_
    obtain ⟨hs34, h⟩ := need_some h
    refine any_y 27 rfl (by kernel_rfl) (by kernel_rfl) (by kernel_rfl) (ss (ss (ss (sn)))) (wn rfl) rfl (y_sadd rfl rfl hs34) ?_
    refine any_all [34] (by kernel_rfl) rfl (anyo_cons ?_ anyo_nil)
    obtain ⟨r35, hr36, h⟩ := obind_some h
    refine any_t rfl (wn rfl) rfl (t_callx (vs := [.agg #[.int .u8 x22.Body.a0_, .int .u8 x22.Body.a1_, .int .u8 x22.Body.a2_, .int .u8 x22.Body.a3_, .int .u8 x22.Body.a4_, .int .u8 x22.Body.a5_, .int .u8 x22.Body.a6_, .int .u8 x22.Body.a7_, .int .u8 x22.Body.a8_, .int .u8 x22.Body.a9_, .int .u8 x22.Body.a10_, .int .u8 x22.Body.a11_, .int .u8 x22.Body.a12_, .int .u8 x22.Body.a13_, .int .u8 x22.Body.a14_, .int .u8 x22.Body.a15_]]) (cs := []) [] rfl Tryz.call47 rfl (ref43_hex_ok n x22.Body  hr36) showsX_nil rfl (.inl rfl)) ?_
    rintro _ _ ⟨_, ⟨rfl, rfl⟩, rfl⟩
    refine ⟨(ss (ss (ss (sn)))), ?_⟩
    obtain ⟨hs37, h⟩ := need_some h
    refine any_y 35 rfl (by kernel_rfl) (by kernel_rfl) (by kernel_rfl) (ss (ss (ss (sn)))) (wn rfl) rfl (y_sadd rfl rfl hs37) ?_
    obtain ⟨hs38, h⟩ := need_some h
    refine any_y 36 rfl (by kernel_rfl) (by kernel_rfl) (by kernel_rfl) (ss (ss (ss (sn)))) (wn rfl) rfl (y_sadd rfl rfl hs38) ?_
    refine any_y 37 rfl (by kernel_rfl) (by kernel_rfl) (by kernel_rfl) (ss (ss (ss (sn)))) (wn rfl) rfl (y_assign rfl) ?_
    refine any_nil (by kernel_rfl) ?_
    refine goes_blk ?_
    refine goes_code ?_
    refine run_weak [(4, .string (bs ((((((((out_15 ++ r23) ++ [32]) ++ r27) ++ [32]) ++ r31) ++ [32]) ++ r35) ++ [10]))), (5, .int .i64 i_16), (1, boxP b1 0), (2, boxP b2 0)] [0, 1, 2] [box b1 [.int .i64 p_0.First, p_0_Lv, .bool p_0.Done], ro p_0_Lv 20 (p_0.L.map S_api_Segment.enc), box b2 [.string (bs []), .int .i64 0]] (qv4 rfl rfl rfl rfl) (by decide) rfl ?_
    refine run_region' ?_
    refine oy rfl rfl (y_move rfl) ?_
    refine oy rfl rfl (y_add rfl rfl) ?_
    refine oy rfl rfl (y_assign rfl) ?_
    refine ops_nil ?_
    obtain rfl := some_eq h
    exact goes_iter hgo18 (((((((((out_15 ++ r23) ++ [32]) ++ r27) ++ [32]) ++ r31) ++ [32]) ++ r35) ++ [10]), (IntKind.i64.wrap (i_16 + 1))) () [0, 1, 2] rfl (qv4 rfl rfl rfl rfl) (by decide) rfl
   ·replace h := cond_f h hc21
    refine run_exit _ rfl ?_
    obtain rfl := some_eq h
    obtain rfl := hstop19 _ rfl
    exact goes_cut hL13 (out_15, ()) [0, 1, 2] (qv3 rfl rfl rfl) (by decide) rfl rfl
  rintro ⟨out_10, _⟩ hj
  obtain rfl : o11 = _ := hj
  replace h := after_go ho12
  clear ho12
  change Run _ _ _ (VF.of [(4, .string (bs out_10)), (1, boxP b1 0), (2, boxP b2 0)]) [box b1 [.int .i64 p_0.First, p_0_Lv, .bool p_0.Done], ro p_0_Lv 20 (p_0.L.map S_api_Segment.enc), box b2 [.string (bs []), .int .i64 0]]
  obtain ⟨o40, h, ho41⟩ := bindJ_some h
  refine run_cut (((List UInt8)) × (Unit)) (fun σ => [(4, .string (bs σ.1)), (2, boxP b2 0)]) (fun σ => [box b2 [.string (bs []), .int .i64 0]]) (fun σ => o40 = .go σ.1) (fun L43 hL42 => ?_) ?_
  ·
   refine run_seq ?_
   refine run_region' ?_
   refine oy rfl rfl (y_fieldAddr_box (sz := 0) Tryz.runUnderlying24 rfl Tryz.sizeOf4 rfl) ?_
   refine oy rfl rfl (y_load_box 0 Tryz.isAgg4 rfl rfl rfl) ?_
   refine ops_nil ?_
   refine goes_code ?_
   refine run_cond p_0.Done rfl (fun hc44 => ?_) (fun hc44 => ?_)
   ·replace h := cond_t h hc44
    refine run_region' ?_
    refine oy rfl rfl (y_move rfl) ?_
    obtain ⟨hs45, h⟩ := need_some h
    refine oy rfl rfl (y_sadd rfl rfl hs45) ?_
    refine oy rfl rfl (y_assign rfl) ?_
    refine ops_nil ?_
    obtain rfl := some_eq h
    exact goes_cut hL42 ((out_10 ++ [100, 111, 110, 101, 10]), ()) [2] (qv2 rfl rfl) (by decide) rfl rfl
   ·replace h := cond_f h hc44
    refine run_skip ?_
    obtain rfl := some_eq h
    exact goes_cut hL42 (out_10, ()) [2] (qv2 rfl rfl) (by decide) rfl rfl
  rintro ⟨out_39, _⟩ hj
  obtain rfl : o40 = _ := hj
  replace h := after_go ho41
  clear ho41
  change Run _ _ _ (VF.of [(4, .string (bs out_39)), (2, boxP b2 0)]) [box b2 [.string (bs []), .int .i64 0]]
  refine run_seq ?_
  refine run_region' ?_
  refine oy rfl rfl (y_move rfl) ?_
  refine oy rfl rfl (y_build_struct (cells := #[.string (bs out_39), .int .i64 0]) [(0, .string (bs out_39))] [(0, [.string (bs out_39)])] Tryz.zeroValue38 Tryz.runUnderlying38 (fs_cons Tryz.sizeOf9 (fs_cons Tryz.sizeOf27 fs_nil)) rfl rfl rfl) ?_
  refine ot rfl rfl (t_store 0 Tryz.sizeOf38 rfl rfl rfl rfl (by simp [Value.cells, boxP]) (by simp [Value.cells, Value.oneCell', boxP])) ?_
  rintro _ _ ⟨rfl, rfl⟩
  refine ops_turn (retell 0 (g := box b2 [.string (bs out_39), .int .i64 0]) rfl rfl) ?_
  refine ops_nil ?_
  refine goes_code ?_
  refine run_ret ?_
  obtain rfl := some_eq h
  refine fin_res [.cell 2 38] [.agg #[.string (bs out_39), .int .i64 0]] [] [] Tryz.results13 rfl (rescons (res_box 0 Tryz.isAgg38 Tryz.sizeOf38 rfl rfl rfl) resnil) (by decide) rfl ?_
  exact ⟨rfl, rfl⟩

def ref43_split_L1 (s_0 : (List UInt8)) (by_1 : Int) : ((List (List UInt8)) × Int × Int) → Option (Lp ((List (List UInt8)) × Int × Int) (Lp ((List (List UInt8)) × Int) ((List (List UInt8))))) :=
 fun (out_8, from_9, i_10) =>
  cond (decide (i_10 < (s_0.length : Int)))
   (bindJ (S := (List (List UInt8)) × Int)
    (idx s_0 i_10 fun c24 =>
    cond (decide ((c24.toNat : Int) = by_1))
     (need (0 ≤ from_9 ∧ from_9 ≤ i_10 ∧ i_10 ≤ (s_0.length : Int)) (
     need (out_8.length + ([((s_0.take i_10.toNat).drop from_9.toNat)] : List (List UInt8)).length ≤ 4294967296) (
     some (.go ((out_8 ++ ([((s_0.take i_10.toNat).drop from_9.toNat)] : List (List UInt8))), (IntKind.i64.wrap (i_10 + 1)))))))
     (some (.go (out_8, from_9))))
   (fun (out_17, from_18) =>
    some (.go (out_17, from_18, (IntKind.i64.wrap (i_10 + 1))))))
   (some (.stop (.go (out_8, from_9))))
def ref43_split (n : Nat) (s_0 : (List UInt8)) (by_1 : Int) : Option ((List (List UInt8))) :=
 bindJ (S := (List (List UInt8)) × Int)
  (iter (ref43_split_L1 s_0 by_1) n (([] : List (List UInt8)), 0, 0))
 (fun (out_1, from_2) =>
  need (0 ≤ from_2 ∧ from_2 ≤ (s_0.length : Int) ∧ (s_0.length : Int) ≤ (s_0.length : Int)) (
  need (out_1.length + ([(s_0.drop from_2.toNat)] : List (List UInt8)).length ≤ 4294967296) (
  some (out_1 ++ ([(s_0.drop from_2.toNat)] : List (List UInt8))))))
theorem ref43_split_ok (n : Nat) (s_0 : (List UInt8)) (by_1 : Int)  {r : (List (List UInt8))} (h : ref43_split n s_0 by_1 = some r) :
  Meets Tryz.prog 54 [.string (bs s_0), .int .u8 by_1] [] (fun v G => ∃ v0, v = v0 ∧ G = [row v0 1 (r.map eStr)]) := by
 refine fn_of_run Tryz.func54 rfl Tryz.ntmps54 rfl (fun w0 o0 => ?_)
 refine run_seq ?_
 refine run_region' ?_
 refine oy rfl rfl (y_assign rfl) ?_
 refine ops_nil ?_
 refine goes_code ?_
 refine run_seq ?_
 refine run_region' ?_
 refine oy rfl rfl (y_assign rfl) ?_
 refine ops_nil ?_
 refine goes_code ?_
 refine run_seq ?_
 refine run_region' ?_
 refine oy rfl rfl (y_assign rfl) ?_
 refine ops_nil ?_
 refine goes_code ?_
 obtain ⟨o4, h, ho5⟩ := bindJ_some h
 refine run_cut (((List (List UInt8)) × Int) × (Value)) (fun σ => [(5, σ.2), (6, .int .i64 σ.1.2), (0, .string (bs s_0))]) (fun σ => [row σ.2 1 (σ.1.1.map eStr)]) (fun σ => o4 = .go σ.1) (fun L7 hL6 => ?_) ?_
 ·
  refine run_seq ?_
  refine run_region' ?_
  refine oy rfl rfl (y_assign rfl) ?_
  refine ops_nil ?_
  refine goes_code ?_
  refine run_block ?_
  refine run_turn (nilrow 1) ?_
  refine run_turn (retell 0 (g := row (.slice none 0 0) 1 (([] : List (List UInt8)).map eStr)) rfl rfl) ?_
  refine run_iter (step := ref43_split_L1 s_0 by_1) (n := n) (s0 := (([] : List (List UInt8)), 0, 0)) h (G := Value) (.slice none 0 0) (fun σ γ => [(5, γ), (6, .int .i64 σ.2.1), (7, .int .i64 σ.2.2), (0, .string (bs s_0)), (1, .int .u8 by_1)]) (fun σ γ => [row γ 1 (σ.1.map eStr)]) [0] (qv5 rfl rfl rfl rfl rfl) (by decide) rfl ?_
  rintro ⟨out_8, from_9, i_10⟩ v11 o12 h L15 hgo13 hstop14
  change Run _ _ _ (VF.of [(5, v11), (6, .int .i64 from_9), (7, .int .i64 i_10), (0, .string (bs s_0)), (1, .int .u8 by_1)]) [row v11 1 (out_8.map eStr)]
  refine run_seq ?_
  refine run_seq ?_
  refine run_region' ?_
  refine oy rfl rfl (y_move rfl) ?_
  refine oy rfl rfl (y_move rfl) ?_
  refine oy rfl rfl (y_len_str rfl Tryz.runUnderlying9 rfl) ?_
  refine oy rfl rfl (y_lss rfl rfl) ?_
  refine ops_nil ?_
  refine goes_code ?_
  refine run_cond (decide (i_10 < (s_0.length : Int))) rfl (fun hc16 => ?_) (fun hc16 => ?_)
  ·replace h := cond_t h hc16
   refine run_skip ?_
   refine goes_code ?_
   obtain ⟨o20, h, ho21⟩ := bindJ_some h
   refine run_cut (((List (List UInt8)) × Int) × (Value)) (fun σ => [(5, σ.2), (6, .int .i64 σ.1.2), (0, .string (bs s_0)), (1, .int .u8 by_1), (7, .int .i64 i_10)]) (fun σ => [row σ.2 1 (σ.1.1.map eStr)]) (fun σ => o20 = .go σ.1) (fun L23 hL22 => ?_) ?_
   ·
    refine run_block ?_
    refine run_seq ?_
    refine run_region' ?_
    refine oy rfl rfl (y_move rfl) ?_
    refine oy rfl rfl (y_move rfl) ?_
    obtain ⟨c24, hzc24, hlc24, hxc24, h⟩ := idx_some h
    refine oy rfl rfl (y_index_strI (kd := .i64) (i := i_10) Tryz.runUnderlying9 rfl rfl hzc24 hxc24) ?_
    refine oy rfl rfl (y_move rfl) ?_
    refine oy rfl rfl (y_eql rfl rfl) ?_
    refine ops_nil ?_
    refine goes_code ?_
    refine run_cond (decide ((c24.toNat : Int) = by_1)) rfl (fun hc25 => ?_) (fun hc25 => ?_)
    ·replace h := cond_t h hc25
     refine run_seq ?_
     refine run_weak [(5, v11), (6, .int .i64 from_9), (7, .int .i64 i_10), (0, .string (bs s_0)), (1, .int .u8 by_1)] [0] [row v11 1 (out_8.map eStr)] (qv5 rfl rfl rfl rfl rfl) (by decide) rfl ?_
     refine run_region' ?_
     refine oy rfl rfl (y_move rfl) ?_
     refine oy rfl rfl (y_move rfl) ?_
     refine oy rfl rfl (y_move rfl) ?_
     refine oy rfl rfl (y_move rfl) ?_
     obtain ⟨hb26, h⟩ := need_some h
     refine oy rfl rfl (y_slice_str (l := from_9) (r := i_10) Tryz.runUnderlying9 rfl (bi1 (kd := .i64) rfl) (bi1 (kd := .i64) rfl) hb26.1 hb26.2.1 hb26.2.2) ?_
     refine ot rfl rfl (t_lit [.string (bs ((s_0.take i_10.toNat).drop from_9.toNat))] Tryz.runUnderlying81 Tryz.sizeOf9 Tryz.zeroValue9 rfl (by decide) (by decide) rfl (by simp [Value.cells, boxP])) ?_
     rintro v27 _ ⟨rfl, _⟩
     refine ops_turn (retell 1 (g := row v27 1 (([((s_0.take i_10.toNat).drop from_9.toNat)] : List (List UInt8)).map eStr)) rfl rfl) ?_
     obtain ⟨hr29, h⟩ := need_some h
     refine ot rfl rfl (t_append (es := 1) 0 rfl Tryz.runUnderlying81 rfl Tryz.runUnderlying81 (.inr ⟨_, rfl⟩) Tryz.typeInfo9 rfl (by decide) Tryz.zeroValue9 rfl rfl rfl rfl (src_reads 1 rfl reads_row (map_ok eStr_ok _)) (map_room hr29 (by decide)) (map_fit hr29)) ?_
     rintro v28 _ rfl
     refine ops_turn (retell 0 (g := row v28 1 ((out_8 ++ ([((s_0.take i_10.toNat).drop from_9.toNat)] : List (List UInt8))).map eStr)) rfl (congrArg (row _ _) List.map_append.symm)) ?_
     refine oy rfl rfl (y_assign rfl) ?_
     refine ops_nil ?_
     refine goes_code ?_
     refine run_weak [(5, v28), (7, .int .i64 i_10), (0, .string (bs s_0)), (1, .int .u8 by_1)] [0] [row v28 1 ((out_8 ++ ([((s_0.take i_10.toNat).drop from_9.toNat)] : List (List UInt8))).map eStr)] (qv4 rfl rfl rfl rfl) (by decide) rfl ?_
     refine run_region' ?_
     refine oy rfl rfl (y_move rfl) ?_
     refine oy rfl rfl (y_add rfl rfl) ?_
     refine oy rfl rfl (y_assign rfl) ?_
     refine ops_nil ?_
     refine goes_blk ?_
     obtain rfl := some_eq h
     exact goes_cut hL22 (((out_8 ++ ([((s_0.take i_10.toNat).drop from_9.toNat)] : List (List UInt8))), (IntKind.i64.wrap (i_10 + 1))), v28) [0] (qv5 rfl rfl rfl rfl rfl) (by decide) rfl rfl
    ·replace h := cond_f h hc25
     refine run_skip ?_
     refine goes_blk ?_
     obtain rfl := some_eq h
     exact goes_cut hL22 ((out_8, from_9), v11) [0] (qv5 rfl rfl rfl rfl rfl) (by decide) rfl rfl
   rintro ⟨⟨out_17, from_18⟩, v19⟩ hj
   obtain rfl : o20 = _ := hj
   replace h := after_go ho21
   clear ho21
   change Run _ _ _ (VF.of [(5, v19), (6, .int .i64 from_18), (0, .string (bs s_0)), (1, .int .u8 by_1), (7, .int .i64 i_10)]) [row v19 1 (out_17.map eStr)]
   refine run_region' ?_
   refine oy rfl rfl (y_move rfl) ?_
   refine oy rfl rfl (y_add rfl rfl) ?_
   refine oy rfl rfl (y_assign rfl) ?_
   refine ops_nil ?_
   obtain rfl := some_eq h
   exact goes_iter hgo13 (out_17, from_18, (IntKind.i64.wrap (i_10 + 1))) v19 [0] rfl (qv5 rfl rfl rfl rfl rfl) (by decide) rfl
  ·replace h := cond_f h hc16
   refine run_exit _ rfl ?_
   obtain rfl := some_eq h
   obtain rfl := hstop14 _ rfl
   exact goes_cut hL6 ((out_8, from_9), v11) [0] (qv3 rfl rfl rfl) (by decide) rfl rfl
 rintro ⟨⟨out_1, from_2⟩, v3⟩ hj
 obtain rfl : o4 = _ := hj
 replace h := after_go ho5
 clear ho5
 change Run _ _ _ (VF.of [(5, v3), (6, .int .i64 from_2), (0, .string (bs s_0))]) [row v3 1 (out_1.map eStr)]
 refine run_seq ?_
 refine run_region' ?_
 refine oy rfl rfl (y_move rfl) ?_
 refine oy rfl rfl (y_move rfl) ?_
 refine oy rfl rfl (y_move rfl) ?_
 obtain ⟨hb30, h⟩ := need_some h
 refine oy rfl rfl (OpY.to (v' := .string (bs (s_0.drop from_2.toNat))) (y_slice_str (l := from_2) (r := (s_0.length : Int)) Tryz.runUnderlying9 rfl (bi1 (kd := .i64) rfl) bi0 hb30.1 hb30.2.1 hb30.2.2) (by simp)) ?_
 refine ot rfl rfl (t_lit [.string (bs (s_0.drop from_2.toNat))] Tryz.runUnderlying81 Tryz.sizeOf9 Tryz.zeroValue9 rfl (by decide) (by decide) rfl (by simp [Value.cells, boxP])) ?_
 rintro v31 _ ⟨rfl, _⟩
 refine ops_turn (retell 1 (g := row v31 1 (([(s_0.drop from_2.toNat)] : List (List UInt8)).map eStr)) rfl rfl) ?_
 obtain ⟨hr33, h⟩ := need_some h
 refine ot rfl rfl (t_append (es := 1) 0 rfl Tryz.runUnderlying81 rfl Tryz.runUnderlying81 (.inr ⟨_, rfl⟩) Tryz.typeInfo9 rfl (by decide) Tryz.zeroValue9 rfl rfl rfl rfl (src_reads 1 rfl reads_row (map_ok eStr_ok _)) (map_room hr33 (by decide)) (map_fit hr33)) ?_
 rintro v32 _ rfl
 refine ops_turn (retell 0 (g := row v32 1 ((out_1 ++ ([(s_0.drop from_2.toNat)] : List (List UInt8))).map eStr)) rfl (congrArg (row _ _) List.map_append.symm)) ?_
 refine oy rfl rfl (y_assign rfl) ?_
 refine ops_nil ?_
 refine goes_code ?_
 refine run_ret ?_
 obtain rfl := some_eq h
 refine fin_slots [4] [v32] [0] [row v32 1 ((out_1 ++ ([(s_0.drop from_2.toNat)] : List (List UInt8))).map eStr)] Tryz.results54 rfl (by decide) rfl ?_
 exact ⟨_, rfl, rfl⟩

def ref43_number_L1 (s_0 : (List UInt8)) : (Int × Int) → Option (Lp (Int × Int) (Lp (Int) (Int))) :=
 fun (n_6, i_7) =>
  cond (decide (i_7 < (s_0.length : Int)))
   (idx s_0 i_7 fun c13 =>
   bindJ (S := Bool)
    (cond (decide ((c13.toNat : Int) < 48))
     (some (.go true))
     (idx s_0 i_7 fun c20 =>
     some (.go (decide (57 < (c20.toNat : Int))))))
   (fun b14 =>
    cond (b14 || decide (1125899906842624 ≤ n_6))
     (some (.stop (.stop (-1))))
     (idx s_0 i_7 fun c25 =>
     some (.go ((IntKind.i64.wrap ((IntKind.i64.wrap (10 * n_6)) + (IntKind.i64.wrap (IntKind.u8.wrap ((c25.toNat : Int) - 48))))), (IntKind.i64.wrap (i_7 + 1)))))))
   (some (.stop (.go n_6)))
def ref43_number (n : Nat) (s_0 : (List UInt8)) : Option (Int) :=
 bindJ (S := Int)
  (iter (ref43_number_L1 s_0) n (0, 0))
 (fun n_1 =>
  obind (ref43_decimal n n_1) fun r26 =>
  cond (!decide (r26 = s_0))
   (some (-1))
   (some n_1))
theorem ref43_number_ok (n : Nat) (s_0 : (List UInt8))  {r : Int} (h : ref43_number n s_0 = some r) :
  Meets Tryz.prog 55 [.string (bs s_0)] [] (fun v G => v = .int .i64 r ∧ G = []) := by
 refine fn_of_run Tryz.func55 rfl Tryz.ntmps55 rfl (fun w0 o0 => ?_)
 refine run_seq ?_
 refine run_region' ?_
 refine oy rfl rfl (y_assign rfl) ?_
 refine ops_nil ?_
 refine goes_code ?_
 refine run_seq ?_
 refine run_region' ?_
 refine oy rfl rfl (y_assign rfl) ?_
 refine ops_nil ?_
 refine goes_code ?_
 obtain ⟨o2, h, ho3⟩ := bindJ_some h
 refine run_cut ((Int) × (Unit)) (fun σ => [(3, .int .i64 σ.1), (0, .string (bs s_0))]) (fun σ => []) (fun σ => o2 = .go σ.1) (fun L5 hL4 => ?_) ?_
 ·
  refine run_seq ?_
  refine run_region' ?_
  refine oy rfl rfl (y_assign rfl) ?_
  refine ops_nil ?_
  refine goes_code ?_
  refine run_block ?_
  refine run_iter (step := ref43_number_L1 s_0) (n := n) (s0 := (0, 0)) h (G := Unit) () (fun σ γ => [(3, .int .i64 σ.1), (4, .int .i64 σ.2), (0, .string (bs s_0))]) (fun σ γ => []) [] (qv3 rfl rfl rfl) (by decide) rfl ?_
  rintro ⟨n_6, i_7⟩ _ o8 h L11 hgo9 hstop10
  change Run _ _ _ (VF.of [(3, .int .i64 n_6), (4, .int .i64 i_7), (0, .string (bs s_0))]) []
  refine run_seq ?_
  refine run_seq ?_
  refine run_region' ?_
  refine oy rfl rfl (y_move rfl) ?_
  refine oy rfl rfl (y_move rfl) ?_
  refine oy rfl rfl (y_len_str rfl Tryz.runUnderlying9 rfl) ?_
  refine oy rfl rfl (y_lss rfl rfl) ?_
  refine ops_nil ?_
  refine goes_code ?_
  refine run_cond (decide (i_7 < (s_0.length : Int))) rfl (fun hc12 => ?_) (fun hc12 => ?_)
  ·replace h := cond_t h hc12
   refine run_skip ?_
   refine goes_code ?_
   refine run_seq ?_
   refine run_block ?_
   refine run_seq ?_
   refine run_seq ?_
   refine run_region' ?_
   refine oy rfl rfl (y_move rfl) ?_
   refine oy rfl rfl (y_move rfl) ?_
   obtain ⟨c13, hzc13, hlc13, hxc13, h⟩ := idx_some h
   refine oy rfl rfl (y_index_strI (kd := .i64) (i := i_7) Tryz.runUnderlying9 rfl rfl hzc13 hxc13) ?_
   refine oy rfl rfl (y_lss rfl rfl) ?_
   refine oy rfl rfl (y_move rfl) ?_
   obtain ⟨o15, h, ho16⟩ := bindJ_some h
   refine ops_cut 5 (Bool) (fun σ => [(3, .int .i64 n_6), (4, .int .i64 i_7), (0, .string (bs s_0)), (20, .bool σ)]) (fun σ => []) (fun σ => o15 = .go σ) (fun L17 hL18 => ?_) ?_
   ·refine ops_split 15 (decide ((c13.toNat : Int) < 48)) rfl (fun hg19 => ?_) (fun hg19 => ?_)
    ·replace h := cond_t h hg19
     refine ops_no 4 false 15 rfl rfl rfl rfl rfl ?_
     refine ops_no 4 false 15 rfl rfl rfl rfl rfl ?_
     refine ops_no 4 false 15 rfl rfl rfl rfl rfl ?_
     refine ops_no 4 false 15 rfl rfl rfl rfl rfl ?_
     refine oy rfl rfl (y_pick (b := true) rfl rfl) ?_
     refine ops_nil ?_
     obtain rfl := some_eq h
     exact goes_cut hL18 true [] (qv4 rfl rfl rfl rfl) (by decide) rfl rfl
    ·replace h := cond_f h hg19
     refine ops_y (wg 4 false 15 rfl rfl rfl rfl) rfl (y_move rfl) ?_
     refine ops_y (wg 4 false 15 rfl rfl rfl rfl) rfl (y_move rfl) ?_
     obtain ⟨c20, hzc20, hlc20, hxc20, h⟩ := idx_some h
     refine ops_y (wg 4 false 15 rfl rfl rfl rfl) rfl (y_index_strI (kd := .i64) (i := i_7) Tryz.runUnderlying9 rfl rfl hzc20 hxc20) ?_
     refine ops_y (wg 4 false 15 rfl rfl rfl rfl) rfl (y_gtr rfl rfl) ?_
     refine oy rfl rfl (y_pick (b := false) rfl rfl) ?_
     refine ops_nil ?_
     obtain rfl := some_eq h
     exact goes_cut hL18 (decide (57 < (c20.toNat : Int))) [] (qv4 rfl rfl rfl rfl) (by decide) rfl rfl
   rintro b14 hj
   obtain rfl : o15 = _ := hj
   replace h := after_go ho16
   clear ho16
   refine oy rfl rfl (y_move rfl) ?_
   refine ops_cut 3 (Bool) (fun σ => [(3, .int .i64 n_6), (4, .int .i64 i_7), (0, .string (bs s_0)), (24, .bool σ)]) (fun σ => []) (fun σ => σ = (b14 || decide (1125899906842624 ≤ n_6))) (fun L21 hL22 => ?_) ?_
   ·refine ops_split 21 b14 rfl (fun hg23 => ?_) (fun hg23 => ?_)
    ·skip
     refine ops_no 10 false 21 rfl rfl rfl rfl rfl ?_
     refine ops_no 10 false 21 rfl rfl rfl rfl rfl ?_
     refine oy rfl rfl (y_pick (b := true) rfl rfl) ?_
     refine ops_nil ?_
     exact goes_cut hL22 true [] (qv4 rfl rfl rfl rfl) (by decide) rfl (by rw [hg23]; simp)
    ·skip
     refine ops_y (wg 10 false 21 rfl rfl rfl rfl) rfl (y_move rfl) ?_
     refine ops_y (wg 10 false 21 rfl rfl rfl rfl) rfl (y_geq rfl rfl) ?_
     refine oy rfl rfl (y_pick (b := false) rfl rfl) ?_
     refine ops_nil ?_
     exact goes_cut hL22 (decide (1125899906842624 ≤ n_6)) [] (qv4 rfl rfl rfl rfl) (by decide) rfl (by rw [hg23]; simp)
   rintro _ rfl
   refine ops_nil ?_
   refine goes_code ?_
   refine run_cond (b14 || decide (1125899906842624 ≤ n_6)) rfl (fun hc24 => ?_) (fun hc24 => ?_)
   ·replace h := cond_t h hc24
    refine run_seq ?_
    refine run_region' ?_
    refine oy rfl rfl (y_assign rfl) ?_
    refine ops_nil ?_
    refine goes_code ?_
    refine run_ret ?_
    obtain rfl := some_eq h
    obtain rfl := hstop10 _ rfl
    skip
    obtain rfl := after_stop ho3
    refine fin_slots [2] [.int .i64 (-1)] [] [] Tryz.results55 rfl (by decide) rfl ?_
    exact ⟨rfl, rfl⟩
   ·replace h := cond_f h hc24
    refine run_skip ?_
    refine goes_code ?_
    refine run_region' ?_
    refine oy rfl rfl (y_move rfl) ?_
    refine oy rfl rfl (y_mul rfl rfl) ?_
    refine oy rfl rfl (y_move rfl) ?_
    refine oy rfl rfl (y_move rfl) ?_
    obtain ⟨c25, hzc25, hlc25, hxc25, h⟩ := idx_some h
    refine oy rfl rfl (y_index_strI (kd := .i64) (i := i_7) Tryz.runUnderlying9 rfl rfl hzc25 hxc25) ?_
    refine oy rfl rfl (y_sub rfl rfl) ?_
    refine oy rfl rfl (y_conv Tryz.runUnderlying5 Tryz.runUnderlying3 rfl) ?_
    refine oy rfl rfl (y_add rfl rfl) ?_
    refine oy rfl rfl (y_assign rfl) ?_
    refine ops_nil ?_
    refine goes_blk ?_
    refine goes_code ?_
    refine run_weak [(3, .int .i64 (IntKind.i64.wrap ((IntKind.i64.wrap (10 * n_6)) + (IntKind.i64.wrap (IntKind.u8.wrap ((c25.toNat : Int) - 48)))))), (4, .int .i64 i_7), (0, .string (bs s_0))] [] [] (qv3 rfl rfl rfl) (by decide) rfl ?_
    refine run_region' ?_
    refine oy rfl rfl (y_move rfl) ?_
    refine oy rfl rfl (y_add rfl rfl) ?_
    refine oy rfl rfl (y_assign rfl) ?_
    refine ops_nil ?_
    obtain rfl := some_eq h
    exact goes_iter hgo9 ((IntKind.i64.wrap ((IntKind.i64.wrap (10 * n_6)) + (IntKind.i64.wrap (IntKind.u8.wrap ((c25.toNat : Int) - 48))))), (IntKind.i64.wrap (i_7 + 1))) () [] rfl (qv3 rfl rfl rfl) (by decide) rfl
  ·replace h := cond_f h hc12
   refine run_exit _ rfl ?_
   obtain rfl := some_eq h
   obtain rfl := hstop10 _ rfl
   exact goes_cut hL4 (n_6, ()) [] (qv2 rfl rfl) (by decide) rfl rfl
 rintro ⟨n_1, _⟩ hj
 obtain rfl : o2 = _ := hj
 replace h := after_go ho3
 clear ho3
 change Run _ _ _ (VF.of [(3, .int .i64 n_1), (0, .string (bs s_0))]) []
 refine run_seq ?_
 refine run_seq ?_
 refine run_region' ?_
 refine oy rfl rfl (y_move rfl) ?_
 obtain ⟨r26, hr27, h⟩ := obind_some h
 refine ot rfl rfl (t_callx (vs := [.int .i64 n_1]) (cs := []) [] rfl Tryz.call46 rfl (ref43_decimal_ok n n_1  hr27) showsX_nil rfl (.inl rfl)) ?_
 rintro _ _ ⟨_, ⟨rfl, rfl⟩, rfl⟩
 refine oy rfl rfl (y_move rfl) ?_
 refine oy rfl rfl (y_sneq rfl rfl) ?_
 refine ops_nil ?_
 refine goes_code ?_
 refine run_cond (!decide (r26 = s_0)) rfl (fun hc28 => ?_) (fun hc28 => ?_)
 ·replace h := cond_t h hc28
  refine run_seq ?_
  refine run_region' ?_
  refine oy rfl rfl (y_assign rfl) ?_
  refine ops_nil ?_
  refine goes_code ?_
  refine run_ret ?_
  obtain rfl := some_eq h
  refine fin_slots [2] [.int .i64 (-1)] [] [] Tryz.results55 rfl (by decide) rfl ?_
  exact ⟨rfl, rfl⟩
 ·replace h := cond_f h hc28
  refine run_skip ?_
  refine goes_code ?_
  refine run_seq ?_
  refine run_region' ?_
  refine oy rfl rfl (y_move rfl) ?_
  refine oy rfl rfl (y_assign rfl) ?_
  refine ops_nil ?_
  refine goes_code ?_
  refine run_ret ?_
  obtain rfl := some_eq h
  refine fin_slots [2] [.int .i64 n_1] [] [] Tryz.results55 rfl (by decide) rfl ?_
  exact ⟨rfl, rfl⟩

def ref43_value (b_0 : Int) : Option (Int) :=
 cond (decide (48 ≤ b_0) && decide (b_0 ≤ 57))
  (some (IntKind.i64.wrap (IntKind.u8.wrap (b_0 - 48))))
  (cond (decide (97 ≤ b_0) && decide (b_0 ≤ 102))
   (some (IntKind.i64.wrap ((IntKind.i64.wrap (IntKind.u8.wrap (b_0 - 97))) + 10)))
   (some (-1)))
theorem ref43_value_ok (b_0 : Int)  {r : Int} (h : ref43_value b_0 = some r) :
  Meets Tryz.prog 78 [.int .u8 b_0] [] (fun v G => v = .int .i64 r ∧ G = []) := by
 refine fn_of_run Tryz.func78 rfl Tryz.ntmps78 rfl (fun w0 o0 => ?_)
 refine run_seq ?_
 refine run_region' ?_
 refine oy rfl rfl (y_assign rfl) ?_
 refine ops_nil ?_
 refine goes_code ?_
 refine run_seq ?_
 refine run_seq ?_
 refine run_region' ?_
 refine oy rfl rfl (y_move rfl) ?_
 refine oy rfl rfl (y_geq rfl rfl) ?_
 refine oy rfl rfl (y_move rfl) ?_
 refine ops_cut 3 (Bool) (fun σ => [(0, .int .u8 b_0), (8, .bool σ)]) (fun σ => []) (fun σ => σ = (decide (48 ≤ b_0) && decide (b_0 ≤ 57))) (fun L1 hL2 => ?_) ?_
 ·refine ops_split 5 (decide (48 ≤ b_0)) rfl (fun hg3 => ?_) (fun hg3 => ?_)
  ·skip
   refine ops_y (wg 2 true 5 rfl rfl rfl rfl) rfl (y_move rfl) ?_
   refine ops_y (wg 2 true 5 rfl rfl rfl rfl) rfl (y_leq rfl rfl) ?_
   refine oy rfl rfl (y_pick (b := true) rfl rfl) ?_
   refine ops_nil ?_
   exact goes_cut hL2 (decide (b_0 ≤ 57)) [] (qv2 rfl rfl) (by decide) rfl (by rw [hg3]; simp)
  ·skip
   refine ops_no 2 true 5 rfl rfl rfl rfl rfl ?_
   refine ops_no 2 true 5 rfl rfl rfl rfl rfl ?_
   refine oy rfl rfl (y_pick (b := false) rfl rfl) ?_
   refine ops_nil ?_
   exact goes_cut hL2 false [] (qv2 rfl rfl) (by decide) rfl (by rw [hg3]; simp)
 rintro _ rfl
 refine ops_nil ?_
 refine goes_code ?_
 refine run_cond (decide (48 ≤ b_0) && decide (b_0 ≤ 57)) rfl (fun hc4 => ?_) (fun hc4 => ?_)
 ·replace h := cond_t h hc4
  refine run_seq ?_
  refine run_region' ?_
  refine oy rfl rfl (y_move rfl) ?_
  refine oy rfl rfl (y_sub rfl rfl) ?_
  refine oy rfl rfl (y_conv Tryz.runUnderlying5 Tryz.runUnderlying3 rfl) ?_
  refine oy rfl rfl (y_assign rfl) ?_
  refine ops_nil ?_
  refine goes_code ?_
  refine run_ret ?_
  obtain rfl := some_eq h
  refine fin_slots [2] [.int .i64 (IntKind.i64.wrap (IntKind.u8.wrap (b_0 - 48)))] [] [] Tryz.results78 rfl (by decide) rfl ?_
  exact ⟨rfl, rfl⟩
 ·replace h := cond_f h hc4
  refine run_skip ?_
  refine goes_code ?_
  refine run_seq ?_
  refine run_seq ?_
  refine run_region' ?_
  refine oy rfl rfl (y_move rfl) ?_
  refine oy rfl rfl (y_geq rfl rfl) ?_
  refine oy rfl rfl (y_move rfl) ?_
  refine ops_cut 3 (Bool) (fun σ => [(0, .int .u8 b_0), (17, .bool σ)]) (fun σ => []) (fun σ => σ = (decide (97 ≤ b_0) && decide (b_0 ≤ 102))) (fun L5 hL6 => ?_) ?_
  ·refine ops_split 14 (decide (97 ≤ b_0)) rfl (fun hg7 => ?_) (fun hg7 => ?_)
   ·skip
    refine ops_y (wg 2 true 14 rfl rfl rfl rfl) rfl (y_move rfl) ?_
    refine ops_y (wg 2 true 14 rfl rfl rfl rfl) rfl (y_leq rfl rfl) ?_
    refine oy rfl rfl (y_pick (b := true) rfl rfl) ?_
    refine ops_nil ?_
    exact goes_cut hL6 (decide (b_0 ≤ 102)) [] (qv2 rfl rfl) (by decide) rfl (by rw [hg7]; simp)
   ·skip
    refine ops_no 2 true 14 rfl rfl rfl rfl rfl ?_
    refine ops_no 2 true 14 rfl rfl rfl rfl rfl ?_
    refine oy rfl rfl (y_pick (b := false) rfl rfl) ?_
    refine ops_nil ?_
    exact goes_cut hL6 false [] (qv2 rfl rfl) (by decide) rfl (by rw [hg7]; simp)
  rintro _ rfl
  refine ops_nil ?_
  refine goes_code ?_
  refine run_cond (decide (97 ≤ b_0) && decide (b_0 ≤ 102)) rfl (fun hc8 => ?_) (fun hc8 => ?_)
  ·replace h := cond_t h hc8
   refine run_seq ?_
   refine run_region' ?_
   refine oy rfl rfl (y_move rfl) ?_
   refine oy rfl rfl (y_sub rfl rfl) ?_
   refine oy rfl rfl (y_conv Tryz.runUnderlying5 Tryz.runUnderlying3 rfl) ?_
   refine oy rfl rfl (y_add rfl rfl) ?_
   refine oy rfl rfl (y_assign rfl) ?_
   refine ops_nil ?_
   refine goes_code ?_
   refine run_ret ?_
   obtain rfl := some_eq h
   refine fin_slots [2] [.int .i64 (IntKind.i64.wrap ((IntKind.i64.wrap (IntKind.u8.wrap (b_0 - 97))) + 10))] [] [] Tryz.results78 rfl (by decide) rfl ?_
   exact ⟨rfl, rfl⟩
  ·replace h := cond_f h hc8
   refine run_skip ?_
   refine goes_code ?_
   refine run_seq ?_
   refine run_region' ?_
   refine oy rfl rfl (y_assign rfl) ?_
   refine ops_nil ?_
   refine goes_code ?_
   refine run_ret ?_
   obtain rfl := some_eq h
   refine fin_slots [2] [.int .i64 (-1)] [] [] Tryz.results78 rfl (by decide) rfl ?_
   exact ⟨rfl, rfl⟩

def ref43_line_L1 (r2 : (List (List UInt8))) : (Int × Int × Int × Int × Int × Int × Int × Int × Int × Int × Int × Int × Int × Int × Int × Int × Int) → Option (Lp (Int × Int × Int × Int × Int × Int × Int × Int × Int × Int × Int × Int × Int × Int × Int × Int × Int) (Lp (Int × Int × Int × Int × Int × Int × Int × Int × Int × Int × Int × Int × Int × Int × Int × Int) (S_api_Segment))) :=
 fun (i_49, x_50, x_51, x_52, x_53, x_54, x_55, x_56, x_57, x_58, x_59, x_60, x_61, x_62, x_63, x_64, x_65) =>
  cond (decide (i_49 < 16))
   (idx r2 3 fun x71 =>
   idx x71 (IntKind.i64.wrap (2 * i_49)) fun c72 =>
   obind (ref43_value (c72.toNat : Int)) fun r73 =>
   idx x71 (IntKind.i64.wrap ((IntKind.i64.wrap (2 * i_49)) + 1)) fun c75 =>
   obind (ref43_value (c75.toNat : Int)) fun r76 =>
   cond (decide (r73 < 0) || decide (r76 < 0))
    (some (.stop (.stop (S_api_Segment.mk 0 (-1) 0 (S_api_Digest.mk 0 0 0 0 0 0 0 0 0 0 0 0 0 0 0 0) 0))))
    (need (0 ≤ i_49 ∧ i_49 < 16) (
    obind (some (S_api_Digest.put (S_api_Digest.mk x_50 x_51 x_52 x_53 x_54 x_55 x_56 x_57 x_58 x_59 x_60 x_61 x_62 x_63 x_64 x_65) i_49 (IntKind.u8.wrap (IntKind.i64.wrap ((IntKind.i64.wrap (16 * r73)) + r76))))) fun x83 =>
    some (.go ((IntKind.i64.wrap (i_49 + 1)), x83.a0_, x83.a1_, x83.a2_, x83.a3_, x83.a4_, x83.a5_, x83.a6_, x83.a7_, x83.a8_, x83.a9_, x83.a10_, x83.a11_, x83.a12_, x83.a13_, x83.a14_, x83.a15_)))))
   (some (.stop (.go (x_50, x_51, x_52, x_53, x_54, x_55, x_56, x_57, x_58, x_59, x_60, x_61, x_62, x_63, x_64, x_65))))
def ref43_line (n : Nat) (s_0 : (List UInt8)) : Option (S_api_Segment) :=
 obind (ref43_split n s_0 32) fun r2 =>
 bindJ (S := Bool)
  (cond (decide ((r2.length : Int) ≠ 4))
   (some (.go true))
   (idx r2 3 fun x12 =>
   some (.go (decide ((x12.length : Int) ≠ 32)))))
 (fun b6 =>
  cond b6
   (some (S_api_Segment.mk 0 (-1) 0 (S_api_Digest.mk 0 0 0 0 0 0 0 0 0 0 0 0 0 0 0 0) 0))
   (idx r2 0 fun x14 =>
   obind (ref43_number n x14) fun r15 =>
   idx r2 1 fun x17 =>
   obind (ref43_number n x17) fun r18 =>
   idx r2 2 fun x20 =>
   obind (ref43_number n x20) fun r21 =>
   bindJ (S := Int × Int × Int × Int × Int × Int × Int × Int × Int × Int × Int × Int × Int × Int × Int × Int)
    (iter (ref43_line_L1 r2) n (0, 0, 0, 0, 0, 0, 0, 0, 0, 0, 0, 0, 0, 0, 0, 0, 0))
   (fun (x_29, x_30, x_31, x_32, x_33, x_34, x_35, x_36, x_37, x_38, x_39, x_40, x_41, x_42, x_43, x_44) =>
    some (S_api_Segment.mk 0 r15 r18 (S_api_Digest.mk x_29 x_30 x_31 x_32 x_33 x_34 x_35 x_36 x_37 x_38 x_39 x_40 x_41 x_42 x_43 x_44) r21))))
theorem ref43_line_ok (n : Nat) (s_0 : (List UInt8))  {r : S_api_Segment} (h : ref43_line n s_0 = some r) :
  Meets Tryz.prog 56 [.string (bs s_0)] [] (fun v G => v = .agg #[.int .i64 r.Num, .int .i64 r.Begin, .int .i64 r.Len, .int .u8 r.Body.a0_, .int .u8 r.Body.a1_, .int .u8 r.Body.a2_, .int .u8 r.Body.a3_, .int .u8 r.Body.a4_, .int .u8 r.Body.a5_, .int .u8 r.Body.a6_, .int .u8 r.Body.a7_, .int .u8 r.Body.a8_, .int .u8 r.Body.a9_, .int .u8 r.Body.a10_, .int .u8 r.Body.a11_, .int .u8 r.Body.a12_, .int .u8 r.Body.a13_, .int .u8 r.Body.a14_, .int .u8 r.Body.a15_, .int .i64 r.Size] ∧ G = []) := by
 refine fn_of_run Tryz.func56 rfl Tryz.ntmps56 rfl (fun w0 o0 => ?_)
 refine run_seq ?_
 refine run_region' ?_
 refine ot rfl rfl (t_alloc Tryz.zeroValue57) ?_
 rintro _ _ ⟨b1, rfl, rfl⟩
 refine ops_nil ?_
 refine goes_code ?_
 refine run_seq ?_
 refine run_region' ?_
 refine oy rfl rfl (y_move rfl) ?_
 obtain ⟨r2, hr3, h⟩ := obind_some h
 refine ot rfl rfl (t_callx (vs := [.string (bs s_0), .int .u8 32]) (cs := []) [] rfl Tryz.call54 rfl (ref43_split_ok n s_0 32  hr3) showsX_nil rfl (.inl rfl)) ?_
 rintro v4 _ ⟨_, ⟨_, rfl, rfl⟩, rfl⟩
 refine oy rfl rfl (y_assign rfl) ?_
 refine ops_nil ?_
 refine goes_code ?_
 refine run_seq ?_
 refine run_region' ?_
 refine oy rfl rfl (y_build_struct (cells := #[.int .i64 0, .int .i64 (-1), .int .i64 0, .int .u8 0, .int .u8 0, .int .u8 0, .int .u8 0, .int .u8 0, .int .u8 0, .int .u8 0, .int .u8 0, .int .u8 0, .int .u8 0, .int .u8 0, .int .u8 0, .int .u8 0, .int .u8 0, .int .u8 0, .int .u8 0, .int .i64 0]) [(1, .int .i64 (-1))] [(1, [.int .i64 (-1)])] Tryz.zeroValue57 Tryz.runUnderlying57 (fs_cons Tryz.sizeOf3 (fs_cons Tryz.sizeOf3 (fs_cons Tryz.sizeOf3 (fs_cons Tryz.sizeOf55 (fs_cons Tryz.sizeOf3 fs_nil))))) rfl (by kernel_rfl) (by kernel_rfl)) ?_
 refine ot rfl rfl (t_alloc Tryz.zeroValue57) ?_
 rintro _ _ ⟨b5, rfl, rfl⟩
 refine ot rfl rfl (t_store 2 Tryz.sizeOf57 rfl rfl rfl rfl (by simp [Value.cells, boxP]) (by simp [Value.cells, Value.oneCell', boxP])) ?_
 rintro _ _ ⟨rfl, rfl⟩
 refine ops_turn (retell 2 (g := box b5 [.int .i64 0, .int .i64 (-1), .int .i64 0, .int .u8 0, .int .u8 0, .int .u8 0, .int .u8 0, .int .u8 0, .int .u8 0, .int .u8 0, .int .u8 0, .int .u8 0, .int .u8 0, .int .u8 0, .int .u8 0, .int .u8 0, .int .u8 0, .int .u8 0, .int .u8 0, .int .i64 0]) rfl (by kernel_rfl)) ?_
 refine ops_nil ?_
 refine goes_code ?_
 refine run_seq ?_
 refine run_seq ?_
 refine run_region' ?_
 refine oy rfl rfl (y_move rfl) ?_
 refine oy rfl rfl ((y_len 1 rfl Tryz.runUnderlying81 rfl rfl reads_row).to (v_len eStr _)) ?_
 refine oy rfl rfl (y_neq rfl rfl) ?_
 refine oy rfl rfl (y_move rfl) ?_
 obtain ⟨o7, h, ho8⟩ := bindJ_some h
 refine ops_cut 6 (Bool) (fun σ => [(2, boxP b1 0), (3, v4), (4, boxP b5 0), (21, .bool σ)]) (fun σ => [box b1 [.int .i64 0, .int .i64 0, .int .i64 0, .int .u8 0, .int .u8 0, .int .u8 0, .int .u8 0, .int .u8 0, .int .u8 0, .int .u8 0, .int .u8 0, .int .u8 0, .int .u8 0, .int .u8 0, .int .u8 0, .int .u8 0, .int .u8 0, .int .u8 0, .int .u8 0, .int .i64 0], row v4 1 (r2.map eStr), box b5 [.int .i64 0, .int .i64 (-1), .int .i64 0, .int .u8 0, .int .u8 0, .int .u8 0, .int .u8 0, .int .u8 0, .int .u8 0, .int .u8 0, .int .u8 0, .int .u8 0, .int .u8 0, .int .u8 0, .int .u8 0, .int .u8 0, .int .u8 0, .int .u8 0, .int .u8 0, .int .i64 0]]) (fun σ => o7 = .go σ) (fun L9 hL10 => ?_) ?_
 ·refine ops_split 15 (decide ((r2.length : Int) ≠ 4)) rfl (fun hg11 => ?_) (fun hg11 => ?_)
  ·replace h := cond_t h hg11
   refine ops_no 3 false 15 rfl rfl rfl rfl rfl ?_
   refine ops_no 3 false 15 rfl rfl rfl rfl rfl ?_
   refine ops_no 3 false 15 rfl rfl rfl rfl rfl ?_
   refine ops_no 3 false 15 rfl rfl rfl rfl rfl ?_
   refine ops_weak [(2, boxP b1 0), (3, v4), (4, boxP b5 0), (15, .bool true), (19, undef)] [0, 1, 2] [box b1 [.int .i64 0, .int .i64 0, .int .i64 0, .int .u8 0, .int .u8 0, .int .u8 0, .int .u8 0, .int .u8 0, .int .u8 0, .int .u8 0, .int .u8 0, .int .u8 0, .int .u8 0, .int .u8 0, .int .u8 0, .int .u8 0, .int .u8 0, .int .u8 0, .int .u8 0, .int .i64 0], row v4 1 (r2.map eStr), box b5 [.int .i64 0, .int .i64 (-1), .int .i64 0, .int .u8 0, .int .u8 0, .int .u8 0, .int .u8 0, .int .u8 0, .int .u8 0, .int .u8 0, .int .u8 0, .int .u8 0, .int .u8 0, .int .u8 0, .int .u8 0, .int .u8 0, .int .u8 0, .int .u8 0, .int .u8 0, .int .i64 0]] (qv5 rfl rfl rfl rfl rfl) (by decide) rfl ?_
   refine ops_no 3 false 15 rfl rfl rfl rfl rfl ?_
   refine oy rfl rfl (y_pick (b := true) rfl rfl) ?_
   refine ops_nil ?_
   obtain rfl := some_eq h
   exact goes_cut hL10 true [0, 1, 2] (qv4 rfl rfl rfl rfl) (by decide) rfl rfl
  ·replace h := cond_f h hg11
   refine ops_y (wg 3 false 15 rfl rfl rfl rfl) rfl (y_move rfl) ?_
   obtain ⟨x12, hzx12, hlx12, hxx12, h⟩ := idx_some h
   refine ops_y (wg 3 false 15 rfl rfl rfl rfl) rfl (y_indexAddrI (kd := .i64) (i := 3) 1 Tryz.runUnderlying81 Tryz.sizeOf9 rfl rfl rfl reads_row hzx12 (map_lt hlx12)) ?_
   refine ops_y (wg 3 false 15 rfl rfl rfl rfl) rfl (y_load_elem (i := (3 : Int).toNat) 1 Tryz.isAgg9 rfl rfl reads_row (map_get hxx12)) ?_
   refine ops_y (wg 3 false 15 rfl rfl rfl rfl) rfl (y_len_str rfl Tryz.runUnderlying9 rfl) ?_
   refine ops_weak [(2, boxP b1 0), (3, v4), (4, boxP b5 0), (15, .bool false), (19, .int .i64 (x12.length : Int))] [0, 1, 2] [box b1 [.int .i64 0, .int .i64 0, .int .i64 0, .int .u8 0, .int .u8 0, .int .u8 0, .int .u8 0, .int .u8 0, .int .u8 0, .int .u8 0, .int .u8 0, .int .u8 0, .int .u8 0, .int .u8 0, .int .u8 0, .int .u8 0, .int .u8 0, .int .u8 0, .int .u8 0, .int .i64 0], row v4 1 (r2.map eStr), box b5 [.int .i64 0, .int .i64 (-1), .int .i64 0, .int .u8 0, .int .u8 0, .int .u8 0, .int .u8 0, .int .u8 0, .int .u8 0, .int .u8 0, .int .u8 0, .int .u8 0, .int .u8 0, .int .u8 0, .int .u8 0, .int .u8 0, .int .u8 0, .int .u8 0, .int .u8 0, .int .i64 0]] (qv5 rfl rfl rfl rfl rfl) (by decide) rfl ?_
   refine ops_y (wg 3 false 15 rfl rfl rfl rfl) rfl (y_neq rfl rfl) ?_
   refine oy rfl rfl (y_pick (b := false) rfl rfl) ?_
   refine ops_nil ?_
   obtain rfl := some_eq h
   exact goes_cut hL10 (decide ((x12.length : Int) ≠ 32)) [0, 1, 2] (qv4 rfl rfl rfl rfl) (by decide) rfl rfl
 rintro b6 hj
 obtain rfl : o7 = _ := hj
 replace h := after_go ho8
 clear ho8
 refine ops_nil ?_
 refine goes_code ?_
 refine run_cond b6 rfl (fun hc13 => ?_) (fun hc13 => ?_)
 ·replace h := cond_t h hc13
  refine run_seq ?_
  refine run_region' ?_
  refine oy rfl rfl (y_load_boxagg (c := [.int .i64 0, .int .i64 (-1), .int .i64 0, .int .u8 0, .int .u8 0, .int .u8 0, .int .u8 0, .int .u8 0, .int .u8 0, .int .u8 0, .int .u8 0, .int .u8 0, .int .u8 0, .int .u8 0, .int .u8 0, .int .u8 0, .int .u8 0, .int .u8 0, .int .u8 0, .int .i64 0]) 2 Tryz.isAgg57 Tryz.sizeOf57 rfl rfl rfl) ?_
  refine ot rfl rfl (t_store 0 Tryz.sizeOf57 rfl rfl rfl rfl (by simp [Value.cells, boxP]) (by simp [Value.cells, Value.oneCell', boxP])) ?_
  rintro _ _ ⟨rfl, rfl⟩
  refine ops_turn (retell 0 (g := box b1 [.int .i64 0, .int .i64 (-1), .int .i64 0, .int .u8 0, .int .u8 0, .int .u8 0, .int .u8 0, .int .u8 0, .int .u8 0, .int .u8 0, .int .u8 0, .int .u8 0, .int .u8 0, .int .u8 0, .int .u8 0, .int .u8 0, .int .u8 0, .int .u8 0, .int .u8 0, .int .i64 0]) rfl (by kernel_rfl)) ?_
  refine ops_nil ?_
  refine goes_code ?_
  refine run_ret ?_
  obtain rfl := some_eq h
  refine fin_res [.cell 2 57] [.agg #[.int .i64 0, .int .i64 (-1), .int .i64 0, .int .u8 0, .int .u8 0, .int .u8 0, .int .u8 0, .int .u8 0, .int .u8 0, .int .u8 0, .int .u8 0, .int .u8 0, .int .u8 0, .int .u8 0, .int .u8 0, .int .u8 0, .int .u8 0, .int .u8 0, .int .u8 0, .int .i64 0]] [] [] Tryz.results56 rfl (rescons (res_box 0 Tryz.isAgg57 Tryz.sizeOf57 rfl rfl rfl) resnil) (by decide) rfl ?_
  exact ⟨rfl, rfl⟩
 ·replace h := cond_f h hc13
  refine run_skip ?_
  refine goes_code ?_
  refine run_seq ?_
  obtain ⟨x14, hzx14, hlx14, hxx14, h⟩ := idx_some h
  obtain ⟨r15, hr16, h⟩ := obind_some h
  obtain ⟨x17, hzx17, hlx17, hxx17, h⟩ := idx_some h
  obtain ⟨r18, hr19, h⟩ := obind_some h
  obtain ⟨x20, hzx20, hlx20, hxx20, h⟩ := idx_some h
  obtain ⟨r21, hr22, h⟩ := obind_some h
  refine run_drawany [box b1 [.int .i64 0, .int .i64 0, .int .i64 0, .int .u8 0, .int .u8 0, .int .u8 0, .int .u8 0, .int .u8 0, .int .u8 0, .int .u8 0, .int .u8 0, .int .u8 0, .int .u8 0, .int .u8 0, .int .u8 0, .int .u8 0, .int .u8 0, .int .u8 0, .int .u8 0, .int .i64 0], row v4 1 (r2.map eStr), box b5 [.int .i64 0, .int .i64 (-1), .int .i64 0, .int .u8 0, .int .u8 0, .int .u8 0, .int .u8 0, .int .u8 0, .int .u8 0, .int .u8 0, .int .u8 0, .int .u8 0, .int .u8 0, .int .u8 0, .int .u8 0, .int .u8 0, .int .u8 0, .int .u8 0, .int .u8 0, .int .i64 0]] (by kernel_rfl) ?_
  refine any_y 0 rfl (by kernel_rfl) (by kernel_rfl) (by kernel_rfl) (ss (ss (ss (sn)))) (wn rfl) rfl (y_move rfl) ?_
  refine any_y 1 rfl (by kernel_rfl) (by kernel_rfl) (by kernel_rfl) (ss (ss (ss (sn)))) (wn rfl) rfl (y_indexAddrI (kd := .i64) (i := 0) 1 Tryz.runUnderlying81 Tryz.sizeOf9 rfl rfl rfl reads_row hzx14 (map_lt hlx14)) ?_
  refine any_y 2 rfl (by kernel_rfl) (by kernel_rfl) (by kernel_rfl) (ss (ss (ss (sn)))) (wn rfl) rfl (y_load_elem (i := (0 : Int).toNat) 1 Tryz.isAgg9 rfl rfl reads_row (map_get hxx14)) ?_
  refine any_y 4 rfl (by kernel_rfl) (by kernel_rfl) (by kernel_rfl) (ss (ss (ss (sn)))) (wn rfl) rfl (y_move rfl) ?_
  refine any_y 5 rfl (by kernel_rfl) (by kernel_rfl) (by kernel_rfl) (ss (ss (ss (sn)))) (wn rfl) rfl (y_indexAddrI (kd := .i64) (i := 1) 1 Tryz.runUnderlying81 Tryz.sizeOf9 rfl rfl rfl reads_row hzx17 (map_lt hlx17)) ?_
  refine any_y 6 rfl (by kernel_rfl) (by kernel_rfl) (by kernel_rfl) (ss (ss (ss (sn)))) (wn rfl) rfl (y_load_elem (i := (1 : Int).toNat) 1 Tryz.isAgg9 rfl rfl reads_row (map_get hxx17)) ?_
  refine any_y 8 rfl (by kernel_rfl) (by kernel_rfl) (by kernel_rfl) (ss (ss (ss (sn)))) (wn rfl) rfl (y_move rfl) ?_
  refine any_y 9 rfl (by kernel_rfl) (by kernel_rfl) (by kernel_rfl) (ss (ss (ss (sn)))) (wn rfl) rfl (y_indexAddrI (kd := .i64) (i := 2) 1 Tryz.runUnderlying81 Tryz.sizeOf9 rfl rfl rfl reads_row hzx20 (map_lt hlx20)) ?_
  refine any_y 10 rfl (by kernel_rfl) (by kernel_rfl) (by kernel_rfl) (ss (ss (ss (sn)))) (wn rfl) rfl (y_load_elem (i := (2 : Int).toNat) 1 Tryz.isAgg9 rfl rfl reads_row (map_get hxx20)) ?_
  refine any_cut2 #[true, true, true, true, true, true, true, true, true, true, true, true, true, true, true] 0 (Nat) (fun σ => [(2, boxP b1 0), (3, v4), (4, boxP b5 0), (5, boxP σ 0)]) (fun σ => [box b1 [.int .i64 0, .int .i64 0, .int .i64 0, .int .u8 0, .int .u8 0, .int .u8 0, .int .u8 0, .int .u8 0, .int .u8 0, .int .u8 0, .int .u8 0, .int .u8 0, .int .u8 0, .int .u8 0, .int .u8 0, .int .u8 0, .int .u8 0, .int .u8 0, .int .u8 0, .int .i64 0], row v4 1 (r2.map eStr), box b5 [.int .i64 0, .int .i64 (-1), .int .i64 0, .int .u8 0, .int .u8 0, .int .u8 0, .int .u8 0, .int .u8 0, .int .u8 0, .int .u8 0, .int .u8 0, .int .u8 0, .int .u8 0, .int .u8 0, .int .u8 0, .int .u8 0, .int .u8 0, .int .u8 0, .int .u8 0, .int .i64 0], box σ [.int .i64 0, .int .i64 r15, .int .i64 r18, .int .u8 0, .int .u8 0, .int .u8 0, .int .u8 0, .int .u8 0, .int .u8 0, .int .u8 0, .int .u8 0, .int .u8 0, .int .u8 0, .int .u8 0, .int .u8 0, .int .u8 0, .int .u8 0, .int .u8 0, .int .u8 0, .int .i64 r21]]) ?_ (fun hK28 => ?_)
  ·rintro b27
   change AnyL _ _ _ _ _ (VF.of [(2, boxP b1 0), (3, v4), (4, boxP b5 0), (5, boxP b27 0)]) [box b1 [.int .i64 0, .int .i64 0, .int .i64 0, .int .u8 0, .int .u8 0, .int .u8 0, .int .u8 0, .int .u8 0, .int .u8 0, .int .u8 0, .int .u8 0, .int .u8 0, .int .u8 0, .int .u8 0, .int .u8 0, .int .u8 0, .int .u8 0, .int .u8 0, .int .u8 0, .int .i64 0], row v4 1 (r2.map eStr), box b5 [.int .i64 0, .int .i64 (-1), .int .i64 0, .int .u8 0, .int .u8 0, .int .u8 0, .int .u8 0, .int .u8 0, .int .u8 0, .int .u8 0, .int .u8 0, .int .u8 0, .int .u8 0, .int .u8 0, .int .u8 0, .int .u8 0, .int .u8 0, .int .u8 0, .int .u8 0, .int .i64 0], box b27 [.int .i64 0, .int .i64 r15, .int .i64 r18, .int .u8 0, .int .u8 0, .int .u8 0, .int .u8 0, .int .u8 0, .int .u8 0, .int .u8 0, .int .u8 0, .int .u8 0, .int .u8 0, .int .u8 0, .int .u8 0, .int .u8 0, .int .u8 0, .int .u8 0, .int .u8 0, .int .i64 r21]] _
   refine any_nil (by kernel_rfl) ?_
   refine goes_code ?_
   obtain ⟨o45, h, ho46⟩ := bindJ_some h
   refine run_cut ((Int × Int × Int × Int × Int × Int × Int × Int × Int × Int × Int × Int × Int × Int × Int × Int) × (Unit)) (fun σ => [(2, boxP b1 0), (5, boxP b27 0)]) (fun σ => [box b1 [.int .i64 0, .int .i64 0, .int .i64 0, .int .u8 0, .int .u8 0, .int .u8 0, .int .u8 0, .int .u8 0, .int .u8 0, .int .u8 0, .int .u8 0, .int .u8 0, .int .u8 0, .int .u8 0, .int .u8 0, .int .u8 0, .int .u8 0, .int .u8 0, .int .u8 0, .int .i64 0], box b27 [.int .i64 0, .int .i64 r15, .int .i64 r18, .int .u8 σ.1.1, .int .u8 σ.1.2.1, .int .u8 σ.1.2.2.1, .int .u8 σ.1.2.2.2.1, .int .u8 σ.1.2.2.2.2.1, .int .u8 σ.1.2.2.2.2.2.1, .int .u8 σ.1.2.2.2.2.2.2.1, .int .u8 σ.1.2.2.2.2.2.2.2.1, .int .u8 σ.1.2.2.2.2.2.2.2.2.1, .int .u8 σ.1.2.2.2.2.2.2.2.2.2.1, .int .u8 σ.1.2.2.2.2.2.2.2.2.2.2.1, .int .u8 σ.1.2.2.2.2.2.2.2.2.2.2.2.1, .int .u8 σ.1.2.2.2.2.2.2.2.2.2.2.2.2.1, .int .u8 σ.1.2.2.2.2.2.2.2.2.2.2.2.2.2.1, .int .u8 σ.1.2.2.2.2.2.2.2.2.2.2.2.2.2.2.1, .int .u8 σ.1.2.2.2.2.2.2.2.2.2.2.2.2.2.2.2, .int .i64 r21]]) (fun σ => o45 = .go σ.1) (fun L48 hL47 => ?_) ?_
   ·
    refine run_seq ?_
    refine run_region' ?_
    refine oy rfl rfl (y_assign rfl) ?_
    refine ops_nil ?_
    refine goes_code ?_
    refine run_block ?_
    refine run_iter (step := ref43_line_L1 r2) (n := n) (s0 := (0, 0, 0, 0, 0, 0, 0, 0, 0, 0, 0, 0, 0, 0, 0, 0, 0)) h (G := Unit) () (fun σ γ => [(6, .int .i64 σ.1), (2, boxP b1 0), (3, v4), (4, boxP b5 0), (5, boxP b27 0)]) (fun σ γ => [box b1 [.int .i64 0, .int .i64 0, .int .i64 0, .int .u8 0, .int .u8 0, .int .u8 0, .int .u8 0, .int .u8 0, .int .u8 0, .int .u8 0, .int .u8 0, .int .u8 0, .int .u8 0, .int .u8 0, .int .u8 0, .int .u8 0, .int .u8 0, .int .u8 0, .int .u8 0, .int .i64 0], row v4 1 (r2.map eStr), box b5 [.int .i64 0, .int .i64 (-1), .int .i64 0, .int .u8 0, .int .u8 0, .int .u8 0, .int .u8 0, .int .u8 0, .int .u8 0, .int .u8 0, .int .u8 0, .int .u8 0, .int .u8 0, .int .u8 0, .int .u8 0, .int .u8 0, .int .u8 0, .int .u8 0, .int .u8 0, .int .i64 0], box b27 [.int .i64 0, .int .i64 r15, .int .i64 r18, .int .u8 σ.2.1, .int .u8 σ.2.2.1, .int .u8 σ.2.2.2.1, .int .u8 σ.2.2.2.2.1, .int .u8 σ.2.2.2.2.2.1, .int .u8 σ.2.2.2.2.2.2.1, .int .u8 σ.2.2.2.2.2.2.2.1, .int .u8 σ.2.2.2.2.2.2.2.2.1, .int .u8 σ.2.2.2.2.2.2.2.2.2.1, .int .u8 σ.2.2.2.2.2.2.2.2.2.2.1, .int .u8 σ.2.2.2.2.2.2.2.2.2.2.2.1, .int .u8 σ.2.2.2.2.2.2.2.2.2.2.2.2.1, .int .u8 σ.2.2.2.2.2.2.2.2.2.2.2.2.2.1, .int .u8 σ.2.2.2.2.2.2.2.2.2.2.2.2.2.2.1, .int .u8 σ.2.2.2.2.2.2.2.2.2.2.2.2.2.2.2.1, .int .u8 σ.2.2.2.2.2.2.2.2.2.2.2.2.2.2.2.2, .int .i64 r21]]) [0, 1, 2, 3] (qv5 rfl rfl rfl rfl rfl) (by decide) rfl ?_
    rintro ⟨i_49, x_50, x_51, x_52, x_53, x_54, x_55, x_56, x_57, x_58, x_59, x_60, x_61, x_62, x_63, x_64, x_65⟩ _ o66 h L69 hgo67 hstop68
    change Run _ _ _ (VF.of [(6, .int .i64 i_49), (2, boxP b1 0), (3, v4), (4, boxP b5 0), (5, boxP b27 0)]) [box b1 [.int .i64 0, .int .i64 0, .int .i64 0, .int .u8 0, .int .u8 0, .int .u8 0, .int .u8 0, .int .u8 0, .int .u8 0, .int .u8 0, .int .u8 0, .int .u8 0, .int .u8 0, .int .u8 0, .int .u8 0, .int .u8 0, .int .u8 0, .int .u8 0, .int .u8 0, .int .i64 0], row v4 1 (r2.map eStr), box b5 [.int .i64 0, .int .i64 (-1), .int .i64 0, .int .u8 0, .int .u8 0, .int .u8 0, .int .u8 0, .int .u8 0, .int .u8 0, .int .u8 0, .int .u8 0, .int .u8 0, .int .u8 0, .int .u8 0, .int .u8 0, .int .u8 0, .int .u8 0, .int .u8 0, .int .u8 0, .int .i64 0], box b27 [.int .i64 0, .int .i64 r15, .int .i64 r18, .int .u8 x_50, .int .u8 x_51, .int .u8 x_52, .int .u8 x_53, .int .u8 x_54, .int .u8 x_55, .int .u8 x_56, .int .u8 x_57, .int .u8 x_58, .int .u8 x_59, .int .u8 x_60, .int .u8 x_61, .int .u8 x_62, .int .u8 x_63, .int .u8 x_64, .int .u8 x_65, .int .i64 r21]]
    refine run_seq ?_
    refine run_seq ?_
    refine run_region' ?_
    refine oy rfl rfl (y_move rfl) ?_
    refine oy rfl rfl (y_lss rfl rfl) ?_
    refine ops_nil ?_
    refine goes_code ?_
    refine run_cond (decide (i_49 < 16)) rfl (fun hc70 => ?_) (fun hc70 => ?_)
    ·replace h := cond_t h hc70
     refine run_skip ?_
     refine goes_code ?_
     refine run_seq ?_
     refine run_block ?_
     refine run_seq ?_
     refine run_region' ?_
     refine oy rfl rfl (y_move rfl) ?_
     obtain ⟨x71, hzx71, hlx71, hxx71, h⟩ := idx_some h
     refine oy rfl rfl (y_indexAddrI (kd := .i64) (i := 3) 1 Tryz.runUnderlying81 Tryz.sizeOf9 rfl rfl rfl reads_row hzx71 (map_lt hlx71)) ?_
     refine oy rfl rfl (y_load_elem (i := (3 : Int).toNat) 1 Tryz.isAgg9 rfl rfl reads_row (map_get hxx71)) ?_
     refine oy rfl rfl (y_move rfl) ?_
     refine oy rfl rfl (y_mul rfl rfl) ?_
     obtain ⟨c72, hzc72, hlc72, hxc72, h⟩ := idx_some h
     refine oy rfl rfl (y_index_strI (kd := .i64) (i := (IntKind.i64.wrap (2 * i_49))) Tryz.runUnderlying9 rfl rfl hzc72 hxc72) ?_
     obtain ⟨r73, hr74, h⟩ := obind_some h
     refine ot rfl rfl (t_callx (vs := [.int .u8 (c72.toNat : Int)]) (cs := []) [] rfl Tryz.call78 rfl (ref43_value_ok (c72.toNat : Int)  hr74) showsX_nil rfl (.inl rfl)) ?_
     rintro _ _ ⟨_, ⟨rfl, rfl⟩, rfl⟩
     refine oy rfl rfl (y_assign rfl) ?_
     refine ops_nil ?_
     refine goes_code ?_
     refine run_seq ?_
     refine run_weak [(6, .int .i64 i_49), (2, boxP b1 0), (3, v4), (4, boxP b5 0), (5, boxP b27 0), (7, .int .i64 r73)] [0, 1, 2, 3] [box b1 [.int .i64 0, .int .i64 0, .int .i64 0, .int .u8 0, .int .u8 0, .int .u8 0, .int .u8 0, .int .u8 0, .int .u8 0, .int .u8 0, .int .u8 0, .int .u8 0, .int .u8 0, .int .u8 0, .int .u8 0, .int .u8 0, .int .u8 0, .int .u8 0, .int .u8 0, .int .i64 0], row v4 1 (r2.map eStr), box b5 [.int .i64 0, .int .i64 (-1), .int .i64 0, .int .u8 0, .int .u8 0, .int .u8 0, .int .u8 0, .int .u8 0, .int .u8 0, .int .u8 0, .int .u8 0, .int .u8 0, .int .u8 0, .int .u8 0, .int .u8 0, .int .u8 0, .int .u8 0, .int .u8 0, .int .u8 0, .int .i64 0], box b27 [.int .i64 0, .int .i64 r15, .int .i64 r18, .int .u8 x_50, .int .u8 x_51, .int .u8 x_52, .int .u8 x_53, .int .u8 x_54, .int .u8 x_55, .int .u8 x_56, .int .u8 x_57, .int .u8 x_58, .int .u8 x_59, .int .u8 x_60, .int .u8 x_61, .int .u8 x_62, .int .u8 x_63, .int .u8 x_64, .int .u8 x_65, .int .i64 r21]] (qv6 rfl rfl rfl rfl rfl rfl) (by decide) rfl ?_
     refine run_region' ?_
     refine oy rfl rfl (y_move rfl) ?_
     refine oy rfl rfl (y_indexAddrI (kd := .i64) (i := 3) 1 Tryz.runUnderlying81 Tryz.sizeOf9 rfl rfl rfl reads_row hzx71 (map_lt hlx71)) ?_
     refine oy rfl rfl (y_load_elem (i := (3 : Int).toNat) 1 Tryz.isAgg9 rfl rfl reads_row (map_get hxx71)) ?_
     refine oy rfl rfl (y_move rfl) ?_
     refine oy rfl rfl (y_mul rfl rfl) ?_
     refine oy rfl rfl (y_add rfl rfl) ?_
     obtain ⟨c75, hzc75, hlc75, hxc75, h⟩ := idx_some h
     refine oy rfl rfl (y_index_strI (kd := .i64) (i := (IntKind.i64.wrap ((IntKind.i64.wrap (2 * i_49)) + 1))) Tryz.runUnderlying9 rfl rfl hzc75 hxc75) ?_
     obtain ⟨r76, hr77, h⟩ := obind_some h
     refine ot rfl rfl (t_callx (vs := [.int .u8 (c75.toNat : Int)]) (cs := []) [] rfl Tryz.call78 rfl (ref43_value_ok (c75.toNat : Int)  hr77) showsX_nil rfl (.inl rfl)) ?_
     rintro _ _ ⟨_, ⟨rfl, rfl⟩, rfl⟩
     refine oy rfl rfl (y_assign rfl) ?_
     refine ops_nil ?_
     refine goes_code ?_
     refine run_seq ?_
     refine run_seq ?_
     refine run_weak [(6, .int .i64 i_49), (2, boxP b1 0), (3, v4), (4, boxP b5 0), (5, boxP b27 0), (7, .int .i64 r73), (8, .int .i64 r76)] [0, 1, 2, 3] [box b1 [.int .i64 0, .int .i64 0, .int .i64 0, .int .u8 0, .int .u8 0, .int .u8 0, .int .u8 0, .int .u8 0, .int .u8 0, .int .u8 0, .int .u8 0, .int .u8 0, .int .u8 0, .int .u8 0, .int .u8 0, .int .u8 0, .int .u8 0, .int .u8 0, .int .u8 0, .int .i64 0], row v4 1 (r2.map eStr), box b5 [.int .i64 0, .int .i64 (-1), .int .i64 0, .int .u8 0, .int .u8 0, .int .u8 0, .int .u8 0, .int .u8 0, .int .u8 0, .int .u8 0, .int .u8 0, .int .u8 0, .int .u8 0, .int .u8 0, .int .u8 0, .int .u8 0, .int .u8 0, .int .u8 0, .int .u8 0, .int .i64 0], box b27 [.int .i64 0, .int .i64 r15, .int .i64 r18, .int .u8 x_50, .int .u8 x_51, .int .u8 x_52, .int .u8 x_53, .int .u8 x_54, .int .u8 x_55, .int .u8 x_56, .int .u8 x_57, .int .u8 x_58, .int .u8 x_59, .int .u8 x_60, .int .u8 x_61, .int .u8 x_62, .int .u8 x_63, .int .u8 x_64, .int .u8 x_65, .int .i64 r21]] (qv7 rfl rfl rfl rfl rfl rfl rfl) (by decide) rfl ?_
     refine run_region' ?_
     refine oy rfl rfl (y_move rfl) ?_
     refine oy rfl rfl (y_lss rfl rfl) ?_
     refine oy rfl rfl (y_move rfl) ?_
     refine ops_cut 3 (Bool) (fun σ => [(6, .int .i64 i_49), (2, boxP b1 0), (3, v4), (4, boxP b5 0), (5, boxP b27 0), (7, .int .i64 r73), (8, .int .i64 r76), (60, .bool σ)]) (fun σ => [box b1 [.int .i64 0, .int .i64 0, .int .i64 0, .int .u8 0, .int .u8 0, .int .u8 0, .int .u8 0, .int .u8 0, .int .u8 0, .int .u8 0, .int .u8 0, .int .u8 0, .int .u8 0, .int .u8 0, .int .u8 0, .int .u8 0, .int .u8 0, .int .u8 0, .int .u8 0, .int .i64 0], row v4 1 (r2.map eStr), box b5 [.int .i64 0, .int .i64 (-1), .int .i64 0, .int .u8 0, .int .u8 0, .int .u8 0, .int .u8 0, .int .u8 0, .int .u8 0, .int .u8 0, .int .u8 0, .int .u8 0, .int .u8 0, .int .u8 0, .int .u8 0, .int .u8 0, .int .u8 0, .int .u8 0, .int .u8 0, .int .i64 0], box b27 [.int .i64 0, .int .i64 r15, .int .i64 r18, .int .u8 x_50, .int .u8 x_51, .int .u8 x_52, .int .u8 x_53, .int .u8 x_54, .int .u8 x_55, .int .u8 x_56, .int .u8 x_57, .int .u8 x_58, .int .u8 x_59, .int .u8 x_60, .int .u8 x_61, .int .u8 x_62, .int .u8 x_63, .int .u8 x_64, .int .u8 x_65, .int .i64 r21]]) (fun σ => σ = (decide (r73 < 0) || decide (r76 < 0))) (fun L78 hL79 => ?_) ?_
     ·refine ops_split 57 (decide (r73 < 0)) rfl (fun hg80 => ?_) (fun hg80 => ?_)
      ·skip
       refine ops_no 2 false 57 rfl rfl rfl rfl rfl ?_
       refine ops_no 2 false 57 rfl rfl rfl rfl rfl ?_
       refine oy rfl rfl (y_pick (b := true) rfl rfl) ?_
       refine ops_nil ?_
       exact goes_cut hL79 true [0, 1, 2, 3] (qv8 rfl rfl rfl rfl rfl rfl rfl rfl) (by decide) rfl (by rw [hg80]; simp)
      ·skip
       refine ops_y (wg 2 false 57 rfl rfl rfl rfl) rfl (y_move rfl) ?_
       refine ops_y (wg 2 false 57 rfl rfl rfl rfl) rfl (y_lss rfl rfl) ?_
       refine oy rfl rfl (y_pick (b := false) rfl rfl) ?_
       refine ops_nil ?_
       exact goes_cut hL79 (decide (r76 < 0)) [0, 1, 2, 3] (qv8 rfl rfl rfl rfl rfl rfl rfl rfl) (by decide) rfl (by rw [hg80]; simp)
     rintro _ rfl
     refine ops_nil ?_
     refine goes_code ?_
     refine run_cond (decide (r73 < 0) || decide (r76 < 0)) rfl (fun hc81 => ?_) (fun hc81 => ?_)
     ·replace h := cond_t h hc81
      refine run_seq ?_
      refine run_region' ?_
      refine oy rfl rfl (y_load_boxagg (c := [.int .i64 0, .int .i64 (-1), .int .i64 0, .int .u8 0, .int .u8 0, .int .u8 0, .int .u8 0, .int .u8 0, .int .u8 0, .int .u8 0, .int .u8 0, .int .u8 0, .int .u8 0, .int .u8 0, .int .u8 0, .int .u8 0, .int .u8 0, .int .u8 0, .int .u8 0, .int .i64 0]) 2 Tryz.isAgg57 Tryz.sizeOf57 rfl rfl rfl) ?_
      refine ot rfl rfl (t_store 0 Tryz.sizeOf57 rfl rfl rfl rfl (by simp [Value.cells, boxP]) (by simp [Value.cells, Value.oneCell', boxP])) ?_
      rintro _ _ ⟨rfl, rfl⟩
      refine ops_turn (retell 0 (g := box b1 [.int .i64 0, .int .i64 (-1), .int .i64 0, .int .u8 0, .int .u8 0, .int .u8 0, .int .u8 0, .int .u8 0, .int .u8 0, .int .u8 0, .int .u8 0, .int .u8 0, .int .u8 0, .int .u8 0, .int .u8 0, .int .u8 0, .int .u8 0, .int .u8 0, .int .u8 0, .int .i64 0]) rfl (by kernel_rfl)) ?_
      refine ops_nil ?_
      refine goes_code ?_
      refine run_ret ?_
      obtain rfl := some_eq h
      obtain rfl := hstop68 _ rfl
      skip
      obtain rfl := after_stop ho46
      refine fin_res [.cell 2 57] [.agg #[.int .i64 0, .int .i64 (-1), .int .i64 0, .int .u8 0, .int .u8 0, .int .u8 0, .int .u8 0, .int .u8 0, .int .u8 0, .int .u8 0, .int .u8 0, .int .u8 0, .int .u8 0, .int .u8 0, .int .u8 0, .int .u8 0, .int .u8 0, .int .u8 0, .int .u8 0, .int .i64 0]] [] [] Tryz.results56 rfl (rescons (res_box 0 Tryz.isAgg57 Tryz.sizeOf57 rfl rfl rfl) resnil) (by decide) rfl ?_
      exact ⟨rfl, rfl⟩
     ·replace h := cond_f h hc81
      refine run_skip ?_
      refine goes_code ?_
      refine run_region' ?_
      refine oy rfl rfl (y_move rfl) ?_
      refine oy rfl rfl (y_move rfl) ?_
      refine oy rfl rfl (y_mul rfl rfl) ?_
      refine oy rfl rfl (y_move rfl) ?_
      refine oy rfl rfl (y_add rfl rfl) ?_
      refine oy rfl rfl (y_conv Tryz.runUnderlying3 Tryz.runUnderlying5 rfl) ?_
      refine oy rfl rfl (y_fieldAddr_box (sz := 15) Tryz.runUnderlying57 rfl Tryz.sizeOf55 rfl) ?_
      obtain ⟨hi82, h⟩ := need_some h
      refine oy rfl rfl (y_indexAddr_boxI (i := i_49) Tryz.runUnderlying55 Tryz.sizeOf5 rfl rfl hi82) ?_
      obtain ⟨x83, hxx83, h⟩ := obind_some h
      refine ot rfl rfl (t_store_arr (F := (eInt .u8)) (es := 1) (i := i_49.toNat) (l := S_api_Digest.toL (S_api_Digest.mk x_50 x_51 x_52 x_53 x_54 x_55 x_56 x_57 x_58 x_59 x_60 x_61 x_62 x_63 x_64 x_65)) (v := (IntKind.u8.wrap (IntKind.i64.wrap ((IntKind.i64.wrap (16 * r73)) + r76)))) 3 [.int .i64 0, .int .i64 r15, .int .i64 r18] [.int .i64 r21] (fun x => ((eInt_ok _) x).1) Tryz.sizeOf5 rfl rfl rfl rfl (by rw [S_api_Digest.toL_len]; omega) rfl (by simp [Value.cells, Value.oneCell', boxP])) ?_
      rintro _ _ ⟨rfl, rfl⟩
      refine ops_turn (retell 3 (g := box b27 [.int .i64 0, .int .i64 r15, .int .i64 r18, .int .u8 x83.a0_, .int .u8 x83.a1_, .int .u8 x83.a2_, .int .u8 x83.a3_, .int .u8 x83.a4_, .int .u8 x83.a5_, .int .u8 x83.a6_, .int .u8 x83.a7_, .int .u8 x83.a8_, .int .u8 x83.a9_, .int .u8 x83.a10_, .int .u8 x83.a11_, .int .u8 x83.a12_, .int .u8 x83.a13_, .int .u8 x83.a14_, .int .u8 x83.a15_, .int .i64 r21]) rfl (congrArg (fun q => box b27 ([.int .i64 0, .int .i64 r15, .int .i64 r18] ++ (q.flatMap (eInt .u8) ++ [.int .i64 r21]))) (S_api_Digest.put_at hxx83).symm)) ?_
      refine ops_nil ?_
      refine goes_blk ?_
      refine goes_code ?_
      refine run_weak [(6, .int .i64 i_49), (2, boxP b1 0), (3, v4), (4, boxP b5 0), (5, boxP b27 0)] [0, 1, 2, 3] [box b1 [.int .i64 0, .int .i64 0, .int .i64 0, .int .u8 0, .int .u8 0, .int .u8 0, .int .u8 0, .int .u8 0, .int .u8 0, .int .u8 0, .int .u8 0, .int .u8 0, .int .u8 0, .int .u8 0, .int .u8 0, .int .u8 0, .int .u8 0, .int .u8 0, .int .u8 0, .int .i64 0], row v4 1 (r2.map eStr), box b5 [.int .i64 0, .int .i64 (-1), .int .i64 0, .int .u8 0, .int .u8 0, .int .u8 0, .int .u8 0, .int .u8 0, .int .u8 0, .int .u8 0, .int .u8 0, .int .u8 0, .int .u8 0, .int .u8 0, .int .u8 0, .int .u8 0, .int .u8 0, .int .u8 0, .int .u8 0, .int .i64 0], box b27 [.int .i64 0, .int .i64 r15, .int .i64 r18, .int .u8 x83.a0_, .int .u8 x83.a1_, .int .u8 x83.a2_, .int .u8 x83.a3_, .int .u8 x83.a4_, .int .u8 x83.a5_, .int .u8 x83.a6_, .int .u8 x83.a7_, .int .u8 x83.a8_, .int .u8 x83.a9_, .int .u8 x83.a10_, .int .u8 x83.a11_, .int .u8 x83.a12_, .int .u8 x83.a13_, .int .u8 x83.a14_, .int .u8 x83.a15_, .int .i64 r21]] (qv5 rfl rfl rfl rfl rfl) (by decide) rfl ?_
      refine run_region' ?_
      refine oy rfl rfl (y_move rfl) ?_
      refine oy rfl rfl (y_add rfl rfl) ?_
      refine oy rfl rfl (y_assign rfl) ?_
      refine ops_nil ?_
      obtain rfl := some_eq h
      exact goes_iter hgo67 ((IntKind.i64.wrap (i_49 + 1)), x83.a0_, x83.a1_, x83.a2_, x83.a3_, x83.a4_, x83.a5_, x83.a6_, x83.a7_, x83.a8_, x83.a9_, x83.a10_, x83.a11_, x83.a12_, x83.a13_, x83.a14_, x83.a15_) () [0, 1, 2, 3] rfl (qv5 rfl rfl rfl rfl rfl) (by decide) rfl
    ·replace h := cond_f h hc70
     refine run_exit _ rfl ?_
     obtain rfl := some_eq h
     obtain rfl := hstop68 _ rfl
     exact goes_cut hL47 ((x_50, x_51, x_52, x_53, x_54, x_55, x_56, x_57, x_58, x_59, x_60, x_61, x_62, x_63, x_64, x_65), ()) [0, 3] (qv2 rfl rfl) (by decide) rfl rfl
   rintro ⟨⟨x_29, x_30, x_31, x_32, x_33, x_34, x_35, x_36, x_37, x_38, x_39, x_40, x_41, x_42, x_43, x_44⟩, _⟩ hj
   obtain rfl : o45 = _ := hj
   replace h := after_go ho46
   clear ho46
   change Run _ _ _ (VF.of [(2, boxP b1 0), (5, boxP b27 0)]) [box b1 [.int .i64 0, .int .i64 0, .int .i64 0, .int .u8 0, .int .u8 0, .int .u8 0, .int .u8 0, .int .u8 0, .int .u8 0, .int .u8 0, .int .u8 0, .int .u8 0, .int .u8 0, .int .u8 0, .int .u8 0, .int .u8 0, .int .u8 0, .int .u8 0, .int .u8 0, .int .i64 0], box b27 [.int .i64 0, .int .i64 r15, .int .i64 r18, .int .u8 x_29, .int .u8 x_30, .int .u8 x_31, .int .u8 x_32, .int .u8 x_33, .int .u8 x_34, .int .u8 x_35, .int .u8 x_36, .int .u8 x_37, .int .u8 x_38, .int .u8 x_39, .int .u8 x_40, .int .u8 x_41, .int .u8 x_42, .int .u8 x_43, .int .u8 x_44, .int .i64 r21]]
   refine run_seq ?_
   refine run_region' ?_
   refine oy rfl rfl (y_load_boxagg (c := [.int .i64 0, .int .i64 r15, .int .i64 r18, .int .u8 x_29, .int .u8 x_30, .int .u8 x_31, .int .u8 x_32, .int .u8 x_33, .int .u8 x_34, .int .u8 x_35, .int .u8 x_36, .int .u8 x_37, .int .u8 x_38, .int .u8 x_39, .int .u8 x_40, .int .u8 x_41, .int .u8 x_42, .int .u8 x_43, .int .u8 x_44, .int .i64 r21]) 1 Tryz.isAgg57 Tryz.sizeOf57 rfl rfl rfl) ?_
   refine ot rfl rfl (t_store 0 Tryz.sizeOf57 rfl rfl rfl rfl (by simp [Value.cells, boxP]) (by simp [Value.cells, Value.oneCell', boxP])) ?_
   rintro _ _ ⟨rfl, rfl⟩
   refine ops_turn (retell 0 (g := box b1 [.int .i64 0, .int .i64 r15, .int .i64 r18, .int .u8 x_29, .int .u8 x_30, .int .u8 x_31, .int .u8 x_32, .int .u8 x_33, .int .u8 x_34, .int .u8 x_35, .int .u8 x_36, .int .u8 x_37, .int .u8 x_38, .int .u8 x_39, .int .u8 x_40, .int .u8 x_41, .int .u8 x_42, .int .u8 x_43, .int .u8 x_44, .int .i64 r21]) rfl (by kernel_rfl)) ?_
   refine ops_nil ?_
   refine goes_code ?_
   refine run_ret ?_
   obtain rfl := some_eq h
   refine fin_res [.cell 2 57] [.agg #[.int .i64 0, .int .i64 r15, .int .i64 r18, .int .u8 x_29, .int .u8 x_30, .int .u8 x_31, .int .u8 x_32, .int .u8 x_33, .int .u8 x_34, .int .u8 x_35, .int .u8 x_36, .int .u8 x_37, .int .u8 x_38, .int .u8 x_39, .int .u8 x_40, .int .u8 x_41, .int .u8 x_42, .int .u8 x_43, .int .u8 x_44, .int .i64 r21]] [] [] Tryz.results56 rfl (rescons (res_box 0 Tryz.isAgg57 Tryz.sizeOf57 rfl rfl rfl) resnil) (by decide) rfl ?_
   exact ⟨rfl, rfl⟩
  refine any_cut2 #[true, true, true, true, true, true, true, true, true, true, true, true, true, true, false] 1 (Nat) (fun σ => [(2, boxP b1 0), (3, v4), (4, boxP b5 0), (35, .agg #[.int .i64 0, .int .i64 r15, .int .i64 r18, .int .u8 0, .int .u8 0, .int .u8 0, .int .u8 0, .int .u8 0, .int .u8 0, .int .u8 0, .int .u8 0, .int .u8 0, .int .u8 0, .int .u8 0, .int .u8 0, .int .u8 0, .int .u8 0, .int .u8 0, .int .u8 0, .int .i64 r21]), (5, boxP σ 0)]) (fun σ => [box b1 [.int .i64 0, .int .i64 0, .int .i64 0, .int .u8 0, .int .u8 0, .int .u8 0, .int .u8 0, .int .u8 0, .int .u8 0, .int .u8 0, .int .u8 0, .int .u8 0, .int .u8 0, .int .u8 0, .int .u8 0, .int .u8 0, .int .u8 0, .int .u8 0, .int .u8 0, .int .i64 0], row v4 1 (r2.map eStr), box b5 [.int .i64 0, .int .i64 (-1), .int .i64 0, .int .u8 0, .int .u8 0, .int .u8 0, .int .u8 0, .int .u8 0, .int .u8 0, .int .u8 0, .int .u8 0, .int .u8 0, .int .u8 0, .int .u8 0, .int .u8 0, .int .u8 0, .int .u8 0, .int .u8 0, .int .u8 0, .int .i64 0], box σ [.int .i64 0, .int .i64 0, .int .i64 0, .int .u8 0, .int .u8 0, .int .u8 0, .int .u8 0, .int .u8 0, .int .u8 0, .int .u8 0, .int .u8 0, .int .u8 0, .int .u8 0, .int .u8 0, .int .u8 0, .int .u8 0, .int .u8 0, .int .u8 0, .int .u8 0, .int .i64 0]]) ?_ (fun hK84 => ?_)
  ·rintro b27
   change AnyL _ _ _ _ _ (VF.of [(2, boxP b1 0), (3, v4), (4, boxP b5 0), (35, .agg #[.int .i64 0, .int .i64 r15, .int .i64 r18, .int .u8 0, .int .u8 0, .int .u8 0, .int .u8 0, .int .u8 0, .int .u8 0, .int .u8 0, .int .u8 0, .int .u8 0, .int .u8 0, .int .u8 0, .int .u8 0, .int .u8 0, .int .u8 0, .int .u8 0, .int .u8 0, .int .i64 r21]), (5, boxP b27 0)]) [box b1 [.int .i64 0, .int .i64 0, .int .i64 0, .int .u8 0, .int .u8 0, .int .u8 0, .int .u8 0, .int .u8 0, .int .u8 0, .int .u8 0, .int .u8 0, .int .u8 0, .int .u8 0, .int .u8 0, .int .u8 0, .int .u8 0, .int .u8 0, .int .u8 0, .int .u8 0, .int .i64 0], row v4 1 (r2.map eStr), box b5 [.int .i64 0, .int .i64 (-1), .int .i64 0, .int .u8 0, .int .u8 0, .int .u8 0, .int .u8 0, .int .u8 0, .int .u8 0, .int .u8 0, .int .u8 0, .int .u8 0, .int .u8 0, .int .u8 0, .int .u8 0, .int .u8 0, .int .u8 0, .int .u8 0, .int .u8 0, .int .i64 0], box b27 [.int .i64 0, .int .i64 0, .int .i64 0, .int .u8 0, .int .u8 0, .int .u8 0, .int .u8 0, .int .u8 0, .int .u8 0, .int .u8 0, .int .u8 0, .int .u8 0, .int .u8 0, .int .u8 0, .int .u8 0, .int .u8 0, .int .u8 0, .int .u8 0, .int .u8 0, .int .i64 0]] _
   refine any_all [14] (by kernel_rfl) rfl ?_
   refine anyo_cons ?_ ?_
   ·
    refine any_t rfl (wn rfl) rfl (t_store 3 Tryz.sizeOf57 rfl rfl rfl rfl (by simp [Value.cells, boxP]) (by simp [Value.cells, Value.oneCell', boxP])) ?_
    rintro _ _ ⟨rfl, rfl⟩
    refine ⟨(ss (ss (ss (sn)))), ?_⟩
    refine any_turn (retell 3 (g := box b27 [.int .i64 0, .int .i64 r15, .int .i64 r18, .int .u8 0, .int .u8 0, .int .u8 0, .int .u8 0, .int .u8 0, .int .u8 0, .int .u8 0, .int .u8 0, .int .u8 0, .int .u8 0, .int .u8 0, .int .u8 0, .int .u8 0, .int .u8 0, .int .u8 0, .int .u8 0, .int .i64 r21]) rfl (by kernel_rfl)) ?_
    exact any_weak2 (hK28 b27) [0, 1, 2, 3] (by kernel_rfl) (qv4 rfl rfl rfl rfl) (by decide) rfl
   exact anyo_nil
  refine any_cut2 #[true, true, true, true, true, true, true, true, true, true, true, true, true, false, false] 2 (Unit) (fun σ => [(2, boxP b1 0), (3, v4), (4, boxP b5 0), (35, .agg #[.int .i64 0, .int .i64 r15, .int .i64 r18, .int .u8 0, .int .u8 0, .int .u8 0, .int .u8 0, .int .u8 0, .int .u8 0, .int .u8 0, .int .u8 0, .int .u8 0, .int .u8 0, .int .u8 0, .int .u8 0, .int .u8 0, .int .u8 0, .int .u8 0, .int .u8 0, .int .i64 r21])]) (fun σ => [box b1 [.int .i64 0, .int .i64 0, .int .i64 0, .int .u8 0, .int .u8 0, .int .u8 0, .int .u8 0, .int .u8 0, .int .u8 0, .int .u8 0, .int .u8 0, .int .u8 0, .int .u8 0, .int .u8 0, .int .u8 0, .int .u8 0, .int .u8 0, .int .u8 0, .int .u8 0, .int .i64 0], row v4 1 (r2.map eStr), box b5 [.int .i64 0, .int .i64 (-1), .int .i64 0, .int .u8 0, .int .u8 0, .int .u8 0, .int .u8 0, .int .u8 0, .int .u8 0, .int .u8 0, .int .u8 0, .int .u8 0, .int .u8 0, .int .u8 0, .int .u8 0, .int .u8 0, .int .u8 0, .int .u8 0, .int .u8 0, .int .i64 0]]) ?_ (fun hK85 => ?_)
  ·rintro _
   change AnyL _ _ _ _ _ (VF.of [(2, boxP b1 0), (3, v4), (4, boxP b5 0), (35, .agg #[.int .i64 0, .int .i64 r15, .int .i64 r18, .int .u8 0, .int .u8 0, .int .u8 0, .int .u8 0, .int .u8 0, .int .u8 0, .int .u8 0, .int .u8 0, .int .u8 0, .int .u8 0, .int .u8 0, .int .u8 0, .int .u8 0, .int .u8 0, .int .u8 0, .int .u8 0, .int .i64 r21])]) [box b1 [.int .i64 0, .int .i64 0, .int .i64 0, .int .u8 0, .int .u8 0, .int .u8 0, .int .u8 0, .int .u8 0, .int .u8 0, .int .u8 0, .int .u8 0, .int .u8 0, .int .u8 0, .int .u8 0, .int .u8 0, .int .u8 0, .int .u8 0, .int .u8 0, .int .u8 0, .int .i64 0], row v4 1 (r2.map eStr), box b5 [.int .i64 0, .int .i64 (-1), .int .i64 0, .int .u8 0, .int .u8 0, .int .u8 0, .int .u8 0, .int .u8 0, .int .u8 0, .int .u8 0, .int .u8 0, .int .u8 0, .int .u8 0, .int .u8 0, .int .u8 0, .int .u8 0, .int .u8 0, .int .u8 0, .int .u8 0, .int .i64 0]] _
   refine any_all [13] (by kernel_rfl) rfl ?_
   refine anyo_cons ?_ ?_
   ·
    refine any_t rfl (wn rfl) rfl (t_alloc Tryz.zeroValue57) ?_
    rintro _ _ ⟨b86, rfl, rfl⟩
    refine ⟨(ss (ss (ss (sn)))), ?_⟩
    exact any_weak2 (hK84 b86) [0, 1, 2, 3] (by kernel_rfl) (qv5 rfl rfl rfl rfl rfl) (by decide) rfl
   exact anyo_nil
  refine any_cut2 #[true, true, true, true, true, true, true, true, true, true, true, false, false, true, false] 3 (Nat) (fun σ => [(2, boxP b1 0), (3, v4), (4, boxP b5 0), (33, .string (bs x20)), (26, .int .i64 r15), (30, .int .i64 r18), (5, boxP σ 0)]) (fun σ => [box b1 [.int .i64 0, .int .i64 0, .int .i64 0, .int .u8 0, .int .u8 0, .int .u8 0, .int .u8 0, .int .u8 0, .int .u8 0, .int .u8 0, .int .u8 0, .int .u8 0, .int .u8 0, .int .u8 0, .int .u8 0, .int .u8 0, .int .u8 0, .int .u8 0, .int .u8 0, .int .i64 0], row v4 1 (r2.map eStr), box b5 [.int .i64 0, .int .i64 (-1), .int .i64 0, .int .u8 0, .int .u8 0, .int .u8 0, .int .u8 0, .int .u8 0, .int .u8 0, .int .u8 0, .int .u8 0, .int .u8 0, .int .u8 0, .int .u8 0, .int .u8 0, .int .u8 0, .int .u8 0, .int .u8 0, .int .u8 0, .int .i64 0], box σ [.int .i64 0, .int .i64 0, .int .i64 0, .int .u8 0, .int .u8 0, .int .u8 0, .int .u8 0, .int .u8 0, .int .u8 0, .int .u8 0, .int .u8 0, .int .u8 0, .int .u8 0, .int .u8 0, .int .u8 0, .int .u8 0, .int .u8 0, .int .u8 0, .int .u8 0, .int .i64 0]]) ?_ (fun hK87 => ?_)
  ·rintro b26
   change AnyL _ _ _ _ _ (VF.of [(2, boxP b1 0), (3, v4), (4, boxP b5 0), (33, .string (bs x20)), (26, .int .i64 r15), (30, .int .i64 r18), (5, boxP b26 0)]) [box b1 [.int .i64 0, .int .i64 0, .int .i64 0, .int .u8 0, .int .u8 0, .int .u8 0, .int .u8 0, .int .u8 0, .int .u8 0, .int .u8 0, .int .u8 0, .int .u8 0, .int .u8 0, .int .u8 0, .int .u8 0, .int .u8 0, .int .u8 0, .int .u8 0, .int .u8 0, .int .i64 0], row v4 1 (r2.map eStr), box b5 [.int .i64 0, .int .i64 (-1), .int .i64 0, .int .u8 0, .int .u8 0, .int .u8 0, .int .u8 0, .int .u8 0, .int .u8 0, .int .u8 0, .int .u8 0, .int .u8 0, .int .u8 0, .int .u8 0, .int .u8 0, .int .u8 0, .int .u8 0, .int .u8 0, .int .u8 0, .int .i64 0], box b26 [.int .i64 0, .int .i64 0, .int .i64 0, .int .u8 0, .int .u8 0, .int .u8 0, .int .u8 0, .int .u8 0, .int .u8 0, .int .u8 0, .int .u8 0, .int .u8 0, .int .u8 0, .int .u8 0, .int .u8 0, .int .u8 0, .int .u8 0, .int .u8 0, .int .u8 0, .int .i64 0]] _
   refine any_all [11] (by kernel_rfl) rfl ?_
   refine anyo_cons ?_ ?_
   ·
    refine any_t rfl (wn rfl) rfl (t_callx (vs := [.string (bs x20)]) (cs := []) [] rfl Tryz.call55 rfl (ref43_number_ok n x20  hr22) showsX_nil rfl (.inl rfl)) ?_
    rintro _ _ ⟨_, ⟨rfl, rfl⟩, rfl⟩
    refine ⟨(ss (ss (ss (sn)))), ?_⟩
    refine any_y 12 rfl (by kernel_rfl) (by kernel_rfl) (by kernel_rfl) (ss (ss (ss (sn)))) (wn rfl) rfl (y_build_struct (cells := #[.int .i64 0, .int .i64 r15, .int .i64 r18, .int .u8 0, .int .u8 0, .int .u8 0, .int .u8 0, .int .u8 0, .int .u8 0, .int .u8 0, .int .u8 0, .int .u8 0, .int .u8 0, .int .u8 0, .int .u8 0, .int .u8 0, .int .u8 0, .int .u8 0, .int .u8 0, .int .i64 r21]) [(1, .int .i64 r15), (2, .int .i64 r18), (4, .int .i64 r21)] [(1, [.int .i64 r15]), (2, [.int .i64 r18]), (4, [.int .i64 r21])] Tryz.zeroValue57 Tryz.runUnderlying57 (fs_cons Tryz.sizeOf3 (fs_cons Tryz.sizeOf3 (fs_cons Tryz.sizeOf3 (fs_cons Tryz.sizeOf55 (fs_cons Tryz.sizeOf3 fs_nil))))) rfl (by kernel_rfl) (by kernel_rfl)) ?_
    exact any_weak2 (hK84 b26) [0, 1, 2, 3] (by kernel_rfl) (qv5 rfl rfl rfl rfl rfl) (by decide) rfl
   exact anyo_nil
  refine any_cut2 #[true, true, true, true, true, true, true, true, true, true, true, false, false, false, false] 4 (Unit) (fun σ => [(2, boxP b1 0), (3, v4), (4, boxP b5 0), (33, .string (bs x20)), (26, .int .i64 r15), (30, .int .i64 r18)]) (fun σ => [box b1 [.int .i64 0, .int .i64 0, .int .i64 0, .int .u8 0, .int .u8 0, .int .u8 0, .int .u8 0, .int .u8 0, .int .u8 0, .int .u8 0, .int .u8 0, .int .u8 0, .int .u8 0, .int .u8 0, .int .u8 0, .int .u8 0, .int .u8 0, .int .u8 0, .int .u8 0, .int .i64 0], row v4 1 (r2.map eStr), box b5 [.int .i64 0, .int .i64 (-1), .int .i64 0, .int .u8 0, .int .u8 0, .int .u8 0, .int .u8 0, .int .u8 0, .int .u8 0, .int .u8 0, .int .u8 0, .int .u8 0, .int .u8 0, .int .u8 0, .int .u8 0, .int .u8 0, .int .u8 0, .int .u8 0, .int .u8 0, .int .i64 0]]) ?_ (fun hK88 => ?_)
  ·rintro _
   change AnyL _ _ _ _ _ (VF.of [(2, boxP b1 0), (3, v4), (4, boxP b5 0), (33, .string (bs x20)), (26, .int .i64 r15), (30, .int .i64 r18)]) [box b1 [.int .i64 0, .int .i64 0, .int .i64 0, .int .u8 0, .int .u8 0, .int .u8 0, .int .u8 0, .int .u8 0, .int .u8 0, .int .u8 0, .int .u8 0, .int .u8 0, .int .u8 0, .int .u8 0, .int .u8 0, .int .u8 0, .int .u8 0, .int .u8 0, .int .u8 0, .int .i64 0], row v4 1 (r2.map eStr), box b5 [.int .i64 0, .int .i64 (-1), .int .i64 0, .int .u8 0, .int .u8 0, .int .u8 0, .int .u8 0, .int .u8 0, .int .u8 0, .int .u8 0, .int .u8 0, .int .u8 0, .int .u8 0, .int .u8 0, .int .u8 0, .int .u8 0, .int .u8 0, .int .u8 0, .int .u8 0, .int .i64 0]] _
   refine any_all [11, 13] (by kernel_rfl) rfl ?_
   refine anyo_cons ?_ ?_
   ·
    refine any_t rfl (wn rfl) rfl (t_callx (vs := [.string (bs x20)]) (cs := []) [] rfl Tryz.call55 rfl (ref43_number_ok n x20  hr22) showsX_nil rfl (.inl rfl)) ?_
    rintro _ _ ⟨_, ⟨rfl, rfl⟩, rfl⟩
    refine ⟨(ss (ss (ss (sn)))), ?_⟩
    refine any_y 12 rfl (by kernel_rfl) (by kernel_rfl) (by kernel_rfl) (ss (ss (ss (sn)))) (wn rfl) rfl (y_build_struct (cells := #[.int .i64 0, .int .i64 r15, .int .i64 r18, .int .u8 0, .int .u8 0, .int .u8 0, .int .u8 0, .int .u8 0, .int .u8 0, .int .u8 0, .int .u8 0, .int .u8 0, .int .u8 0, .int .u8 0, .int .u8 0, .int .u8 0, .int .u8 0, .int .u8 0, .int .u8 0, .int .i64 r21]) [(1, .int .i64 r15), (2, .int .i64 r18), (4, .int .i64 r21)] [(1, [.int .i64 r15]), (2, [.int .i64 r18]), (4, [.int .i64 r21])] Tryz.zeroValue57 Tryz.runUnderlying57 (fs_cons Tryz.sizeOf3 (fs_cons Tryz.sizeOf3 (fs_cons Tryz.sizeOf3 (fs_cons Tryz.sizeOf55 (fs_cons Tryz.sizeOf3 fs_nil))))) rfl (by kernel_rfl) (by kernel_rfl)) ?_
    exact any_weak2 (hK85 ()) [0, 1, 2] (by kernel_rfl) (qv4 rfl rfl rfl rfl) (by decide) rfl
   refine anyo_cons ?_ ?_
   ·
    refine any_t rfl (wn rfl) rfl (t_alloc Tryz.zeroValue57) ?_
    rintro _ _ ⟨b89, rfl, rfl⟩
    refine ⟨(ss (ss (ss (sn)))), ?_⟩
    exact any_weak2 (hK87 b89) [0, 1, 2, 3] (by kernel_rfl) (qv7 rfl rfl rfl rfl rfl rfl rfl) (by decide) rfl
   exact anyo_nil
  refine any_cut2 #[true, true, true, true, true, true, true, false, true, true, true, false, false, true, false] 4 (Nat) (fun σ => [(2, boxP b1 0), (3, v4), (4, boxP b5 0), (29, .string (bs x17)), (33, .string (bs x20)), (26, .int .i64 r15), (5, boxP σ 0)]) (fun σ => [box b1 [.int .i64 0, .int .i64 0, .int .i64 0, .int .u8 0, .int .u8 0, .int .u8 0, .int .u8 0, .int .u8 0, .int .u8 0, .int .u8 0, .int .u8 0, .int .u8 0, .int .u8 0, .int .u8 0, .int .u8 0, .int .u8 0, .int .u8 0, .int .u8 0, .int .u8 0, .int .i64 0], row v4 1 (r2.map eStr), box b5 [.int .i64 0, .int .i64 (-1), .int .i64 0, .int .u8 0, .int .u8 0, .int .u8 0, .int .u8 0, .int .u8 0, .int .u8 0, .int .u8 0, .int .u8 0, .int .u8 0, .int .u8 0, .int .u8 0, .int .u8 0, .int .u8 0, .int .u8 0, .int .u8 0, .int .u8 0, .int .i64 0], box σ [.int .i64 0, .int .i64 0, .int .i64 0, .int .u8 0, .int .u8 0, .int .u8 0, .int .u8 0, .int .u8 0, .int .u8 0, .int .u8 0, .int .u8 0, .int .u8 0, .int .u8 0, .int .u8 0, .int .u8 0, .int .u8 0, .int .u8 0, .int .u8 0, .int .u8 0, .int .i64 0]]) ?_ (fun hK90 => ?_)
  ·rintro b25
   change AnyL _ _ _ _ _ (VF.of [(2, boxP b1 0), (3, v4), (4, boxP b5 0), (29, .string (bs x17)), (33, .string (bs x20)), (26, .int .i64 r15), (5, boxP b25 0)]) [box b1 [.int .i64 0, .int .i64 0, .int .i64 0, .int .u8 0, .int .u8 0, .int .u8 0, .int .u8 0, .int .u8 0, .int .u8 0, .int .u8 0, .int .u8 0, .int .u8 0, .int .u8 0, .int .u8 0, .int .u8 0, .int .u8 0, .int .u8 0, .int .u8 0, .int .u8 0, .int .i64 0], row v4 1 (r2.map eStr), box b5 [.int .i64 0, .int .i64 (-1), .int .i64 0, .int .u8 0, .int .u8 0, .int .u8 0, .int .u8 0, .int .u8 0, .int .u8 0, .int .u8 0, .int .u8 0, .int .u8 0, .int .u8 0, .int .u8 0, .int .u8 0, .int .u8 0, .int .u8 0, .int .u8 0, .int .u8 0, .int .i64 0], box b25 [.int .i64 0, .int .i64 0, .int .i64 0, .int .u8 0, .int .u8 0, .int .u8 0, .int .u8 0, .int .u8 0, .int .u8 0, .int .u8 0, .int .u8 0, .int .u8 0, .int .u8 0, .int .u8 0, .int .u8 0, .int .u8 0, .int .u8 0, .int .u8 0, .int .u8 0, .int .i64 0]] _
   refine any_all [7] (by kernel_rfl) rfl ?_
   refine anyo_cons ?_ ?_
   ·
    refine any_t rfl (wn rfl) rfl (t_callx (vs := [.string (bs x17)]) (cs := []) [] rfl Tryz.call55 rfl (ref43_number_ok n x17  hr19) showsX_nil rfl (.inl rfl)) ?_
    rintro _ _ ⟨_, ⟨rfl, rfl⟩, rfl⟩
    refine ⟨(ss (ss (ss (sn)))), ?_⟩
    exact any_weak2 (hK87 b25) [0, 1, 2, 3] (by kernel_rfl) (qv7 rfl rfl rfl rfl rfl rfl rfl) (by decide) rfl
   exact anyo_nil
  refine any_cut2 #[true, true, true, true, true, true, true, false, true, true, true, false, false, false, false] 5 (Unit) (fun σ => [(2, boxP b1 0), (3, v4), (4, boxP b5 0), (29, .string (bs x17)), (33, .string (bs x20)), (26, .int .i64 r15)]) (fun σ => [box b1 [.int .i64 0, .int .i64 0, .int .i64 0, .int .u8 0, .int .u8 0, .int .u8 0, .int .u8 0, .int .u8 0, .int .u8 0, .int .u8 0, .int .u8 0, .int .u8 0, .int .u8 0, .int .u8 0, .int .u8 0, .int .u8 0, .int .u8 0, .int .u8 0, .int .u8 0, .int .i64 0], row v4 1 (r2.map eStr), box b5 [.int .i64 0, .int .i64 (-1), .int .i64 0, .int .u8 0, .int .u8 0, .int .u8 0, .int .u8 0, .int .u8 0, .int .u8 0, .int .u8 0, .int .u8 0, .int .u8 0, .int .u8 0, .int .u8 0, .int .u8 0, .int .u8 0, .int .u8 0, .int .u8 0, .int .u8 0, .int .i64 0]]) ?_ (fun hK91 => ?_)
  ·rintro _
   change AnyL _ _ _ _ _ (VF.of [(2, boxP b1 0), (3, v4), (4, boxP b5 0), (29, .string (bs x17)), (33, .string (bs x20)), (26, .int .i64 r15)]) [box b1 [.int .i64 0, .int .i64 0, .int .i64 0, .int .u8 0, .int .u8 0, .int .u8 0, .int .u8 0, .int .u8 0, .int .u8 0, .int .u8 0, .int .u8 0, .int .u8 0, .int .u8 0, .int .u8 0, .int .u8 0, .int .u8 0, .int .u8 0, .int .u8 0, .int .u8 0, .int .i64 0], row v4 1 (r2.map eStr), box b5 [.int .i64 0, .int .i64 (-1), .int .i64 0, .int .u8 0, .int .u8 0, .int .u8 0, .int .u8 0, .int .u8 0, .int .u8 0, .int .u8 0, .int .u8 0, .int .u8 0, .int .u8 0, .int .u8 0, .int .u8 0, .int .u8 0, .int .u8 0, .int .u8 0, .int .u8 0, .int .i64 0]] _
   refine any_all [7, 13] (by kernel_rfl) rfl ?_
   refine anyo_cons ?_ ?_
   ·
    refine any_t rfl (wn rfl) rfl (t_callx (vs := [.string (bs x17)]) (cs := []) [] rfl Tryz.call55 rfl (ref43_number_ok n x17  hr19) showsX_nil rfl (.inl rfl)) ?_
    rintro _ _ ⟨_, ⟨rfl, rfl⟩, rfl⟩
    refine ⟨(ss (ss (ss (sn)))), ?_⟩
    exact any_weak2 (hK88 ()) [0, 1, 2] (by kernel_rfl) (qv6 rfl rfl rfl rfl rfl rfl) (by decide) rfl
   refine anyo_cons ?_ ?_
   ·
    refine any_t rfl (wn rfl) rfl (t_alloc Tryz.zeroValue57) ?_
    rintro _ _ ⟨b92, rfl, rfl⟩
    refine ⟨(ss (ss (ss (sn)))), ?_⟩
    exact any_weak2 (hK90 b92) [0, 1, 2, 3] (by kernel_rfl) (qv7 rfl rfl rfl rfl rfl rfl rfl) (by decide) rfl
   exact anyo_nil
  refine any_cut2 #[true, true, true, false, true, true, true, false, true, true, true, false, false, true, false] 5 (Nat) (fun σ => [(2, boxP b1 0), (3, v4), (4, boxP b5 0), (25, .string (bs x14)), (29, .string (bs x17)), (33, .string (bs x20)), (5, boxP σ 0)]) (fun σ => [box b1 [.int .i64 0, .int .i64 0, .int .i64 0, .int .u8 0, .int .u8 0, .int .u8 0, .int .u8 0, .int .u8 0, .int .u8 0, .int .u8 0, .int .u8 0, .int .u8 0, .int .u8 0, .int .u8 0, .int .u8 0, .int .u8 0, .int .u8 0, .int .u8 0, .int .u8 0, .int .i64 0], row v4 1 (r2.map eStr), box b5 [.int .i64 0, .int .i64 (-1), .int .i64 0, .int .u8 0, .int .u8 0, .int .u8 0, .int .u8 0, .int .u8 0, .int .u8 0, .int .u8 0, .int .u8 0, .int .u8 0, .int .u8 0, .int .u8 0, .int .u8 0, .int .u8 0, .int .u8 0, .int .u8 0, .int .u8 0, .int .i64 0], box σ [.int .i64 0, .int .i64 0, .int .i64 0, .int .u8 0, .int .u8 0, .int .u8 0, .int .u8 0, .int .u8 0, .int .u8 0, .int .u8 0, .int .u8 0, .int .u8 0, .int .u8 0, .int .u8 0, .int .u8 0, .int .u8 0, .int .u8 0, .int .u8 0, .int .u8 0, .int .i64 0]]) ?_ (fun hK93 => ?_)
  ·rintro b24
   change AnyL _ _ _ _ _ (VF.of [(2, boxP b1 0), (3, v4), (4, boxP b5 0), (25, .string (bs x14)), (29, .string (bs x17)), (33, .string (bs x20)), (5, boxP b24 0)]) [box b1 [.int .i64 0, .int .i64 0, .int .i64 0, .int .u8 0, .int .u8 0, .int .u8 0, .int .u8 0, .int .u8 0, .int .u8 0, .int .u8 0, .int .u8 0, .int .u8 0, .int .u8 0, .int .u8 0, .int .u8 0, .int .u8 0, .int .u8 0, .int .u8 0, .int .u8 0, .int .i64 0], row v4 1 (r2.map eStr), box b5 [.int .i64 0, .int .i64 (-1), .int .i64 0, .int .u8 0, .int .u8 0, .int .u8 0, .int .u8 0, .int .u8 0, .int .u8 0, .int .u8 0, .int .u8 0, .int .u8 0, .int .u8 0, .int .u8 0, .int .u8 0, .int .u8 0, .int .u8 0, .int .u8 0, .int .u8 0, .int .i64 0], box b24 [.int .i64 0, .int .i64 0, .int .i64 0, .int .u8 0, .int .u8 0, .int .u8 0, .int .u8 0, .int .u8 0, .int .u8 0, .int .u8 0, .int .u8 0, .int .u8 0, .int .u8 0, .int .u8 0, .int .u8 0, .int .u8 0, .int .u8 0, .int .u8 0, .int .u8 0, .int .i64 0]] _
   refine any_all [3] (by kernel_rfl) rfl ?_
   refine anyo_cons ?_ ?_
   ·
    refine any_t rfl (wn rfl) rfl (t_callx (vs := [.string (bs x14)]) (cs := []) [] rfl Tryz.call55 rfl (ref43_number_ok n x14  hr16) showsX_nil rfl (.inl rfl)) ?_
    rintro _ _ ⟨_, ⟨rfl, rfl⟩, rfl⟩
    refine ⟨(ss (ss (ss (sn)))), ?_⟩
    exact any_weak2 (hK90 b24) [0, 1, 2, 3] (by kernel_rfl) (qv7 rfl rfl rfl rfl rfl rfl rfl) (by decide) rfl
   exact anyo_nil
  refine any_all [3, 13] (by kernel_rfl) rfl ?_
  refine anyo_cons ?_ ?_
  ·
   refine any_t rfl (wn rfl) rfl (t_callx (vs := [.string (bs x14)]) (cs := []) [] rfl Tryz.call55 rfl (ref43_number_ok n x14  hr16) showsX_nil rfl (.inl rfl)) ?_
   rintro _ _ ⟨_, ⟨rfl, rfl⟩, rfl⟩
   refine ⟨(ss (ss (ss (sn)))), ?_⟩
   exact any_weak2 (hK91 ()) [0, 1, 2] (by kernel_rfl) (qv6 rfl rfl rfl rfl rfl rfl) (by decide) rfl
  refine anyo_cons ?_ ?_
  ·
   refine any_t rfl (wn rfl) rfl (t_alloc Tryz.zeroValue57) ?_
   rintro _ _ ⟨b94, rfl, rfl⟩
   refine ⟨(ss (ss (ss (sn)))), ?_⟩
   exact any_weak2 (hK93 b94) [0, 1, 2, 3] (by kernel_rfl) (qv7 rfl rfl rfl rfl rfl rfl rfl) (by decide) rfl
  exact anyo_nil

def ref43_Parse_L1 (n : Nat) (r32 : Int) (l_35 : (List (List UInt8))) : (Int × (List S_api_Segment)) → Option (Lp (Int × (List S_api_Segment)) (Lp ((List S_api_Segment)) (S_ref43_Made))) :=
 fun (i_57, x_58) =>
  cond (decide (i_57 < (l_35.length : Int)))
   (idx l_35 i_57 fun x65 =>
   obind (ref43_line n x65) fun r66 =>
   need (x_58.length + ([(S_api_Segment.mk (IntKind.i64.wrap ((IntKind.i64.wrap (r32 + i_57)) - 1)) r66.Begin r66.Len r66.Body r66.Size)] : List S_api_Segment).length ≤ 4294967296) (
   some (.go ((IntKind.i64.wrap (i_57 + 1)), (x_58 ++ ([(S_api_Segment.mk (IntKind.i64.wrap ((IntKind.i64.wrap (r32 + i_57)) - 1)) r66.Begin r66.Len r66.Body r66.Size)] : List S_api_Segment))))))
   (some (.stop (.go x_58)))
def ref43_Parse (n : Nat) (s_0 : (List UInt8)) : Option (S_ref43_Made) :=
 cond (decide (65536 < (s_0.length : Int)))
  (some (S_ref43_Made.mk (S_api_Playlist.mk 0 ([] : List S_api_Segment) false) 2))
  (obind (ref43_split n s_0 10) fun r3 =>
  bindJ (S := Bool)
   (cond (decide ((r3.length : Int) < 2))
    (some (.go true))
    (idx r3 (IntKind.i64.wrap ((r3.length : Int) - 1)) fun x12 =>
    some (.go (!decide (x12 = [])))))
  (fun b6 =>
   bindJ (S := Bool)
    (cond b6
     (some (.go true))
     (idx r3 0 fun x19 =>
     some (.go (decide ((x19.length : Int) < 6)))))
   (fun b13 =>
    bindJ (S := Bool)
     (cond b13
      (some (.go true))
      (idx r3 0 fun x26 =>
      need (0 ≤ (0 : Int) ∧ (0 : Int) ≤ 5 ∧ 5 ≤ (x26.length : Int)) (
      some (.go (!decide ((x26.take ((5 : Int).toNat)) = [108, 105, 118, 101, 32]))))))
    (fun b20 =>
     cond b20
      (some (S_ref43_Made.mk (S_api_Playlist.mk 0 ([] : List S_api_Segment) false) 3))
      (need (0 ≤ (0 : Int) ∧ 0 ≤ (IntKind.i64.wrap ((r3.length : Int) - 1)) ∧ (IntKind.i64.wrap ((r3.length : Int) - 1)) ≤ (r3.length : Int)) (
      idx (r3.take (((IntKind.i64.wrap ((r3.length : Int) - 1))).toNat)) 0 fun x30 =>
      need (0 ≤ (5 : Int) ∧ 5 ≤ (x30.length : Int) ∧ (x30.length : Int) ≤ (x30.length : Int)) (
      obind (ref43_number n (x30.drop ((5 : Int).toNat))) fun r32 =>
      bindJ (S := (List (List UInt8)) × Bool)
       (bindJ (S := Bool)
        (cond (decide (1 < ((r3.take (((IntKind.i64.wrap ((r3.length : Int) - 1))).toNat)).length : Int)))
         (idx (r3.take (((IntKind.i64.wrap ((r3.length : Int) - 1))).toNat)) (IntKind.i64.wrap (((r3.take (((IntKind.i64.wrap ((r3.length : Int) - 1))).toNat)).length : Int) - 1)) fun x48 =>
         some (.go (decide (x48 = [100, 111, 110, 101]))))
         (some (.go false)))
       (fun b42 =>
        cond b42
         (need (0 ≤ (0 : Int) ∧ 0 ≤ (IntKind.i64.wrap (((r3.take (((IntKind.i64.wrap ((r3.length : Int) - 1))).toNat)).length : Int) - 1)) ∧ (IntKind.i64.wrap (((r3.take (((IntKind.i64.wrap ((r3.length : Int) - 1))).toNat)).length : Int) - 1)) ≤ ((r3.take (((IntKind.i64.wrap ((r3.length : Int) - 1))).toNat)).length : Int)) (
         some (.go (((r3.take (((IntKind.i64.wrap ((r3.length : Int) - 1))).toNat)).take (((IntKind.i64.wrap (((r3.take (((IntKind.i64.wrap ((r3.length : Int) - 1))).toNat)).length : Int) - 1))).toNat)), true))))
         (some (.go ((r3.take (((IntKind.i64.wrap ((r3.length : Int) - 1))).toNat)), false)))))
      (fun (l_35, x_36) =>
       bindJ (S := (List S_api_Segment))
        (iter (ref43_Parse_L1 n r32 l_35) n (1, ([] : List S_api_Segment)))
       (fun x_51 =>
        obind (ref43_Valid n (S_api_Playlist.mk r32 x_51 x_36)) fun r73 =>
        cond (!r73)
         (some (S_ref43_Made.mk (S_api_Playlist.mk 0 ([] : List S_api_Segment) false) 3))
         (some (S_ref43_Made.mk (S_api_Playlist.mk r32 x_51 x_36) 0)))))))))))
theorem ref43_Parse_ok (n : Nat) (s_0 : (List UInt8))  {r : S_ref43_Made} (h : ref43_Parse n s_0 = some r) :
  Meets Tryz.prog 15 [.string (bs s_0)] [] (fun v G => ∃ v0, v = .agg #[.int .i64 r.P.First, v0, .bool r.P.Done, .int .i64 r.E] ∧ G = [row v0 20 (r.P.L.map S_api_Segment.enc)]) := by
 refine fn_of_run Tryz.func15 rfl Tryz.ntmps15 rfl (fun w0 o0 => ?_)
 refine run_seq ?_
 refine run_region' ?_
 refine ot rfl rfl (t_alloc Tryz.zeroValue31) ?_
 rintro _ _ ⟨b1, rfl, rfl⟩
 refine ops_nil ?_
 refine goes_code ?_
 refine run_seq ?_
 refine run_seq ?_
 refine run_region' ?_
 refine oy rfl rfl (y_move rfl) ?_
 refine oy rfl rfl (y_len_str rfl Tryz.runUnderlying9 rfl) ?_
 refine oy rfl rfl (y_gtr rfl rfl) ?_
 refine ops_nil ?_
 refine goes_code ?_
 refine run_cond (decide (65536 < (s_0.length : Int))) rfl (fun hc2 => ?_) (fun hc2 => ?_)
 ·replace h := cond_t h hc2
  refine run_seq ?_
  refine run_region' ?_
  refine oy rfl rfl (y_build_struct (cells := #[.int .i64 0, .slice none 0 0, .bool false, .int .i64 2]) [(1, .int .i64 2)] [(1, [.int .i64 2])] Tryz.zeroValue31 Tryz.runUnderlying31 (fs_cons Tryz.sizeOf24 (fs_cons Tryz.sizeOf27 fs_nil)) rfl rfl rfl) ?_
  refine ot rfl rfl (t_store 0 Tryz.sizeOf31 rfl rfl rfl rfl (by simp [Value.cells, boxP]) (by simp [Value.cells, Value.oneCell', boxP])) ?_
  rintro _ _ ⟨rfl, rfl⟩
  refine ops_turn (retell 0 (g := box b1 [.int .i64 0, .slice none 0 0, .bool false, .int .i64 2]) rfl rfl) ?_
  refine ops_nil ?_
  refine goes_code ?_
  refine run_ret ?_
  refine fin_turn (nilrow 20) ?_
  refine fin_turn (retell 1 (g := row (.slice none 0 0) 20 (([] : List S_api_Segment).map S_api_Segment.enc)) rfl rfl) ?_
  obtain rfl := some_eq h
  refine fin_res [.cell 2 31] [.agg #[.int .i64 0, (.slice none 0 0), .bool false, .int .i64 2]] [1] [row (.slice none 0 0) 20 (([] : List S_api_Segment).map S_api_Segment.enc)] Tryz.results15 rfl (rescons (res_box 0 Tryz.isAgg31 Tryz.sizeOf31 rfl rfl rfl) resnil) (by decide) rfl ?_
  exact ⟨_, rfl, rfl⟩
 ·replace h := cond_f h hc2
  refine run_skip ?_
  refine goes_code ?_
  refine run_seq ?_
  refine run_region' ?_
  refine oy rfl rfl (y_move rfl) ?_
  obtain ⟨r3, hr4, h⟩ := obind_some h
  refine ot rfl rfl (t_callx (vs := [.string (bs s_0), .int .u8 10]) (cs := []) [] rfl Tryz.call54 rfl (ref43_split_ok n s_0 10  hr4) showsX_nil rfl (.inl rfl)) ?_
  rintro v5 _ ⟨_, ⟨_, rfl, rfl⟩, rfl⟩
  refine oy rfl rfl (y_assign rfl) ?_
  refine ops_nil ?_
  refine goes_code ?_
  refine run_seq ?_
  refine run_seq ?_
  refine run_region' ?_
  refine oy rfl rfl (y_move rfl) ?_
  refine oy rfl rfl ((y_len 1 rfl Tryz.runUnderlying81 rfl rfl reads_row).to (v_len eStr _)) ?_
  refine oy rfl rfl (y_lss rfl rfl) ?_
  refine oy rfl rfl (y_move rfl) ?_
  obtain ⟨o7, h, ho8⟩ := bindJ_some h
  refine ops_cut 8 (Bool) (fun σ => [(2, boxP b1 0), (3, v5), (25, .bool σ)]) (fun σ => [box b1 [.int .i64 0, .slice none 0 0, .bool false, .int .i64 0], row v5 1 (r3.map eStr)]) (fun σ => o7 = .go σ) (fun L9 hL10 => ?_) ?_
  ·refine ops_split 17 (decide ((r3.length : Int) < 2)) rfl (fun hg11 => ?_) (fun hg11 => ?_)
   ·replace h := cond_t h hg11
    refine ops_no 3 false 17 rfl rfl rfl rfl rfl ?_
    refine ops_no 3 false 17 rfl rfl rfl rfl rfl ?_
    refine ops_no 3 false 17 rfl rfl rfl rfl rfl ?_
    refine ops_no 3 false 17 rfl rfl rfl rfl rfl ?_
    refine ops_weak [(2, boxP b1 0), (3, v5), (17, .bool true), (18, undef), (21, undef)] [0, 1] [box b1 [.int .i64 0, .slice none 0 0, .bool false, .int .i64 0], row v5 1 (r3.map eStr)] (qv5 rfl rfl rfl rfl rfl) (by decide) rfl ?_
    refine ops_no 3 false 17 rfl rfl rfl rfl rfl ?_
    refine ops_no 3 false 17 rfl rfl rfl rfl rfl ?_
    refine ops_no 3 false 17 rfl rfl rfl rfl rfl ?_
    refine oy rfl rfl (y_pick (b := true) rfl rfl) ?_
    refine ops_nil ?_
    obtain rfl := some_eq h
    exact goes_cut hL10 true [0, 1] (qv3 rfl rfl rfl) (by decide) rfl rfl
   ·replace h := cond_f h hg11
    refine ops_y (wg 3 false 17 rfl rfl rfl rfl) rfl (y_move rfl) ?_
    refine ops_y (wg 3 false 17 rfl rfl rfl rfl) rfl (y_move rfl) ?_
    refine ops_y (wg 3 false 17 rfl rfl rfl rfl) rfl ((y_len 1 rfl Tryz.runUnderlying81 rfl rfl reads_row).to (v_len eStr _)) ?_
    refine ops_y (wg 3 false 17 rfl rfl rfl rfl) rfl (y_sub rfl rfl) ?_
    refine ops_weak [(2, boxP b1 0), (3, v5), (17, .bool false), (18, v5), (21, .int .i64 (IntKind.i64.wrap ((r3.length : Int) - 1)))] [0, 1] [box b1 [.int .i64 0, .slice none 0 0, .bool false, .int .i64 0], row v5 1 (r3.map eStr)] (qv5 rfl rfl rfl rfl rfl) (by decide) rfl ?_
    obtain ⟨x12, hzx12, hlx12, hxx12, h⟩ := idx_some h
    refine ops_y (wg 3 false 17 rfl rfl rfl rfl) rfl (y_indexAddrI (kd := .i64) (i := (IntKind.i64.wrap ((r3.length : Int) - 1))) 1 Tryz.runUnderlying81 Tryz.sizeOf9 rfl rfl rfl reads_row hzx12 (map_lt hlx12)) ?_
    refine ops_y (wg 3 false 17 rfl rfl rfl rfl) rfl (y_load_elem (i := ((IntKind.i64.wrap ((r3.length : Int) - 1))).toNat) 1 Tryz.isAgg9 rfl rfl reads_row (map_get hxx12)) ?_
    refine ops_y (wg 3 false 17 rfl rfl rfl rfl) rfl (y_sneq rfl rfl) ?_
    refine oy rfl rfl (y_pick (b := false) rfl rfl) ?_
    refine ops_nil ?_
    obtain rfl := some_eq h
    exact goes_cut hL10 (!decide (x12 = [])) [0, 1] (qv3 rfl rfl rfl) (by decide) rfl rfl
  rintro b6 hj
  obtain rfl : o7 = _ := hj
  replace h := after_go ho8
  clear ho8
  refine oy rfl rfl (y_move rfl) ?_
  obtain ⟨o14, h, ho15⟩ := bindJ_some h
  refine ops_cut 6 (Bool) (fun σ => [(2, boxP b1 0), (3, v5), (32, .bool σ)]) (fun σ => [box b1 [.int .i64 0, .slice none 0 0, .bool false, .int .i64 0], row v5 1 (r3.map eStr)]) (fun σ => o14 = .go σ) (fun L16 hL17 => ?_) ?_
  ·refine ops_split 26 b6 rfl (fun hg18 => ?_) (fun hg18 => ?_)
   ·replace h := cond_t h hg18
    refine ops_no 12 false 26 rfl rfl rfl rfl rfl ?_
    refine ops_no 12 false 26 rfl rfl rfl rfl rfl ?_
    refine ops_no 12 false 26 rfl rfl rfl rfl rfl ?_
    refine ops_no 12 false 26 rfl rfl rfl rfl rfl ?_
    refine ops_no 12 false 26 rfl rfl rfl rfl rfl ?_
    refine oy rfl rfl (y_pick (b := true) rfl rfl) ?_
    refine ops_nil ?_
    obtain rfl := some_eq h
    exact goes_cut hL17 true [0, 1] (qv3 rfl rfl rfl) (by decide) rfl rfl
   ·replace h := cond_f h hg18
    refine ops_y (wg 12 false 26 rfl rfl rfl rfl) rfl (y_move rfl) ?_
    obtain ⟨x19, hzx19, hlx19, hxx19, h⟩ := idx_some h
    refine ops_y (wg 12 false 26 rfl rfl rfl rfl) rfl (y_indexAddrI (kd := .i64) (i := 0) 1 Tryz.runUnderlying81 Tryz.sizeOf9 rfl rfl rfl reads_row hzx19 (map_lt hlx19)) ?_
    refine ops_y (wg 12 false 26 rfl rfl rfl rfl) rfl (y_load_elem (i := (0 : Int).toNat) 1 Tryz.isAgg9 rfl rfl reads_row (map_get hxx19)) ?_
    refine ops_y (wg 12 false 26 rfl rfl rfl rfl) rfl (y_len_str rfl Tryz.runUnderlying9 rfl) ?_
    refine ops_y (wg 12 false 26 rfl rfl rfl rfl) rfl (y_lss rfl rfl) ?_
    refine oy rfl rfl (y_pick (b := false) rfl rfl) ?_
    refine ops_nil ?_
    obtain rfl := some_eq h
    exact goes_cut hL17 (decide ((x19.length : Int) < 6)) [0, 1] (qv3 rfl rfl rfl) (by decide) rfl rfl
  rintro b13 hj
  obtain rfl : o14 = _ := hj
  replace h := after_go ho15
  clear ho15
  refine oy rfl rfl (y_move rfl) ?_
  obtain ⟨o21, h, ho22⟩ := bindJ_some h
  refine ops_cut 6 (Bool) (fun σ => [(2, boxP b1 0), (3, v5), (39, .bool σ)]) (fun σ => [box b1 [.int .i64 0, .slice none 0 0, .bool false, .int .i64 0], row v5 1 (r3.map eStr)]) (fun σ => o21 = .go σ) (fun L23 hL24 => ?_) ?_
  ·refine ops_split 33 b13 rfl (fun hg25 => ?_) (fun hg25 => ?_)
   ·replace h := cond_t h hg25
    refine ops_no 19 false 33 rfl rfl rfl rfl rfl ?_
    refine ops_no 19 false 33 rfl rfl rfl rfl rfl ?_
    refine ops_no 19 false 33 rfl rfl rfl rfl rfl ?_
    refine ops_no 19 false 33 rfl rfl rfl rfl rfl ?_
    refine ops_no 19 false 33 rfl rfl rfl rfl rfl ?_
    refine oy rfl rfl (y_pick (b := true) rfl rfl) ?_
    refine ops_nil ?_
    obtain rfl := some_eq h
    exact goes_cut hL24 true [0, 1] (qv3 rfl rfl rfl) (by decide) rfl rfl
   ·replace h := cond_f h hg25
    refine ops_y (wg 19 false 33 rfl rfl rfl rfl) rfl (y_move rfl) ?_
    obtain ⟨x26, hzx26, hlx26, hxx26, h⟩ := idx_some h
    refine ops_y (wg 19 false 33 rfl rfl rfl rfl) rfl (y_indexAddrI (kd := .i64) (i := 0) 1 Tryz.runUnderlying81 Tryz.sizeOf9 rfl rfl rfl reads_row hzx26 (map_lt hlx26)) ?_
    refine ops_y (wg 19 false 33 rfl rfl rfl rfl) rfl (y_load_elem (i := (0 : Int).toNat) 1 Tryz.isAgg9 rfl rfl reads_row (map_get hxx26)) ?_
    obtain ⟨hb27, h⟩ := need_some h
    refine ops_y (wg 19 false 33 rfl rfl rfl rfl) rfl (OpY.to (v' := .string (bs (x26.take ((5 : Int).toNat)))) (y_slice_str (l := 0) (r := 5) Tryz.runUnderlying9 rfl bi0 (bi1 (kd := .i64) rfl) hb27.1 hb27.2.1 hb27.2.2) (by simp)) ?_
    refine ops_y (wg 19 false 33 rfl rfl rfl rfl) rfl (y_sneq rfl rfl) ?_
    refine oy rfl rfl (y_pick (b := false) rfl rfl) ?_
    refine ops_nil ?_
    obtain rfl := some_eq h
    exact goes_cut hL24 (!decide ((x26.take ((5 : Int).toNat)) = [108, 105, 118, 101, 32])) [0, 1] (qv3 rfl rfl rfl) (by decide) rfl rfl
  rintro b20 hj
  obtain rfl : o21 = _ := hj
  replace h := after_go ho22
  clear ho22
  refine ops_nil ?_
  refine goes_code ?_
  refine run_cond b20 rfl (fun hc28 => ?_) (fun hc28 => ?_)
  ·replace h := cond_t h hc28
   refine run_seq ?_
   refine run_region' ?_
   refine oy rfl rfl (y_build_struct (cells := #[.int .i64 0, .slice none 0 0, .bool false, .int .i64 3]) [(1, .int .i64 3)] [(1, [.int .i64 3])] Tryz.zeroValue31 Tryz.runUnderlying31 (fs_cons Tryz.sizeOf24 (fs_cons Tryz.sizeOf27 fs_nil)) rfl rfl rfl) ?_
   refine ot rfl rfl (t_store 0 Tryz.sizeOf31 rfl rfl rfl rfl (by simp [Value.cells, boxP]) (by simp [Value.cells, Value.oneCell', boxP])) ?_
   rintro _ _ ⟨rfl, rfl⟩
   refine ops_turn (retell 0 (g := box b1 [.int .i64 0, .slice none 0 0, .bool false, .int .i64 3]) rfl rfl) ?_
   refine ops_nil ?_
   refine goes_code ?_
   refine run_ret ?_
   refine fin_turn (nilrow 20) ?_
   refine fin_turn (retell 2 (g := row (.slice none 0 0) 20 (([] : List S_api_Segment).map S_api_Segment.enc)) rfl rfl) ?_
   obtain rfl := some_eq h
   refine fin_res [.cell 2 31] [.agg #[.int .i64 0, (.slice none 0 0), .bool false, .int .i64 3]] [2] [row (.slice none 0 0) 20 (([] : List S_api_Segment).map S_api_Segment.enc)] Tryz.results15 rfl (rescons (res_box 0 Tryz.isAgg31 Tryz.sizeOf31 rfl rfl rfl) resnil) (by decide) rfl ?_
   exact ⟨_, rfl, rfl⟩
  ·replace h := cond_f h hc28
   refine run_skip ?_
   refine goes_code ?_
   refine run_seq ?_
   refine run_region' ?_
   refine oy rfl rfl (y_move rfl) ?_
   refine oy rfl rfl (y_move rfl) ?_
   refine oy rfl rfl ((y_len 1 rfl Tryz.runUnderlying81 rfl rfl reads_row).to (v_len eStr _)) ?_
   refine oy rfl rfl (y_sub rfl rfl) ?_
   obtain ⟨hb29, h⟩ := need_some h
   refine ops_turn (Go.Abs.freeze 1 rfl) ?_
   refine oy rfl rfl (y_slice (l := 0) (r := (IntKind.i64.wrap ((r3.length : Int) - 1))) 1 Tryz.runUnderlying81 Tryz.sizeOf9 rfl rfl reads_ro bi0 (bi1 (kd := .i64) rfl) hb29.1 hb29.2.1 (map_len_le hb29.2.2)) ?_
   refine ops_turn (turn_sub (l := (0 : Int).toNat) (r := ((IntKind.i64.wrap ((r3.length : Int) - 1))).toNat) 1 rfl (by omega) (map_toNat_le hb29.2.2)) ?_
   refine ops_turn (retell 2 (g := ro (subS v5 1 ((0 : Int).toNat) (((IntKind.i64.wrap ((r3.length : Int) - 1))).toNat)) 1 ((r3.take (((IntKind.i64.wrap ((r3.length : Int) - 1))).toNat)).map eStr)) rfl (congrArg (ro _ _) (sub_hi _ _ _))) ?_
   refine oy rfl rfl (y_assign rfl) ?_
   refine ops_nil ?_
   refine goes_code ?_
   refine run_seq ?_
   refine run_region' ?_
   refine oy rfl rfl (y_move rfl) ?_
   obtain ⟨x30, hzx30, hlx30, hxx30, h⟩ := idx_some h
   refine oy rfl rfl (y_indexAddrI (kd := .i64) (i := 0) 2 Tryz.runUnderlying81 Tryz.sizeOf9 rfl rfl rfl reads_ro hzx30 (map_lt hlx30)) ?_
   refine oy rfl rfl (y_load_elem (i := (0 : Int).toNat) 2 Tryz.isAgg9 rfl rfl reads_ro (map_get hxx30)) ?_
   obtain ⟨hb31, h⟩ := need_some h
   refine oy rfl rfl (OpY.to (v' := .string (bs (x30.drop ((5 : Int).toNat)))) (y_slice_str (l := 5) (r := (x30.length : Int)) Tryz.runUnderlying9 rfl (bi1 (kd := .i64) rfl) bi0 hb31.1 hb31.2.1 hb31.2.2) (by simp)) ?_
   obtain ⟨r32, hr33, h⟩ := obind_some h
   refine ot rfl rfl (t_callx (vs := [.string (bs (x30.drop ((5 : Int).toNat)))]) (cs := []) [] rfl Tryz.call55 rfl (ref43_number_ok n (x30.drop ((5 : Int).toNat))  hr33) showsX_nil rfl (.inl rfl)) ?_
   rintro _ _ ⟨_, ⟨rfl, rfl⟩, rfl⟩
   refine oy rfl rfl (y_build_struct (cells := #[.int .i64 r32, .slice none 0 0, .bool false]) [(0, .int .i64 r32)] [(0, [.int .i64 r32])] Tryz.zeroValue24 Tryz.runUnderlying24 (fs_cons Tryz.sizeOf3 (fs_cons Tryz.sizeOf22 (fs_cons Tryz.sizeOf4 fs_nil))) rfl rfl rfl) ?_
   refine ot rfl rfl (t_alloc Tryz.zeroValue24) ?_
   rintro _ _ ⟨b34, rfl, rfl⟩
   refine ot rfl rfl (t_store 3 Tryz.sizeOf24 rfl rfl rfl rfl (by simp [Value.cells, boxP]) (by simp [Value.cells, Value.oneCell', boxP])) ?_
   rintro _ _ ⟨rfl, rfl⟩
   refine ops_turn (retell 3 (g := box b34 [.int .i64 r32, .slice none 0 0, .bool false]) rfl rfl) ?_
   refine ops_nil ?_
   refine goes_code ?_
   obtain ⟨o38, h, ho39⟩ := bindJ_some h
   refine run_cut (((List (List UInt8)) × Bool) × (Value)) (fun σ => [(3, σ.2), (2, boxP b1 0), (4, boxP b34 0)]) (fun σ => [ro σ.2 1 (σ.1.1.map eStr), box b1 [.int .i64 0, .slice none 0 0, .bool false, .int .i64 0], box b34 [.int .i64 r32, .slice none 0 0, .bool σ.1.2]]) (fun σ => o38 = .go σ.1) (fun L41 hL40 => ?_) ?_
   ·
    refine run_seq ?_
    refine run_weak [(2, boxP b1 0), (3, (subS v5 1 ((0 : Int).toNat) (((IntKind.i64.wrap ((r3.length : Int) - 1))).toNat))), (4, boxP b34 0)] [0, 2, 3] [box b1 [.int .i64 0, .slice none 0 0, .bool false, .int .i64 0], ro (subS v5 1 ((0 : Int).toNat) (((IntKind.i64.wrap ((r3.length : Int) - 1))).toNat)) 1 ((r3.take (((IntKind.i64.wrap ((r3.length : Int) - 1))).toNat)).map eStr), box b34 [.int .i64 r32, .slice none 0 0, .bool false]] (qv3 rfl rfl rfl) (by decide) rfl ?_
    refine run_region' ?_
    refine oy rfl rfl (y_move rfl) ?_
    refine oy rfl rfl ((y_len 1 rfl Tryz.runUnderlying81 rfl rfl reads_ro).to (v_len eStr _)) ?_
    refine oy rfl rfl (y_gtr rfl rfl) ?_
    refine oy rfl rfl (y_move rfl) ?_
    obtain ⟨o43, h, ho44⟩ := bindJ_some h
    refine ops_cut 8 (Bool) (fun σ => [(2, boxP b1 0), (3, (subS v5 1 ((0 : Int).toNat) (((IntKind.i64.wrap ((r3.length : Int) - 1))).toNat))), (4, boxP b34 0), (63, .bool σ)]) (fun σ => [box b1 [.int .i64 0, .slice none 0 0, .bool false, .int .i64 0], ro (subS v5 1 ((0 : Int).toNat) (((IntKind.i64.wrap ((r3.length : Int) - 1))).toNat)) 1 ((r3.take (((IntKind.i64.wrap ((r3.length : Int) - 1))).toNat)).map eStr), box b34 [.int .i64 r32, .slice none 0 0, .bool false]]) (fun σ => o43 = .go σ) (fun L45 hL46 => ?_) ?_
    ·refine ops_split 55 (decide (1 < ((r3.take (((IntKind.i64.wrap ((r3.length : Int) - 1))).toNat)).length : Int))) rfl (fun hg47 => ?_) (fun hg47 => ?_)
     ·replace h := cond_t h hg47
      refine ops_y (wg 3 true 55 rfl rfl rfl rfl) rfl (y_move rfl) ?_
      refine ops_y (wg 3 true 55 rfl rfl rfl rfl) rfl (y_move rfl) ?_
      refine ops_y (wg 3 true 55 rfl rfl rfl rfl) rfl ((y_len 1 rfl Tryz.runUnderlying81 rfl rfl reads_ro).to (v_len eStr _)) ?_
      refine ops_y (wg 3 true 55 rfl rfl rfl rfl) rfl (y_sub rfl rfl) ?_
      obtain ⟨x48, hzx48, hlx48, hxx48, h⟩ := idx_some h
      refine ops_y (wg 3 true 55 rfl rfl rfl rfl) rfl (y_indexAddrI (kd := .i64) (i := (IntKind.i64.wrap (((r3.take (((IntKind.i64.wrap ((r3.length : Int) - 1))).toNat)).length : Int) - 1))) 1 Tryz.runUnderlying81 Tryz.sizeOf9 rfl rfl rfl reads_ro hzx48 (map_lt hlx48)) ?_
      refine ops_y (wg 3 true 55 rfl rfl rfl rfl) rfl (y_load_elem (i := ((IntKind.i64.wrap (((r3.take (((IntKind.i64.wrap ((r3.length : Int) - 1))).toNat)).length : Int) - 1))).toNat) 1 Tryz.isAgg9 rfl rfl reads_ro (map_get hxx48)) ?_
      refine ops_y (wg 3 true 55 rfl rfl rfl rfl) rfl (y_seql rfl rfl) ?_
      refine oy rfl rfl (y_pick (b := true) rfl rfl) ?_
      refine ops_nil ?_
      obtain rfl := some_eq h
      exact goes_cut hL46 (decide (x48 = [100, 111, 110, 101])) [0, 1, 2] (qv4 rfl rfl rfl rfl) (by decide) rfl rfl
     ·replace h := cond_f h hg47
      refine ops_no 3 true 55 rfl rfl rfl rfl rfl ?_
      refine ops_no 3 true 55 rfl rfl rfl rfl rfl ?_
      refine ops_no 3 true 55 rfl rfl rfl rfl rfl ?_
      refine ops_no 3 true 55 rfl rfl rfl rfl rfl ?_
      refine ops_no 3 true 55 rfl rfl rfl rfl rfl ?_
      refine ops_no 3 true 55 rfl rfl rfl rfl rfl ?_
      refine ops_no 3 true 55 rfl rfl rfl rfl rfl ?_
      refine oy rfl rfl (y_pick (b := false) rfl rfl) ?_
      refine ops_nil ?_
      obtain rfl := some_eq h
      exact goes_cut hL46 false [0, 1, 2] (qv4 rfl rfl rfl rfl) (by decide) rfl rfl
    rintro b42 hj
    obtain rfl : o43 = _ := hj
    replace h := after_go ho44
    clear ho44
    refine ops_nil ?_
    refine goes_code ?_
    refine run_cond b42 rfl (fun hc49 => ?_) (fun hc49 => ?_)
    ·replace h := cond_t h hc49
     refine run_seq ?_
     refine run_region' ?_
     refine oy rfl rfl (y_fieldAddr_box (sz := 0) Tryz.runUnderlying24 rfl Tryz.sizeOf4 rfl) ?_
     refine ot rfl rfl (t_store 2 Tryz.sizeOf4 rfl rfl rfl rfl (by simp [Value.cells, boxP]) (by simp [Value.cells, Value.oneCell', boxP])) ?_
     rintro _ _ ⟨rfl, rfl⟩
     refine ops_turn (retell 2 (g := box b34 [.int .i64 r32, .slice none 0 0, .bool true]) rfl rfl) ?_
     refine ops_nil ?_
     refine goes_code ?_
     refine run_region' ?_
     refine oy rfl rfl (y_move rfl) ?_
     refine oy rfl rfl (y_move rfl) ?_
     refine oy rfl rfl ((y_len 1 rfl Tryz.runUnderlying81 rfl rfl reads_ro).to (v_len eStr _)) ?_
     refine oy rfl rfl (y_sub rfl rfl) ?_
     obtain ⟨hb50, h⟩ := need_some h
     refine oy rfl rfl (y_slice (l := 0) (r := (IntKind.i64.wrap (((r3.take (((IntKind.i64.wrap ((r3.length : Int) - 1))).toNat)).length : Int) - 1))) 1 Tryz.runUnderlying81 Tryz.sizeOf9 rfl rfl reads_ro bi0 (bi1 (kd := .i64) rfl) hb50.1 hb50.2.1 (map_len_le hb50.2.2)) ?_
     refine ops_turn (turn_sub (l := (0 : Int).toNat) (r := ((IntKind.i64.wrap (((r3.take (((IntKind.i64.wrap ((r3.length : Int) - 1))).toNat)).length : Int) - 1))).toNat) 1 rfl (by omega) (map_toNat_le hb50.2.2)) ?_
     refine ops_turn (retell 3 (g := ro (subS (subS v5 1 ((0 : Int).toNat) (((IntKind.i64.wrap ((r3.length : Int) - 1))).toNat)) 1 ((0 : Int).toNat) (((IntKind.i64.wrap (((r3.take (((IntKind.i64.wrap ((r3.length : Int) - 1))).toNat)).length : Int) - 1))).toNat)) 1 (((r3.take (((IntKind.i64.wrap ((r3.length : Int) - 1))).toNat)).take (((IntKind.i64.wrap (((r3.take (((IntKind.i64.wrap ((r3.length : Int) - 1))).toNat)).length : Int) - 1))).toNat)).map eStr)) rfl (congrArg (ro _ _) (sub_hi _ _ _))) ?_
     refine oy rfl rfl (y_assign rfl) ?_
     refine ops_nil ?_
     obtain rfl := some_eq h
     exact goes_cut hL40 ((((r3.take (((IntKind.i64.wrap ((r3.length : Int) - 1))).toNat)).take (((IntKind.i64.wrap (((r3.take (((IntKind.i64.wrap ((r3.length : Int) - 1))).toNat)).length : Int) - 1))).toNat)), true), (subS (subS v5 1 ((0 : Int).toNat) (((IntKind.i64.wrap ((r3.length : Int) - 1))).toNat)) 1 ((0 : Int).toNat) (((IntKind.i64.wrap (((r3.take (((IntKind.i64.wrap ((r3.length : Int) - 1))).toNat)).length : Int) - 1))).toNat))) [3, 0, 2] (qv3 rfl rfl rfl) (by decide) rfl rfl
    ·replace h := cond_f h hc49
     refine run_skip ?_
     obtain rfl := some_eq h
     exact goes_cut hL40 (((r3.take (((IntKind.i64.wrap ((r3.length : Int) - 1))).toNat)), false), (subS v5 1 ((0 : Int).toNat) (((IntKind.i64.wrap ((r3.length : Int) - 1))).toNat))) [1, 0, 2] (qv3 rfl rfl rfl) (by decide) rfl rfl
   rintro ⟨⟨l_35, x_36⟩, v37⟩ hj
   obtain rfl : o38 = _ := hj
   replace h := after_go ho39
   clear ho39
   change Run _ _ _ (VF.of [(3, v37), (2, boxP b1 0), (4, boxP b34 0)]) [ro v37 1 (l_35.map eStr), box b1 [.int .i64 0, .slice none 0 0, .bool false, .int .i64 0], box b34 [.int .i64 r32, .slice none 0 0, .bool x_36]]
   obtain ⟨o53, h, ho54⟩ := bindJ_some h
   refine run_cut (((List S_api_Segment)) × (Value)) (fun σ => [(2, boxP b1 0), (4, boxP b34 0)]) (fun σ => [box b1 [.int .i64 0, .slice none 0 0, .bool false, .int .i64 0], box b34 [.int .i64 r32, σ.2, .bool x_36], row σ.2 20 (σ.1.map S_api_Segment.enc)]) (fun σ => o53 = .go σ.1) (fun L56 hL55 => ?_) ?_
   ·
    refine run_seq ?_
    refine run_region' ?_
    refine oy rfl rfl (y_assign rfl) ?_
    refine ops_nil ?_
    refine goes_code ?_
    refine run_block ?_
    refine run_turn (nilrow 20) ?_
    refine run_turn (retell 3 (g := row (.slice none 0 0) 20 (([] : List S_api_Segment).map S_api_Segment.enc)) rfl rfl) ?_
    refine run_iter (step := ref43_Parse_L1 n r32 l_35) (n := n) (s0 := (1, ([] : List S_api_Segment))) h (G := Value) (.slice none 0 0) (fun σ γ => [(5, .int .i64 σ.1), (2, boxP b1 0), (3, v37), (4, boxP b34 0)]) (fun σ γ => [box b1 [.int .i64 0, .slice none 0 0, .bool false, .int .i64 0], ro v37 1 (l_35.map eStr), box b34 [.int .i64 r32, γ, .bool x_36], row γ 20 (σ.2.map S_api_Segment.enc)]) [1, 0, 2, 3] (qv4 rfl rfl rfl rfl) (by decide) rfl ?_
    rintro ⟨i_57, x_58⟩ v59 o60 h L63 hgo61 hstop62
    change Run _ _ _ (VF.of [(5, .int .i64 i_57), (2, boxP b1 0), (3, v37), (4, boxP b34 0)]) [box b1 [.int .i64 0, .slice none 0 0, .bool false, .int .i64 0], ro v37 1 (l_35.map eStr), box b34 [.int .i64 r32, v59, .bool x_36], row v59 20 (x_58.map S_api_Segment.enc)]
    refine run_seq ?_
    refine run_seq ?_
    refine run_region' ?_
    refine oy rfl rfl (y_move rfl) ?_
    refine oy rfl rfl (y_move rfl) ?_
    refine oy rfl rfl ((y_len 1 rfl Tryz.runUnderlying81 rfl rfl reads_ro).to (v_len eStr _)) ?_
    refine oy rfl rfl (y_lss rfl rfl) ?_
    refine ops_nil ?_
    refine goes_code ?_
    refine run_cond (decide (i_57 < (l_35.length : Int))) rfl (fun hc64 => ?_) (fun hc64 => ?_)
    ·replace h := cond_t h hc64
     refine run_skip ?_
     refine goes_code ?_
     refine run_seq ?_
     refine run_block ?_
     refine run_seq ?_
     refine run_region' ?_
     refine oy rfl rfl (y_move rfl) ?_
     refine oy rfl rfl (y_move rfl) ?_
     obtain ⟨x65, hzx65, hlx65, hxx65, h⟩ := idx_some h
     refine oy rfl rfl (y_indexAddrI (kd := .i64) (i := i_57) 1 Tryz.runUnderlying81 Tryz.sizeOf9 rfl rfl rfl reads_ro hzx65 (map_lt hlx65)) ?_
     refine oy rfl rfl (y_load_elem (i := i_57.toNat) 1 Tryz.isAgg9 rfl rfl reads_ro (map_get hxx65)) ?_
     obtain ⟨r66, hr67, h⟩ := obind_some h
     refine ot rfl rfl (t_callx (vs := [.string (bs x65)]) (cs := []) [] rfl Tryz.call56 rfl (ref43_line_ok n x65  hr67) showsX_nil rfl (.inl rfl)) ?_
     rintro _ _ ⟨_, ⟨rfl, rfl⟩, rfl⟩
     refine ot rfl rfl (t_alloc Tryz.zeroValue57) ?_
     rintro _ _ ⟨b68, rfl, rfl⟩
     refine ot rfl rfl (t_store 4 Tryz.sizeOf57 rfl rfl rfl rfl (by simp [Value.cells, boxP]) (by simp [Value.cells, Value.oneCell', boxP])) ?_
     rintro _ _ ⟨rfl, rfl⟩
     refine ops_turn (retell 4 (g := box b68 [.int .i64 r66.Num, .int .i64 r66.Begin, .int .i64 r66.Len, .int .u8 r66.Body.a0_, .int .u8 r66.Body.a1_, .int .u8 r66.Body.a2_, .int .u8 r66.Body.a3_, .int .u8 r66.Body.a4_, .int .u8 r66.Body.a5_, .int .u8 r66.Body.a6_, .int .u8 r66.Body.a7_, .int .u8 r66.Body.a8_, .int .u8 r66.Body.a9_, .int .u8 r66.Body.a10_, .int .u8 r66.Body.a11_, .int .u8 r66.Body.a12_, .int .u8 r66.Body.a13_, .int .u8 r66.Body.a14_, .int .u8 r66.Body.a15_, .int .i64 r66.Size]) rfl (by kernel_rfl)) ?_
     refine ops_nil ?_
     refine goes_code ?_
     refine run_seq ?_
     refine run_weak [(5, .int .i64 i_57), (2, boxP b1 0), (3, v37), (4, boxP b34 0), (6, boxP b68 0)] [0, 1, 2, 3, 4] [box b1 [.int .i64 0, .slice none 0 0, .bool false, .int .i64 0], ro v37 1 (l_35.map eStr), box b34 [.int .i64 r32, v59, .bool x_36], row v59 20 (x_58.map S_api_Segment.enc), box b68 [.int .i64 r66.Num, .int .i64 r66.Begin, .int .i64 r66.Len, .int .u8 r66.Body.a0_, .int .u8 r66.Body.a1_, .int .u8 r66.Body.a2_, .int .u8 r66.Body.a3_, .int .u8 r66.Body.a4_, .int .u8 r66.Body.a5_, .int .u8 r66.Body.a6_, .int .u8 r66.Body.a7_, .int .u8 r66.Body.a8_, .int .u8 r66.Body.a9_, .int .u8 r66.Body.a10_, .int .u8 r66.Body.a11_, .int .u8 r66.Body.a12_, .int .u8 r66.Body.a13_, .int .u8 r66.Body.a14_, .int .u8 r66.Body.a15_, .int .i64 r66.Size]] (qv5 rfl rfl rfl rfl rfl) (by decide) rfl ?_
     refine run_region' ?_
     refine oy rfl rfl (y_fieldAddr_box (sz := 0) Tryz.runUnderlying24 rfl Tryz.sizeOf3 rfl) ?_
     refine oy rfl rfl (y_load_box 2 Tryz.isAgg3 rfl rfl rfl) ?_
     refine oy rfl rfl (y_move rfl) ?_
     refine oy rfl rfl (y_add rfl rfl) ?_
     refine oy rfl rfl (y_sub rfl rfl) ?_
     refine oy rfl rfl (y_fieldAddr_box (sz := 0) Tryz.runUnderlying57 rfl Tryz.sizeOf3 rfl) ?_
     refine ot rfl rfl (t_store 4 Tryz.sizeOf3 rfl rfl rfl rfl (by simp [Value.cells, boxP]) (by simp [Value.cells, Value.oneCell', boxP])) ?_
     rintro _ _ ⟨rfl, rfl⟩
     refine ops_turn (retell 4 (g := box b68 [.int .i64 (IntKind.i64.wrap ((IntKind.i64.wrap (r32 + i_57)) - 1)), .int .i64 r66.Begin, .int .i64 r66.Len, .int .u8 r66.Body.a0_, .int .u8 r66.Body.a1_, .int .u8 r66.Body.a2_, .int .u8 r66.Body.a3_, .int .u8 r66.Body.a4_, .int .u8 r66.Body.a5_, .int .u8 r66.Body.a6_, .int .u8 r66.Body.a7_, .int .u8 r66.Body.a8_, .int .u8 r66.Body.a9_, .int .u8 r66.Body.a10_, .int .u8 r66.Body.a11_, .int .u8 r66.Body.a12_, .int .u8 r66.Body.a13_, .int .u8 r66.Body.a14_, .int .u8 r66.Body.a15_, .int .i64 r66.Size]) rfl (by kernel_rfl)) ?_
     refine ops_nil ?_
     refine goes_code ?_
     refine run_region' ?_
     refine oy rfl rfl (y_fieldAddr_box (sz := 0) Tryz.runUnderlying24 rfl Tryz.sizeOf22 rfl) ?_
     refine oy rfl rfl (y_load_box 2 Tryz.isAgg22 rfl rfl rfl) ?_
     refine oy rfl rfl (y_load_boxagg (c := [.int .i64 (IntKind.i64.wrap ((IntKind.i64.wrap (r32 + i_57)) - 1)), .int .i64 r66.Begin, .int .i64 r66.Len, .int .u8 r66.Body.a0_, .int .u8 r66.Body.a1_, .int .u8 r66.Body.a2_, .int .u8 r66.Body.a3_, .int .u8 r66.Body.a4_, .int .u8 r66.Body.a5_, .int .u8 r66.Body.a6_, .int .u8 r66.Body.a7_, .int .u8 r66.Body.a8_, .int .u8 r66.Body.a9_, .int .u8 r66.Body.a10_, .int .u8 r66.Body.a11_, .int .u8 r66.Body.a12_, .int .u8 r66.Body.a13_, .int .u8 r66.Body.a14_, .int .u8 r66.Body.a15_, .int .i64 r66.Size]) 4 Tryz.isAgg57 Tryz.sizeOf57 rfl rfl rfl) ?_
     refine ot rfl rfl (t_lit [.agg #[.int .i64 (IntKind.i64.wrap ((IntKind.i64.wrap (r32 + i_57)) - 1)), .int .i64 r66.Begin, .int .i64 r66.Len, .int .u8 r66.Body.a0_, .int .u8 r66.Body.a1_, .int .u8 r66.Body.a2_, .int .u8 r66.Body.a3_, .int .u8 r66.Body.a4_, .int .u8 r66.Body.a5_, .int .u8 r66.Body.a6_, .int .u8 r66.Body.a7_, .int .u8 r66.Body.a8_, .int .u8 r66.Body.a9_, .int .u8 r66.Body.a10_, .int .u8 r66.Body.a11_, .int .u8 r66.Body.a12_, .int .u8 r66.Body.a13_, .int .u8 r66.Body.a14_, .int .u8 r66.Body.a15_, .int .i64 r66.Size]] Tryz.runUnderlying22 Tryz.sizeOf57 Tryz.zeroValue57 rfl (by decide) (by decide) rfl (by simp [Value.cells, boxP])) ?_
     rintro v69 _ ⟨rfl, _⟩
     refine ops_turn (retell 5 (g := row v69 20 (([(S_api_Segment.mk (IntKind.i64.wrap ((IntKind.i64.wrap (r32 + i_57)) - 1)) r66.Begin r66.Len r66.Body r66.Size)] : List S_api_Segment).map S_api_Segment.enc)) rfl rfl) ?_
     obtain ⟨hr71, h⟩ := need_some h
     refine ot rfl rfl (t_append (es := 20) 3 rfl Tryz.runUnderlying22 rfl Tryz.runUnderlying22 (.inr ⟨_, rfl⟩) Tryz.typeInfo57 rfl (by decide) Tryz.zeroValue57 rfl rfl rfl rfl (src_reads 5 rfl reads_row (map_ok S_api_Segment.enc_ok _)) (map_room hr71 (by decide)) (map_fit hr71)) ?_
     rintro v70 _ rfl
     refine ops_turn (retell 3 (g := row v70 20 ((x_58 ++ ([(S_api_Segment.mk (IntKind.i64.wrap ((IntKind.i64.wrap (r32 + i_57)) - 1)) r66.Begin r66.Len r66.Body r66.Size)] : List S_api_Segment)).map S_api_Segment.enc)) rfl (congrArg (row _ _) List.map_append.symm)) ?_
     refine oy rfl rfl (y_fieldAddr_box (sz := 0) Tryz.runUnderlying24 rfl Tryz.sizeOf22 rfl) ?_
     refine ops_slc 3 rfl reads_row (fun hs72 hs72o => ?_)
     refine ot rfl rfl (t_store 2 Tryz.sizeOf22 rfl rfl rfl (by rw [hs72]; rfl) (by simp [Value.cells, boxP]) (by rw [hs72]; exact allL_cons hs72o (allL_nil))) ?_
     rintro _ _ ⟨rfl, rfl⟩
     refine ops_turn (retell 2 (g := box b34 [.int .i64 r32, v70, .bool x_36]) rfl (by rw [hs72]; rfl)) ?_
     refine ops_nil ?_
     refine goes_blk ?_
     refine goes_code ?_
     refine run_weak [(5, .int .i64 i_57), (2, boxP b1 0), (3, v37), (4, boxP b34 0)] [0, 1, 2, 3] [box b1 [.int .i64 0, .slice none 0 0, .bool false, .int .i64 0], ro v37 1 (l_35.map eStr), box b34 [.int .i64 r32, v70, .bool x_36], row v70 20 ((x_58 ++ ([(S_api_Segment.mk (IntKind.i64.wrap ((IntKind.i64.wrap (r32 + i_57)) - 1)) r66.Begin r66.Len r66.Body r66.Size)] : List S_api_Segment)).map S_api_Segment.enc)] (qv4 rfl rfl rfl rfl) (by decide) rfl ?_
     refine run_region' ?_
     refine oy rfl rfl (y_move rfl) ?_
     refine oy rfl rfl (y_add rfl rfl) ?_
     refine oy rfl rfl (y_assign rfl) ?_
     refine ops_nil ?_
     obtain rfl := some_eq h
     exact goes_iter hgo61 ((IntKind.i64.wrap (i_57 + 1)), (x_58 ++ ([(S_api_Segment.mk (IntKind.i64.wrap ((IntKind.i64.wrap (r32 + i_57)) - 1)) r66.Begin r66.Len r66.Body r66.Size)] : List S_api_Segment))) v70 [0, 1, 2, 3] rfl (qv4 rfl rfl rfl rfl) (by decide) rfl
    ·replace h := cond_f h hc64
     refine run_exit _ rfl ?_
     obtain rfl := some_eq h
     obtain rfl := hstop62 _ rfl
     exact goes_cut hL55 (x_58, v59) [0, 2, 3] (qv2 rfl rfl) (by decide) rfl rfl
   rintro ⟨x_51, v52⟩ hj
   obtain rfl : o53 = _ := hj
   replace h := after_go ho54
   clear ho54
   change Run _ _ _ (VF.of [(2, boxP b1 0), (4, boxP b34 0)]) [box b1 [.int .i64 0, .slice none 0 0, .bool false, .int .i64 0], box b34 [.int .i64 r32, v52, .bool x_36], row v52 20 (x_51.map S_api_Segment.enc)]
   refine run_seq ?_
   refine run_region' ?_
   refine oy rfl rfl (y_load_boxagg (c := [.int .i64 r32, v52, .bool x_36]) 1 Tryz.isAgg24 Tryz.sizeOf24 rfl rfl rfl) ?_
   obtain ⟨r73, hr74, h⟩ := obind_some h
   refine ot rfl rfl (t_callx (vs := [.agg #[.int .i64 r32, v52, .bool x_36]]) (cs := []) [(2, 1)] rfl Tryz.call7 rfl (ref43_Valid_ok n (S_api_Playlist.mk r32 x_51 x_36) v52 hr74) (showsX_look 2 rfl views_row showsX_nil) rfl (.inr (by rintro _ _ ⟨rfl, rfl⟩ g hg; first | (cases hg; done) | (simp only [List.mem_cons, List.not_mem_nil, or_false] at hg; first | (subst hg; first | exact strict_row | exact strict_box) | (rcases hg with rfl | rfl <;> first | exact strict_row | exact strict_box) | (rcases hg with rfl | rfl | rfl <;> first | exact strict_row | exact strict_box))))) ?_
   rintro _ _ ⟨_, ⟨rfl, rfl⟩, rfl⟩
   refine oy rfl rfl (y_assign rfl) ?_
   refine ops_nil ?_
   refine goes_code ?_
   refine run_seq ?_
   refine run_seq ?_
   refine run_region' ?_
   refine oy rfl rfl (y_move rfl) ?_
   refine oy rfl rfl (y_not rfl) ?_
   refine ops_nil ?_
   refine goes_code ?_
   refine run_cond (!r73) rfl (fun hc75 => ?_) (fun hc75 => ?_)
   ·replace h := cond_t h hc75
    refine run_seq ?_
    refine run_region' ?_
    refine oy rfl rfl (y_build_struct (cells := #[.int .i64 0, .slice none 0 0, .bool false, .int .i64 3]) [(1, .int .i64 3)] [(1, [.int .i64 3])] Tryz.zeroValue31 Tryz.runUnderlying31 (fs_cons Tryz.sizeOf24 (fs_cons Tryz.sizeOf27 fs_nil)) rfl rfl rfl) ?_
    refine ot rfl rfl (t_store 0 Tryz.sizeOf31 rfl rfl rfl rfl (by simp [Value.cells, boxP]) (by simp [Value.cells, Value.oneCell', boxP])) ?_
    rintro _ _ ⟨rfl, rfl⟩
    refine ops_turn (retell 0 (g := box b1 [.int .i64 0, .slice none 0 0, .bool false, .int .i64 3]) rfl rfl) ?_
    refine ops_nil ?_
    refine goes_code ?_
    refine run_ret ?_
    refine fin_turn (nilrow 20) ?_
    refine fin_turn (retell 3 (g := row (.slice none 0 0) 20 (([] : List S_api_Segment).map S_api_Segment.enc)) rfl rfl) ?_
    obtain rfl := some_eq h
    refine fin_res [.cell 2 31] [.agg #[.int .i64 0, (.slice none 0 0), .bool false, .int .i64 3]] [3] [row (.slice none 0 0) 20 (([] : List S_api_Segment).map S_api_Segment.enc)] Tryz.results15 rfl (rescons (res_box 0 Tryz.isAgg31 Tryz.sizeOf31 rfl rfl rfl) resnil) (by decide) rfl ?_
    exact ⟨_, rfl, rfl⟩
   ·replace h := cond_f h hc75
    refine run_skip ?_
    refine goes_code ?_
    refine run_seq ?_
    refine run_region' ?_
    refine oy rfl rfl (y_load_boxagg (c := [.int .i64 r32, v52, .bool x_36]) 1 Tryz.isAgg24 Tryz.sizeOf24 rfl rfl rfl) ?_
    refine ops_slc 2 rfl reads_row (fun hs76 hs76o => ?_)
    refine oy rfl rfl (y_build_struct (cells := #[.int .i64 r32, v52, .bool x_36, .int .i64 0]) [(0, .agg #[.int .i64 r32, v52, .bool x_36])] [(0, [.int .i64 r32, v52, .bool x_36])] Tryz.zeroValue31 Tryz.runUnderlying31 (fs_cons Tryz.sizeOf24 (fs_cons Tryz.sizeOf27 fs_nil)) rfl (by first | (simp only [List.map_cons, List.map_nil, hs76]; done) | (simp only [List.map_cons, List.map_nil, hs76]; rfl)) rfl) ?_
    refine ops_slc 2 rfl reads_row (fun hs77 hs77o => ?_)
    refine ot rfl rfl (t_store 0 Tryz.sizeOf31 rfl rfl rfl rfl (by simp [Value.cells, boxP]) (allL_cons rfl (allL_cons hs77o (allL_cons rfl (allL_cons rfl (allL_nil)))))) ?_
    rintro _ _ ⟨rfl, rfl⟩
    refine ops_turn (retell 0 (g := box b1 [.int .i64 r32, v52, .bool x_36, .int .i64 0]) rfl rfl) ?_
    refine ops_nil ?_
    refine goes_code ?_
    refine run_ret ?_
    obtain rfl := some_eq h
    refine fin_res [.cell 2 31] [.agg #[.int .i64 r32, v52, .bool x_36, .int .i64 0]] [2] [row v52 20 (x_51.map S_api_Segment.enc)] Tryz.results15 rfl (rescons (res_box 0 Tryz.isAgg31 Tryz.sizeOf31 rfl rfl rfl) resnil) (by decide) rfl ?_
    exact ⟨_, rfl, rfl⟩

end Go.Proofs.YtbgpojdmdnkeaaaGreatDoor
