/-
  Functions of the program, lifted: part 3.
-/
import Derived.Test.YtbgpojdmdnkeaaaGreatDoorFb
namespace Go.Proofs.YtbgpojdmdnkeaaaGreatDoor
open Go.Abs
set_option linter.unusedVariables false
set_option linter.unusedSimpArgs false
set_option maxRecDepth 20000
set_option maxHeartbeats 4000000

def playlist_Spread_1_58_L1 (from_1_0 : (List S_api_Segment)) : (Int × (List Int)) → Option (Lp (Int × (List Int)) (Lp ((List Int)) ((List (List Int))))) :=
 fun (s_8, x_9) =>
  cond (decide (s_8 < (from_1_0.length : Int)))
   (bindJ (S := (List Int))
    (obind (playlist_Spread_2_59 s_8 from_1_0) fun r20 =>
    idx x_9 s_8 fun x22 =>
    cond (decide (0 < s_8))
     (idx (x_9.set s_8.toNat r20) (IntKind.i64.wrap (s_8 - 1)) fun x25 =>
     some (.go ((x_9.set s_8.toNat r20).set s_8.toNat (max r20 x25))))
     (some (.go (x_9.set s_8.toNat r20))))
   (fun x_15 =>
    some (.go ((IntKind.i64.wrap (s_8 + 1)), x_15))))
   (some (.stop (.go x_9)))
def playlist_Spread_1_58 (n : Nat) (k_0 : Int) (from_1_0 : (List S_api_Segment)) (a_3 : (List (List Int))) : Option ((List (List Int))) :=
 need (0 ≤ (from_1_0.length : Int) ∧ (from_1_0.length : Int) ≤ 4294967296) (
 bindJ (S := (List Int))
  (iter (playlist_Spread_1_58_L1 from_1_0) n (0, (List.replicate ((from_1_0.length : Int)).toNat (0 : Int))))
 (fun x_3 =>
  idx a_3 k_0 fun x37 =>
  some (a_3.set k_0.toNat x_3)))
theorem playlist_Spread_1_58_ok (n : Nat) (k_0 : Int) (from_1_0 : (List S_api_Segment)) (a_3 : (List (List Int))) (from_1_0b : Nat) (from_1_0v : Value) (a_3b : Nat) (a_3v : Value) {r : (List (List Int))} (h : playlist_Spread_1_58 n k_0 from_1_0 a_3 = some r) :
  Meets Tryz.prog 58 [.int .i64 k_0, .func (.func 59) #[] #[boxP from_1_0b 0], boxP from_1_0b 0, boxP a_3b 0] [ro from_1_0v 20 (from_1_0.map S_api_Segment.enc), box from_1_0b [from_1_0v], nrow a_3v NC_L_int_43 a_3, box a_3b [a_3v]] (fun v G => ∃ v0, v = .tuple #[] ∧ G = [box from_1_0b [from_1_0v], nrow v0 NC_L_int_43 r, box a_3b [v0]]) := by
 refine fn_of_run Tryz.func58 rfl Tryz.ntmps58 rfl (fun w0 o0 => ?_)
 refine run_seq ?_
 refine run_region' ?_
 refine oy rfl rfl (y_load_box 1 Tryz.isAgg22 rfl rfl rfl) ?_
 refine oy rfl rfl ((y_len 0 rfl Tryz.runUnderlying22 rfl rfl reads_ro).to (v_len S_api_Segment.enc _)) ?_
 obtain ⟨hm2, h⟩ := need_some h
 refine ot rfl rfl (t_makeSlice (es := 1) Tryz.runUnderlying43 Tryz.typeInfo3 rfl Tryz.zeroValue3 rfl (by decide) rfl rfl hm2.1 hm2.2 (by decide)) ?_
 rintro v1 _ rfl
 refine ops_turn (retell 4 (g := row v1 1 ((List.replicate ((from_1_0.length : Int)).toNat (0 : Int)).map (eInt .i64))) rfl (congrArg (row _ _) (map_rep rfl))) ?_
 refine oy rfl rfl (y_assign rfl) ?_
 refine ops_nil ?_
 refine goes_code ?_
 obtain ⟨o4, h, ho5⟩ := bindJ_some h
 refine run_cut (((List Int)) × (Unit)) (fun σ => [(0, .int .i64 k_0), (3, boxP a_3b 0), (6, v1)]) (fun σ => [box a_3b [a_3v], nrow a_3v NC_L_int_43 a_3, row v1 1 (σ.1.map (eInt .i64)), box from_1_0b [from_1_0v], ro from_1_0v 20 (from_1_0.map S_api_Segment.enc)]) (fun σ => o4 = .go σ.1) (fun L7 hL6 => ?_) ?_
 ·
  refine run_seq ?_
  refine run_region' ?_
  refine oy rfl rfl (y_load_box 1 Tryz.isAgg22 rfl rfl rfl) ?_
  refine oy rfl rfl ((y_len 0 rfl Tryz.runUnderlying22 rfl rfl reads_ro).to (v_len S_api_Segment.enc _)) ?_
  refine oy rfl rfl (y_move rfl) ?_
  refine ops_nil ?_
  refine goes_code ?_
  refine run_block ?_
  refine run_iter (step := playlist_Spread_1_58_L1 from_1_0) (n := n) (s0 := (0, (List.replicate ((from_1_0.length : Int)).toNat (0 : Int)))) h (G := Unit) () (fun σ γ => [(13, .int .i64 σ.1), (0, .int .i64 k_0), (1, .func (.func 59) #[] #[boxP from_1_0b 0]), (3, boxP a_3b 0), (6, v1), (12, .int .i64 (from_1_0.length : Int))]) (fun σ γ => [box from_1_0b [from_1_0v], ro from_1_0v 20 (from_1_0.map S_api_Segment.enc), box a_3b [a_3v], nrow a_3v NC_L_int_43 a_3, row v1 1 (σ.2.map (eInt .i64))]) [1, 0, 3, 2, 4] (qv6 rfl rfl rfl rfl rfl rfl) (by decide) rfl ?_
  rintro ⟨s_8, x_9⟩ _ o10 h L13 hgo11 hstop12
  change Run _ _ _ (VF.of [(13, .int .i64 s_8), (0, .int .i64 k_0), (1, .func (.func 59) #[] #[boxP from_1_0b 0]), (3, boxP a_3b 0), (6, v1), (12, .int .i64 (from_1_0.length : Int))]) [box from_1_0b [from_1_0v], ro from_1_0v 20 (from_1_0.map S_api_Segment.enc), box a_3b [a_3v], nrow a_3v NC_L_int_43 a_3, row v1 1 (x_9.map (eInt .i64))]
  refine run_seq ?_
  refine run_region' ?_
  refine oy rfl rfl (y_lss rfl rfl) ?_
  refine ops_nil ?_
  refine goes_code ?_
  refine run_seq ?_
  refine run_cond (decide (s_8 < (from_1_0.length : Int))) rfl (fun hc14 => ?_) (fun hc14 => ?_)
  ·replace h := cond_t h hc14
   refine run_skip ?_
   refine goes_code ?_
   obtain ⟨o16, h, ho17⟩ := bindJ_some h
   refine run_cut (((List Int)) × (Unit)) (fun σ => [(0, .int .i64 k_0), (1, .func (.func 59) #[] #[boxP from_1_0b 0]), (3, boxP a_3b 0), (6, v1), (12, .int .i64 (from_1_0.length : Int)), (13, .int .i64 s_8)]) (fun σ => [box from_1_0b [from_1_0v], ro from_1_0v 20 (from_1_0.map S_api_Segment.enc), box a_3b [a_3v], nrow a_3v NC_L_int_43 a_3, row v1 1 (σ.1.map (eInt .i64))]) (fun σ => o16 = .go σ.1) (fun L19 hL18 => ?_) ?_
   ·
    refine run_block ?_
    refine run_seq ?_
    refine run_region' ?_
    refine oy rfl rfl (y_move rfl) ?_
    refine oy rfl rfl (y_assign rfl) ?_
    refine ops_nil ?_
    refine goes_code ?_
    refine run_seq ?_
    refine run_region' ?_
    refine oy rfl rfl (y_move rfl) ?_
    refine oy rfl rfl (y_move rfl) ?_
    refine oy rfl rfl (y_move rfl) ?_
    refine oy rfl rfl (y_move rfl) ?_
    obtain ⟨r20, hr21, h⟩ := obind_some h
    refine ot rfl rfl (t_callx (vs := [.int .i64 s_8]) (cs := [boxP from_1_0b 0]) [(1, 0), (0, 2)] rfl Tryz.call59 rfl (playlist_Spread_2_59_ok s_8 from_1_0 from_1_0b from_1_0v hr21) (showsX_view 1 rfl views_ro (showsX_lend 0 rfl showsX_nil)) rfl (.inl rfl)) ?_
    rintro _ _ ⟨_, ⟨rfl, rfl⟩, rfl⟩
    obtain ⟨x22, hzx22, hlx22, hxx22, h⟩ := idx_some h
    refine oy rfl rfl (y_indexAddrI (kd := .i64) (i := s_8) 4 Tryz.runUnderlying43 Tryz.sizeOf3 rfl rfl rfl reads_row hzx22 (map_lt hlx22)) ?_
    refine ot rfl rfl (t_store_row (i := s_8.toNat) (j := 0) (c := (eInt .i64) x22) 4 Tryz.sizeOf3 rfl rfl rfl rfl (map_get hxx22) (by decide) (by simp [Value.cells, Value.oneCell', boxP])) ?_
    rintro _ _ ⟨rfl, rfl⟩
    obtain hxx23 : ((x_9.set s_8.toNat r20) : List Int)[s_8.toNat]? = some r20 := set_at hlx22
    obtain hlx23 : s_8.toNat < ((x_9.set s_8.toNat r20) : List Int).length := set_lt hlx22
    obtain hzx23 : (0 : Int) ≤ s_8 := id hzx22
    refine ops_turn (retell 4 (g := row v1 1 ((x_9.set s_8.toNat r20).map (eInt .i64))) rfl (congrArg (row _ _) (map_set_at rfl))) ?_
    refine ops_nil ?_
    refine goes_code ?_
    refine run_seq ?_
    refine run_weak [(13, .int .i64 s_8), (0, .int .i64 k_0), (1, .func (.func 59) #[] #[boxP from_1_0b 0]), (3, boxP a_3b 0), (6, v1), (12, .int .i64 (from_1_0.length : Int)), (7, .int .i64 s_8)] [1, 2, 3, 4, 5] [ro from_1_0v 20 (from_1_0.map S_api_Segment.enc), box a_3b [a_3v], nrow a_3v NC_L_int_43 a_3, row v1 1 ((x_9.set s_8.toNat r20).map (eInt .i64)), box from_1_0b [from_1_0v]] (qv7 rfl rfl rfl rfl rfl rfl rfl) (by decide) rfl ?_
    refine run_region' ?_
    refine oy rfl rfl (y_move rfl) ?_
    refine oy rfl rfl (y_gtr rfl rfl) ?_
    refine ops_nil ?_
    refine goes_code ?_
    refine run_cond (decide (0 < s_8)) rfl (fun hc24 => ?_) (fun hc24 => ?_)
    ·replace h := cond_t h hc24
     obtain ⟨x25, hzx25, hlx25, hxx25, h⟩ := idx_some h
     obtain hxx26 : (((x_9.set s_8.toNat r20).set s_8.toNat (max r20 x25)) : List Int)[s_8.toNat]? = some (max r20 x25) := set_at hlx23
     obtain hlx26 : s_8.toNat < (((x_9.set s_8.toNat r20).set s_8.toNat (max r20 x25)) : List Int).length := set_lt hlx23
     obtain hzx26 : (0 : Int) ≤ s_8 := id hzx23
     refine run_drawany [ro from_1_0v 20 (from_1_0.map S_api_Segment.enc), box a_3b [a_3v], nrow a_3v NC_L_int_43 a_3, HA.emp, box from_1_0b [from_1_0v]] (by kernel_rfl) ?_
     refine any_y 0 rfl (by kernel_rfl) (by kernel_rfl) (by kernel_rfl) (ss (ss (ss (se (ss (sn)))))) (wn rfl) rfl (y_move rfl) ?_
     refine any_y 1 rfl (by kernel_rfl) (by kernel_rfl) (by kernel_rfl) (ss (ss (ss (se (ss (sn)))))) (wn rfl) rfl (y_move rfl) ?_
     refine any_y 2 rfl (by kernel_rfl) (by kernel_rfl) (by kernel_rfl) (ss (ss (ss (se (ss (sn)))))) (wn rfl) rfl (y_move rfl) ?_
     refine any_y 3 rfl (by kernel_rfl) (by kernel_rfl) (by kernel_rfl) (ss (ss (ss (se (ss (sn)))))) (wn rfl) rfl (y_move rfl) ?_
     refine any_y 6 rfl (by kernel_rfl) (by kernel_rfl) (by kernel_rfl) (ss (ss (ss (se (ss (sn)))))) (wn rfl) rfl (y_move rfl) ?_
     refine any_y 7 rfl (by kernel_rfl) (by kernel_rfl) (by kernel_rfl) (ss (ss (ss (se (ss (sn)))))) (wn rfl) rfl (y_move rfl) ?_
     refine any_y 8 rfl (by kernel_rfl) (by kernel_rfl) (by kernel_rfl) (ss (ss (ss (se (ss (sn)))))) (wn rfl) rfl (y_sub rfl rfl) ?_
     refine any_cut2 #[true, true, true, true, true, true, true, true, true, true, true, true, true, true] 0 (Unit) (fun σ => [(13, .int .i64 s_8), (0, .int .i64 k_0), (1, .func (.func 59) #[] #[boxP from_1_0b 0]), (3, boxP a_3b 0), (6, v1), (12, .int .i64 (from_1_0.length : Int))]) (fun σ => [ro from_1_0v 20 (from_1_0.map S_api_Segment.enc), box a_3b [a_3v], nrow a_3v NC_L_int_43 a_3, row v1 1 (((x_9.set s_8.toNat r20).set s_8.toNat (max r20 x25)).map (eInt .i64)), box from_1_0b [from_1_0v]]) ?_ (fun hK27 => ?_)
     ·rintro _
      change AnyL _ _ _ _ _ (VF.of [(13, .int .i64 s_8), (0, .int .i64 k_0), (1, .func (.func 59) #[] #[boxP from_1_0b 0]), (3, boxP a_3b 0), (6, v1), (12, .int .i64 (from_1_0.length : Int))]) [ro from_1_0v 20 (from_1_0.map S_api_Segment.enc), box a_3b [a_3v], nrow a_3v NC_L_int_43 a_3, row v1 1 (((x_9.set s_8.toNat r20).set s_8.toNat (max r20 x25)).map (eInt .i64)), box from_1_0b [from_1_0v]] _
      refine any_nil (by kernel_rfl) ?_
      refine goes_blk ?_
      obtain rfl := some_eq h
      exact goes_cut hL18 (((x_9.set s_8.toNat r20).set s_8.toNat (max r20 x25)), ()) [4, 0, 1, 2, 3] (qv6 rfl rfl rfl rfl rfl rfl) (by decide) rfl rfl
     refine any_cut2 #[true, true, true, true, true, true, true, true, true, true, true, true, true, false] 1 (Unit) (fun σ => [(13, .int .i64 s_8), (0, .int .i64 k_0), (1, .func (.func 59) #[] #[boxP from_1_0b 0]), (3, boxP a_3b 0), (6, v1), (12, .int .i64 (from_1_0.length : Int)), (35, .int .i64 (max r20 x25)), (36, elemP v1 (s_8.toNat * 1))]) (fun σ => [ro from_1_0v 20 (from_1_0.map S_api_Segment.enc), box a_3b [a_3v], nrow a_3v NC_L_int_43 a_3, row v1 1 ((x_9.set s_8.toNat r20).map (eInt .i64)), box from_1_0b [from_1_0v]]) ?_ (fun hK28 => ?_)
     ·rintro _
      change AnyL _ _ _ _ _ (VF.of [(13, .int .i64 s_8), (0, .int .i64 k_0), (1, .func (.func 59) #[] #[boxP from_1_0b 0]), (3, boxP a_3b 0), (6, v1), (12, .int .i64 (from_1_0.length : Int)), (35, .int .i64 (max r20 x25)), (36, elemP v1 (s_8.toNat * 1))]) [ro from_1_0v 20 (from_1_0.map S_api_Segment.enc), box a_3b [a_3v], nrow a_3v NC_L_int_43 a_3, row v1 1 ((x_9.set s_8.toNat r20).map (eInt .i64)), box from_1_0b [from_1_0v]] _
      refine any_all [13] (by kernel_rfl) rfl ?_
      refine anyo_cons ?_ ?_
      ·
       refine any_t rfl (wn rfl) rfl (t_store_row (i := s_8.toNat) (j := 0) (c := (eInt .i64) r20) 3 Tryz.sizeOf3 rfl rfl rfl rfl (map_get hxx23) (by decide) (by simp [Value.cells, Value.oneCell', boxP])) ?_
       rintro _ _ ⟨rfl, rfl⟩
       refine ⟨(ss (ss (ss (se (ss (sn)))))), ?_⟩
       refine any_turn (retell 3 (g := row v1 1 (((x_9.set s_8.toNat r20).set s_8.toNat (max r20 x25)).map (eInt .i64))) rfl (congrArg (row _ _) (map_set_at rfl))) ?_
       exact any_weak2 (hK27 ()) [0, 1, 2, 3, 4] (by kernel_rfl) (qv6 rfl rfl rfl rfl rfl rfl) (by decide) rfl
      exact anyo_nil
     refine any_cut2 #[true, true, true, true, true, true, true, true, true, true, true, true, false, false] 2 (Unit) (fun σ => [(13, .int .i64 s_8), (0, .int .i64 k_0), (1, .func (.func 59) #[] #[boxP from_1_0b 0]), (3, boxP a_3b 0), (6, v1), (12, .int .i64 (from_1_0.length : Int)), (24, v1), (25, .int .i64 s_8), (35, .int .i64 (max r20 x25))]) (fun σ => [ro from_1_0v 20 (from_1_0.map S_api_Segment.enc), box a_3b [a_3v], nrow a_3v NC_L_int_43 a_3, row v1 1 ((x_9.set s_8.toNat r20).map (eInt .i64)), box from_1_0b [from_1_0v]]) ?_ (fun hK29 => ?_)
     ·rintro _
      change AnyL _ _ _ _ _ (VF.of [(13, .int .i64 s_8), (0, .int .i64 k_0), (1, .func (.func 59) #[] #[boxP from_1_0b 0]), (3, boxP a_3b 0), (6, v1), (12, .int .i64 (from_1_0.length : Int)), (24, v1), (25, .int .i64 s_8), (35, .int .i64 (max r20 x25))]) [ro from_1_0v 20 (from_1_0.map S_api_Segment.enc), box a_3b [a_3v], nrow a_3v NC_L_int_43 a_3, row v1 1 ((x_9.set s_8.toNat r20).map (eInt .i64)), box from_1_0b [from_1_0v]] _
      refine any_all [12] (by kernel_rfl) rfl ?_
      refine anyo_cons ?_ ?_
      ·
       refine any_ty rfl (wn rfl) rfl (y_indexAddrI (kd := .i64) (i := s_8) 3 Tryz.runUnderlying43 Tryz.sizeOf3 rfl rfl rfl reads_row hzx23 (map_lt hlx23)) ⟨(ss (ss (ss (se (ss (sn)))))), ?_⟩
       exact any_weak2 (hK28 ()) [0, 1, 2, 3, 4] (by kernel_rfl) (qv8 rfl rfl rfl rfl rfl rfl rfl rfl) (by decide) rfl
      exact anyo_nil
     refine any_cut2 #[true, true, true, true, true, true, true, true, true, true, false, false, false, false] 4 (Unit) (fun σ => [(13, .int .i64 s_8), (0, .int .i64 k_0), (1, .func (.func 59) #[] #[boxP from_1_0b 0]), (3, boxP a_3b 0), (6, v1), (12, .int .i64 (from_1_0.length : Int)), (24, v1), (25, .int .i64 s_8), (29, .int .i64 r20), (33, elemP v1 (((IntKind.i64.wrap (s_8 - 1))).toNat * 1))]) (fun σ => [ro from_1_0v 20 (from_1_0.map S_api_Segment.enc), box a_3b [a_3v], nrow a_3v NC_L_int_43 a_3, row v1 1 ((x_9.set s_8.toNat r20).map (eInt .i64)), box from_1_0b [from_1_0v]]) ?_ (fun hK30 => ?_)
     ·rintro _
      change AnyL _ _ _ _ _ (VF.of [(13, .int .i64 s_8), (0, .int .i64 k_0), (1, .func (.func 59) #[] #[boxP from_1_0b 0]), (3, boxP a_3b 0), (6, v1), (12, .int .i64 (from_1_0.length : Int)), (24, v1), (25, .int .i64 s_8), (29, .int .i64 r20), (33, elemP v1 (((IntKind.i64.wrap (s_8 - 1))).toNat * 1))]) [ro from_1_0v 20 (from_1_0.map S_api_Segment.enc), box a_3b [a_3v], nrow a_3v NC_L_int_43 a_3, row v1 1 ((x_9.set s_8.toNat r20).map (eInt .i64)), box from_1_0b [from_1_0v]] _
      refine any_all [10] (by kernel_rfl) rfl ?_
      refine anyo_cons ?_ ?_
      ·
       refine any_ty rfl (wn rfl) rfl (y_load_elem (i := ((IntKind.i64.wrap (s_8 - 1))).toNat) 3 Tryz.isAgg3 rfl rfl reads_row (map_get hxx25)) ⟨(ss (ss (ss (se (ss (sn)))))), ?_⟩
       refine any_y 11 rfl (by kernel_rfl) (by kernel_rfl) (by kernel_rfl) (ss (ss (ss (se (ss (sn)))))) (wn rfl) rfl (y_max rfl rfl) ?_
       exact any_weak2 (hK29 ()) [0, 1, 2, 3, 4] (by kernel_rfl) (qv9 rfl rfl rfl rfl rfl rfl rfl rfl rfl) (by decide) rfl
      exact anyo_nil
     refine any_cut2 #[true, true, true, true, true, false, true, true, true, true, true, false, false, false] 4 (Unit) (fun σ => [(13, .int .i64 s_8), (0, .int .i64 k_0), (1, .func (.func 59) #[] #[boxP from_1_0b 0]), (3, boxP a_3b 0), (6, v1), (12, .int .i64 (from_1_0.length : Int)), (24, v1), (25, .int .i64 s_8), (28, elemP v1 (s_8.toNat * 1)), (34, .int .i64 x25)]) (fun σ => [ro from_1_0v 20 (from_1_0.map S_api_Segment.enc), box a_3b [a_3v], nrow a_3v NC_L_int_43 a_3, row v1 1 ((x_9.set s_8.toNat r20).map (eInt .i64)), box from_1_0b [from_1_0v]]) ?_ (fun hK31 => ?_)
     ·rintro _
      change AnyL _ _ _ _ _ (VF.of [(13, .int .i64 s_8), (0, .int .i64 k_0), (1, .func (.func 59) #[] #[boxP from_1_0b 0]), (3, boxP a_3b 0), (6, v1), (12, .int .i64 (from_1_0.length : Int)), (24, v1), (25, .int .i64 s_8), (28, elemP v1 (s_8.toNat * 1)), (34, .int .i64 x25)]) [ro from_1_0v 20 (from_1_0.map S_api_Segment.enc), box a_3b [a_3v], nrow a_3v NC_L_int_43 a_3, row v1 1 ((x_9.set s_8.toNat r20).map (eInt .i64)), box from_1_0b [from_1_0v]] _
      refine any_all [5] (by kernel_rfl) rfl ?_
      refine anyo_cons ?_ ?_
      ·
       refine any_ty rfl (wn rfl) rfl (y_load_elem (i := s_8.toNat) 3 Tryz.isAgg3 rfl rfl reads_row (map_get hxx23)) ⟨(ss (ss (ss (se (ss (sn)))))), ?_⟩
       refine any_y 11 rfl (by kernel_rfl) (by kernel_rfl) (by kernel_rfl) (ss (ss (ss (se (ss (sn)))))) (wn rfl) rfl (y_max rfl rfl) ?_
       exact any_weak2 (hK29 ()) [0, 1, 2, 3, 4] (by kernel_rfl) (qv9 rfl rfl rfl rfl rfl rfl rfl rfl rfl) (by decide) rfl
      exact anyo_nil
     refine any_cut2 #[true, true, true, true, true, true, true, true, true, false, false, false, false, false] 5 (Unit) (fun σ => [(13, .int .i64 s_8), (0, .int .i64 k_0), (1, .func (.func 59) #[] #[boxP from_1_0b 0]), (3, boxP a_3b 0), (6, v1), (12, .int .i64 (from_1_0.length : Int)), (24, v1), (25, .int .i64 s_8), (30, v1), (32, .int .i64 (IntKind.i64.wrap (s_8 - 1))), (29, .int .i64 r20)]) (fun σ => [ro from_1_0v 20 (from_1_0.map S_api_Segment.enc), box a_3b [a_3v], nrow a_3v NC_L_int_43 a_3, row v1 1 ((x_9.set s_8.toNat r20).map (eInt .i64)), box from_1_0b [from_1_0v]]) ?_ (fun hK32 => ?_)
     ·rintro _
      change AnyL _ _ _ _ _ (VF.of [(13, .int .i64 s_8), (0, .int .i64 k_0), (1, .func (.func 59) #[] #[boxP from_1_0b 0]), (3, boxP a_3b 0), (6, v1), (12, .int .i64 (from_1_0.length : Int)), (24, v1), (25, .int .i64 s_8), (30, v1), (32, .int .i64 (IntKind.i64.wrap (s_8 - 1))), (29, .int .i64 r20)]) [ro from_1_0v 20 (from_1_0.map S_api_Segment.enc), box a_3b [a_3v], nrow a_3v NC_L_int_43 a_3, row v1 1 ((x_9.set s_8.toNat r20).map (eInt .i64)), box from_1_0b [from_1_0v]] _
      refine any_all [9] (by kernel_rfl) rfl ?_
      refine anyo_cons ?_ ?_
      ·
       refine any_ty rfl (wn rfl) rfl (y_indexAddrI (kd := .i64) (i := (IntKind.i64.wrap (s_8 - 1))) 3 Tryz.runUnderlying43 Tryz.sizeOf3 rfl rfl rfl reads_row hzx25 (map_lt hlx25)) ⟨(ss (ss (ss (se (ss (sn)))))), ?_⟩
       exact any_weak2 (hK30 ()) [0, 1, 2, 3, 4] (by kernel_rfl) (qv10 rfl rfl rfl rfl rfl rfl rfl rfl rfl rfl) (by decide) rfl
      exact anyo_nil
     refine any_cut2 #[true, true, true, true, true, false, true, true, true, true, false, false, false, false] 5 (Unit) (fun σ => [(13, .int .i64 s_8), (0, .int .i64 k_0), (1, .func (.func 59) #[] #[boxP from_1_0b 0]), (3, boxP a_3b 0), (6, v1), (12, .int .i64 (from_1_0.length : Int)), (24, v1), (25, .int .i64 s_8), (28, elemP v1 (s_8.toNat * 1)), (33, elemP v1 (((IntKind.i64.wrap (s_8 - 1))).toNat * 1))]) (fun σ => [ro from_1_0v 20 (from_1_0.map S_api_Segment.enc), box a_3b [a_3v], nrow a_3v NC_L_int_43 a_3, row v1 1 ((x_9.set s_8.toNat r20).map (eInt .i64)), box from_1_0b [from_1_0v]]) ?_ (fun hK33 => ?_)
     ·rintro _
      change AnyL _ _ _ _ _ (VF.of [(13, .int .i64 s_8), (0, .int .i64 k_0), (1, .func (.func 59) #[] #[boxP from_1_0b 0]), (3, boxP a_3b 0), (6, v1), (12, .int .i64 (from_1_0.length : Int)), (24, v1), (25, .int .i64 s_8), (28, elemP v1 (s_8.toNat * 1)), (33, elemP v1 (((IntKind.i64.wrap (s_8 - 1))).toNat * 1))]) [ro from_1_0v 20 (from_1_0.map S_api_Segment.enc), box a_3b [a_3v], nrow a_3v NC_L_int_43 a_3, row v1 1 ((x_9.set s_8.toNat r20).map (eInt .i64)), box from_1_0b [from_1_0v]] _
      refine any_all [5, 10] (by kernel_rfl) rfl ?_
      refine anyo_cons ?_ ?_
      ·
       refine any_ty rfl (wn rfl) rfl (y_load_elem (i := s_8.toNat) 3 Tryz.isAgg3 rfl rfl reads_row (map_get hxx23)) ⟨(ss (ss (ss (se (ss (sn)))))), ?_⟩
       exact any_weak2 (hK30 ()) [0, 1, 2, 3, 4] (by kernel_rfl) (qv10 rfl rfl rfl rfl rfl rfl rfl rfl rfl rfl) (by decide) rfl
      refine anyo_cons ?_ ?_
      ·
       refine any_ty rfl (wn rfl) rfl (y_load_elem (i := ((IntKind.i64.wrap (s_8 - 1))).toNat) 3 Tryz.isAgg3 rfl rfl reads_row (map_get hxx25)) ⟨(ss (ss (ss (se (ss (sn)))))), ?_⟩
       exact any_weak2 (hK31 ()) [0, 1, 2, 3, 4] (by kernel_rfl) (qv10 rfl rfl rfl rfl rfl rfl rfl rfl rfl rfl) (by decide) rfl
      exact anyo_nil
     refine any_cut2 #[true, true, true, true, false, false, true, true, true, true, true, false, false, false] 5 (Unit) (fun σ => [(13, .int .i64 s_8), (0, .int .i64 k_0), (1, .func (.func 59) #[] #[boxP from_1_0b 0]), (3, boxP a_3b 0), (6, v1), (12, .int .i64 (from_1_0.length : Int)), (24, v1), (25, .int .i64 s_8), (26, v1), (27, .int .i64 s_8), (34, .int .i64 x25)]) (fun σ => [ro from_1_0v 20 (from_1_0.map S_api_Segment.enc), box a_3b [a_3v], nrow a_3v NC_L_int_43 a_3, row v1 1 ((x_9.set s_8.toNat r20).map (eInt .i64)), box from_1_0b [from_1_0v]]) ?_ (fun hK34 => ?_)
     ·rintro _
      change AnyL _ _ _ _ _ (VF.of [(13, .int .i64 s_8), (0, .int .i64 k_0), (1, .func (.func 59) #[] #[boxP from_1_0b 0]), (3, boxP a_3b 0), (6, v1), (12, .int .i64 (from_1_0.length : Int)), (24, v1), (25, .int .i64 s_8), (26, v1), (27, .int .i64 s_8), (34, .int .i64 x25)]) [ro from_1_0v 20 (from_1_0.map S_api_Segment.enc), box a_3b [a_3v], nrow a_3v NC_L_int_43 a_3, row v1 1 ((x_9.set s_8.toNat r20).map (eInt .i64)), box from_1_0b [from_1_0v]] _
      refine any_all [4] (by kernel_rfl) rfl ?_
      refine anyo_cons ?_ ?_
      ·
       refine any_ty rfl (wn rfl) rfl (y_indexAddrI (kd := .i64) (i := s_8) 3 Tryz.runUnderlying43 Tryz.sizeOf3 rfl rfl rfl reads_row hzx23 (map_lt hlx23)) ⟨(ss (ss (ss (se (ss (sn)))))), ?_⟩
       exact any_weak2 (hK31 ()) [0, 1, 2, 3, 4] (by kernel_rfl) (qv10 rfl rfl rfl rfl rfl rfl rfl rfl rfl rfl) (by decide) rfl
      exact anyo_nil
     refine any_cut2 #[true, true, true, true, true, false, true, true, true, false, false, false, false, false] 6 (Unit) (fun σ => [(13, .int .i64 s_8), (0, .int .i64 k_0), (1, .func (.func 59) #[] #[boxP from_1_0b 0]), (3, boxP a_3b 0), (6, v1), (12, .int .i64 (from_1_0.length : Int)), (24, v1), (25, .int .i64 s_8), (30, v1), (32, .int .i64 (IntKind.i64.wrap (s_8 - 1))), (28, elemP v1 (s_8.toNat * 1))]) (fun σ => [ro from_1_0v 20 (from_1_0.map S_api_Segment.enc), box a_3b [a_3v], nrow a_3v NC_L_int_43 a_3, row v1 1 ((x_9.set s_8.toNat r20).map (eInt .i64)), box from_1_0b [from_1_0v]]) ?_ (fun hK35 => ?_)
     ·rintro _
      change AnyL _ _ _ _ _ (VF.of [(13, .int .i64 s_8), (0, .int .i64 k_0), (1, .func (.func 59) #[] #[boxP from_1_0b 0]), (3, boxP a_3b 0), (6, v1), (12, .int .i64 (from_1_0.length : Int)), (24, v1), (25, .int .i64 s_8), (30, v1), (32, .int .i64 (IntKind.i64.wrap (s_8 - 1))), (28, elemP v1 (s_8.toNat * 1))]) [ro from_1_0v 20 (from_1_0.map S_api_Segment.enc), box a_3b [a_3v], nrow a_3v NC_L_int_43 a_3, row v1 1 ((x_9.set s_8.toNat r20).map (eInt .i64)), box from_1_0b [from_1_0v]] _
      refine any_all [5, 9] (by kernel_rfl) rfl ?_
      refine anyo_cons ?_ ?_
      ·
       refine any_ty rfl (wn rfl) rfl (y_load_elem (i := s_8.toNat) 3 Tryz.isAgg3 rfl rfl reads_row (map_get hxx23)) ⟨(ss (ss (ss (se (ss (sn)))))), ?_⟩
       exact any_weak2 (hK32 ()) [0, 1, 2, 3, 4] (by kernel_rfl) (qv11 rfl rfl rfl rfl rfl rfl rfl rfl rfl rfl rfl) (by decide) rfl
      refine anyo_cons ?_ ?_
      ·
       refine any_ty rfl (wn rfl) rfl (y_indexAddrI (kd := .i64) (i := (IntKind.i64.wrap (s_8 - 1))) 3 Tryz.runUnderlying43 Tryz.sizeOf3 rfl rfl rfl reads_row hzx25 (map_lt hlx25)) ⟨(ss (ss (ss (se (ss (sn)))))), ?_⟩
       exact any_weak2 (hK33 ()) [0, 1, 2, 3, 4] (by kernel_rfl) (qv10 rfl rfl rfl rfl rfl rfl rfl rfl rfl rfl) (by decide) rfl
      exact anyo_nil
     refine any_cut2 #[true, true, true, true, false, false, true, true, true, true, false, false, false, false] 6 (Unit) (fun σ => [(13, .int .i64 s_8), (0, .int .i64 k_0), (1, .func (.func 59) #[] #[boxP from_1_0b 0]), (3, boxP a_3b 0), (6, v1), (12, .int .i64 (from_1_0.length : Int)), (24, v1), (25, .int .i64 s_8), (26, v1), (27, .int .i64 s_8), (33, elemP v1 (((IntKind.i64.wrap (s_8 - 1))).toNat * 1))]) (fun σ => [ro from_1_0v 20 (from_1_0.map S_api_Segment.enc), box a_3b [a_3v], nrow a_3v NC_L_int_43 a_3, row v1 1 ((x_9.set s_8.toNat r20).map (eInt .i64)), box from_1_0b [from_1_0v]]) ?_ (fun hK36 => ?_)
     ·rintro _
      change AnyL _ _ _ _ _ (VF.of [(13, .int .i64 s_8), (0, .int .i64 k_0), (1, .func (.func 59) #[] #[boxP from_1_0b 0]), (3, boxP a_3b 0), (6, v1), (12, .int .i64 (from_1_0.length : Int)), (24, v1), (25, .int .i64 s_8), (26, v1), (27, .int .i64 s_8), (33, elemP v1 (((IntKind.i64.wrap (s_8 - 1))).toNat * 1))]) [ro from_1_0v 20 (from_1_0.map S_api_Segment.enc), box a_3b [a_3v], nrow a_3v NC_L_int_43 a_3, row v1 1 ((x_9.set s_8.toNat r20).map (eInt .i64)), box from_1_0b [from_1_0v]] _
      refine any_all [4, 10] (by kernel_rfl) rfl ?_
      refine anyo_cons ?_ ?_
      ·
       refine any_ty rfl (wn rfl) rfl (y_indexAddrI (kd := .i64) (i := s_8) 3 Tryz.runUnderlying43 Tryz.sizeOf3 rfl rfl rfl reads_row hzx23 (map_lt hlx23)) ⟨(ss (ss (ss (se (ss (sn)))))), ?_⟩
       exact any_weak2 (hK33 ()) [0, 1, 2, 3, 4] (by kernel_rfl) (qv10 rfl rfl rfl rfl rfl rfl rfl rfl rfl rfl) (by decide) rfl
      refine anyo_cons ?_ ?_
      ·
       refine any_ty rfl (wn rfl) rfl (y_load_elem (i := ((IntKind.i64.wrap (s_8 - 1))).toNat) 3 Tryz.isAgg3 rfl rfl reads_row (map_get hxx25)) ⟨(ss (ss (ss (se (ss (sn)))))), ?_⟩
       exact any_weak2 (hK34 ()) [0, 1, 2, 3, 4] (by kernel_rfl) (qv11 rfl rfl rfl rfl rfl rfl rfl rfl rfl rfl rfl) (by decide) rfl
      exact anyo_nil
     refine any_all [4, 9] (by kernel_rfl) rfl ?_
     refine anyo_cons ?_ ?_
     ·
      refine any_ty rfl (wn rfl) rfl (y_indexAddrI (kd := .i64) (i := s_8) 3 Tryz.runUnderlying43 Tryz.sizeOf3 rfl rfl rfl reads_row hzx23 (map_lt hlx23)) ⟨(ss (ss (ss (se (ss (sn)))))), ?_⟩
      exact any_weak2 (hK35 ()) [0, 1, 2, 3, 4] (by kernel_rfl) (qv11 rfl rfl rfl rfl rfl rfl rfl rfl rfl rfl rfl) (by decide) rfl
     refine anyo_cons ?_ ?_
     ·
      refine any_ty rfl (wn rfl) rfl (y_indexAddrI (kd := .i64) (i := (IntKind.i64.wrap (s_8 - 1))) 3 Tryz.runUnderlying43 Tryz.sizeOf3 rfl rfl rfl reads_row hzx25 (map_lt hlx25)) ⟨(ss (ss (ss (se (ss (sn)))))), ?_⟩
      exact any_weak2 (hK36 ()) [0, 1, 2, 3, 4] (by kernel_rfl) (qv11 rfl rfl rfl rfl rfl rfl rfl rfl rfl rfl rfl) (by decide) rfl
     exact anyo_nil
    ·replace h := cond_f h hc24
     refine run_skip ?_
     refine goes_blk ?_
     obtain rfl := some_eq h
     exact goes_cut hL18 ((x_9.set s_8.toNat r20), ()) [4, 0, 1, 2, 3] (qv6 rfl rfl rfl rfl rfl rfl) (by decide) rfl rfl
   rintro ⟨x_15, _⟩ hj
   obtain rfl : o16 = _ := hj
   replace h := after_go ho17
   clear ho17
   change Run _ _ _ (VF.of [(0, .int .i64 k_0), (1, .func (.func 59) #[] #[boxP from_1_0b 0]), (3, boxP a_3b 0), (6, v1), (12, .int .i64 (from_1_0.length : Int)), (13, .int .i64 s_8)]) [box from_1_0b [from_1_0v], ro from_1_0v 20 (from_1_0.map S_api_Segment.enc), box a_3b [a_3v], nrow a_3v NC_L_int_43 a_3, row v1 1 (x_15.map (eInt .i64))]
   refine run_region' ?_
   refine oy rfl rfl (y_add rfl rfl) ?_
   refine oy rfl rfl (y_move rfl) ?_
   refine ops_nil ?_
   obtain rfl := some_eq h
   exact goes_iter hgo11 ((IntKind.i64.wrap (s_8 + 1)), x_15) () [0, 1, 2, 3, 4] rfl (qv6 rfl rfl rfl rfl rfl rfl) (by decide) rfl
  ·replace h := cond_f h hc14
   refine run_exit _ rfl ?_
   obtain rfl := some_eq h
   obtain rfl := hstop12 _ rfl
   exact goes_cut hL6 (x_9, ()) [2, 3, 4, 0, 1] (qv3 rfl rfl rfl) (by decide) rfl rfl
 rintro ⟨x_3, _⟩ hj
 obtain rfl : o4 = _ := hj
 replace h := after_go ho5
 clear ho5
 change Run _ _ _ (VF.of [(0, .int .i64 k_0), (3, boxP a_3b 0), (6, v1)]) [box a_3b [a_3v], nrow a_3v NC_L_int_43 a_3, row v1 1 (x_3.map (eInt .i64)), box from_1_0b [from_1_0v], ro from_1_0v 20 (from_1_0.map S_api_Segment.enc)]
 refine run_region' ?_
 refine oy rfl rfl (y_load_box 0 Tryz.isAgg44 rfl rfl rfl) ?_
 refine oy rfl rfl (y_move rfl) ?_
 refine oy rfl rfl (y_move rfl) ?_
 obtain ⟨x37, hzx37, hlx37, hxx37, h⟩ := idx_some h
 refine oy rfl rfl (y_indexAddrN (kd := .i64) (i := k_0) 1 Tryz.runUnderlying44 Tryz.sizeOf43 rfl rfl rfl readsN_row hzx37 hlx37) ?_
 refine ops_turn (Go.Abs.freeze 2 rfl) ?_
 refine ops_slc 2 rfl reads_ro (fun hs38 hs38o => ?_)
 refine ot rfl rfl (t_storeN (C := NC_L_int_43) (i := k_0.toNat) (b := x_3) (gb := v1) 1 Tryz.sizeOf43 rfl rfl (by rw [hs38]; rfl) rfl hxx37 (has_cons 2 rfl has_nil)) ?_
 rintro _ _ ⟨rfl, rfl⟩
 refine ops_nil ?_
 refine goes_nil ?_
 obtain rfl := some_eq h
 refine fin_slots [] [] [3, 1, 0] [box from_1_0b [from_1_0v], nrow a_3v NC_L_int_43 (a_3.set k_0.toNat x_3), box a_3b [a_3v]] Tryz.results58 rfl (by decide) rfl ?_
 exact ⟨_, rfl, rfl⟩

def playlist_Spread_3_62 (d_0 : Int) : Option (Bool) :=
 some (decide (d_0 < 0) || decide (1099511627776 < d_0))
theorem playlist_Spread_3_62_ok (d_0 : Int)  {r : Bool} (h : playlist_Spread_3_62 d_0 = some r) :
  Meets Tryz.prog 62 [.int .i64 d_0] [] (fun v G => v = .bool r ∧ G = []) := by
 refine fn_of_run Tryz.func62 rfl Tryz.ntmps62 rfl (fun w0 o0 => ?_)
 refine run_seq ?_
 refine run_region' ?_
 refine oy rfl rfl (y_assign rfl) ?_
 refine ops_nil ?_
 refine goes_code ?_
 refine run_seq ?_
 refine run_region' ?_
 refine oy rfl rfl (y_move rfl) ?_
 refine oy rfl rfl (y_lss rfl rfl) ?_
 refine oy rfl rfl (y_move rfl) ?_
 refine ops_cut 3 (Bool) (fun σ => [(8, .bool σ)]) (fun σ => []) (fun σ => σ = (decide (d_0 < 0) || decide (1099511627776 < d_0))) (fun L1 hL2 => ?_) ?_
 ·refine ops_split 5 (decide (d_0 < 0)) rfl (fun hg3 => ?_) (fun hg3 => ?_)
  ·skip
   refine ops_no 2 false 5 rfl rfl rfl rfl rfl ?_
   refine ops_no 2 false 5 rfl rfl rfl rfl rfl ?_
   refine oy rfl rfl (y_pick (b := true) rfl rfl) ?_
   refine ops_nil ?_
   exact goes_cut hL2 true [] (qv1 rfl) (by decide) rfl (by rw [hg3]; simp)
  ·skip
   refine ops_y (wg 2 false 5 rfl rfl rfl rfl) rfl (y_move rfl) ?_
   refine ops_y (wg 2 false 5 rfl rfl rfl rfl) rfl (y_gtr rfl rfl) ?_
   refine oy rfl rfl (y_pick (b := false) rfl rfl) ?_
   refine ops_nil ?_
   exact goes_cut hL2 (decide (1099511627776 < d_0)) [] (qv1 rfl) (by decide) rfl (by rw [hg3]; simp)
 rintro _ rfl
 refine oy rfl rfl (y_assign rfl) ?_
 refine ops_nil ?_
 refine goes_code ?_
 refine run_ret ?_
 obtain rfl := some_eq h
 refine fin_slots [2] [.bool (decide (d_0 < 0) || decide (1099511627776 < d_0))] [] [] Tryz.results62 rfl (by decide) rfl ?_
 exact ⟨rfl, rfl⟩

def slices_IndexFunc_int_int_65_L1 (s_0 : (List Int)) : (Int) → Option (Lp (Int) (Lp (Unit) (Int))) :=
 fun s_5 =>
  cond (decide (s_5 < (s_0.length : Int)))
   (idx s_0 s_5 fun x11 =>
   obind (playlist_Spread_3_62 x11) fun r12 =>
   cond r12
    (some (.stop (.stop s_5)))
    (some (.go (IntKind.i64.wrap (s_5 + 1)))))
   (some (.stop (.go ())))
def slices_IndexFunc_int_int_65 (n : Nat) (s_0 : (List Int)) : Option (Int) :=
 bindJ (S := Unit)
  (iter (slices_IndexFunc_int_int_65_L1 s_0) n 0)
 (fun _ =>
  some (-1))
theorem slices_IndexFunc_int_int_65_ok (n : Nat) (s_0 : (List Int)) (s_0v : Value) {r : Int} (h : slices_IndexFunc_int_int_65 n s_0 = some r) :
  Meets Tryz.prog 65 [s_0v, .func (.func 62) #[] #[]] [ro s_0v 1 (s_0.map (eInt .i64))] (fun v G => v = .int .i64 r ∧ G = []) := by
 refine fn_of_run Tryz.func65 rfl Tryz.ntmps65 rfl (fun w0 o0 => ?_)
 refine run_seq ?_
 refine run_region' ?_
 refine oy rfl rfl (y_assign rfl) ?_
 refine ops_nil ?_
 refine goes_code ?_
 obtain ⟨o1, h, ho2⟩ := bindJ_some h
 refine run_cut ((Unit) × (Unit)) (fun σ => []) (fun σ => []) (fun σ => o1 = .go σ.1) (fun L4 hL3 => ?_) ?_
 ·
  refine run_seq ?_
  refine run_region' ?_
  refine oy rfl rfl (y_move rfl) ?_
  refine oy rfl rfl ((y_len 0 rfl Tryz.runUnderlying43 rfl rfl reads_ro).to (v_len (eInt .i64) _)) ?_
  refine oy rfl rfl (y_move rfl) ?_
  refine ops_nil ?_
  refine goes_code ?_
  refine run_block ?_
  refine run_iter (step := slices_IndexFunc_int_int_65_L1 s_0) (n := n) (s0 := 0) h (G := Unit) () (fun σ γ => [(8, .int .i64 σ), (0, s_0v), (1, .func (.func 62) #[] #[]), (7, .int .i64 (s_0.length : Int))]) (fun σ γ => [ro s_0v 1 (s_0.map (eInt .i64))]) [0] (qv4 rfl rfl rfl rfl) (by decide) rfl ?_
  rintro s_5 _ o6 h L9 hgo7 hstop8
  change Run _ _ _ (VF.of [(8, .int .i64 s_5), (0, s_0v), (1, .func (.func 62) #[] #[]), (7, .int .i64 (s_0.length : Int))]) [ro s_0v 1 (s_0.map (eInt .i64))]
  refine run_seq ?_
  refine run_region' ?_
  refine oy rfl rfl (y_lss rfl rfl) ?_
  refine ops_nil ?_
  refine goes_code ?_
  refine run_seq ?_
  refine run_cond (decide (s_5 < (s_0.length : Int))) rfl (fun hc10 => ?_) (fun hc10 => ?_)
  ·replace h := cond_t h hc10
   refine run_skip ?_
   refine goes_code ?_
   refine run_seq ?_
   refine run_block ?_
   refine run_seq ?_
   refine run_region' ?_
   refine oy rfl rfl (y_move rfl) ?_
   refine oy rfl rfl (y_assign rfl) ?_
   refine ops_nil ?_
   refine goes_code ?_
   refine run_seq ?_
   refine run_region' ?_
   refine oy rfl rfl (y_move rfl) ?_
   refine oy rfl rfl (y_move rfl) ?_
   refine oy rfl rfl (y_move rfl) ?_
   obtain ⟨x11, hzx11, hlx11, hxx11, h⟩ := idx_some h
   refine oy rfl rfl (y_indexAddrI (kd := .i64) (i := s_5) 0 Tryz.runUnderlying43 Tryz.sizeOf3 rfl rfl rfl reads_ro hzx11 (map_lt hlx11)) ?_
   refine oy rfl rfl (y_load_elem (i := s_5.toNat) 0 Tryz.isAgg3 rfl rfl reads_ro (map_get hxx11)) ?_
   obtain ⟨r12, hr13, h⟩ := obind_some h
   refine ot rfl rfl (t_callx (vs := [.int .i64 x11]) (cs := []) [] rfl Tryz.call62 rfl (playlist_Spread_3_62_ok x11  hr13) showsX_nil rfl (.inl rfl)) ?_
   rintro _ _ ⟨_, ⟨rfl, rfl⟩, rfl⟩
   refine ops_nil ?_
   refine goes_code ?_
   refine run_cond r12 rfl (fun hc14 => ?_) (fun hc14 => ?_)
   ·replace h := cond_t h hc14
    refine run_seq ?_
    refine run_weak [(5, .int .i64 s_5)] [] [] (qv1 rfl) (by decide) rfl ?_
    refine run_region' ?_
    refine oy rfl rfl (y_move rfl) ?_
    refine oy rfl rfl (y_assign rfl) ?_
    refine ops_nil ?_
    refine goes_code ?_
    refine run_ret ?_
    obtain rfl := some_eq h
    obtain rfl := hstop8 _ rfl
    skip
    obtain rfl := after_stop ho2
    refine fin_slots [4] [.int .i64 s_5] [] [] Tryz.results65 rfl (by decide) rfl ?_
    exact ⟨rfl, rfl⟩
   ·replace h := cond_f h hc14
    refine run_skip ?_
    refine goes_blk ?_
    refine goes_code ?_
    refine run_weak [(8, .int .i64 s_5), (0, s_0v), (1, .func (.func 62) #[] #[]), (7, .int .i64 (s_0.length : Int))] [0] [ro s_0v 1 (s_0.map (eInt .i64))] (qv4 rfl rfl rfl rfl) (by decide) rfl ?_
    refine run_region' ?_
    refine oy rfl rfl (y_add rfl rfl) ?_
    refine oy rfl rfl (y_move rfl) ?_
    refine ops_nil ?_
    obtain rfl := some_eq h
    exact goes_iter hgo7 (IntKind.i64.wrap (s_5 + 1)) () [0] rfl (qv4 rfl rfl rfl rfl) (by decide) rfl
  ·replace h := cond_f h hc10
   refine run_exit _ rfl ?_
   obtain rfl := some_eq h
   obtain rfl := hstop8 _ rfl
   exact goes_cut hL3 ((), ()) [] vnil (by decide) rfl rfl
 rintro ⟨_, _⟩ hj
 obtain rfl : o1 = _ := hj
 replace h := after_go ho2
 clear ho2
 change Run _ _ _ (VF.of []) []
 refine run_seq ?_
 refine run_region' ?_
 refine oy rfl rfl (y_assign rfl) ?_
 refine ops_nil ?_
 refine goes_code ?_
 refine run_ret ?_
 obtain rfl := some_eq h
 refine fin_slots [4] [.int .i64 (-1)] [] [] Tryz.results65 rfl (by decide) rfl ?_
 exact ⟨rfl, rfl⟩

def slices_ContainsFunc_int_int_61 (n : Nat) (s_0 : (List Int)) : Option (Bool) :=
 obind (slices_IndexFunc_int_int_65 n s_0) fun r1 =>
 some (decide (0 ≤ r1))
theorem slices_ContainsFunc_int_int_61_ok (n : Nat) (s_0 : (List Int)) (s_0v : Value) {r : Bool} (h : slices_ContainsFunc_int_int_61 n s_0 = some r) :
  Meets Tryz.prog 61 [s_0v, .func (.func 62) #[] #[]] [ro s_0v 1 (s_0.map (eInt .i64))] (fun v G => v = .bool r ∧ G = []) := by
 refine fn_of_run Tryz.func61 rfl Tryz.ntmps61 rfl (fun w0 o0 => ?_)
 refine run_seq ?_
 refine run_region' ?_
 refine oy rfl rfl (y_assign rfl) ?_
 refine ops_nil ?_
 refine goes_code ?_
 refine run_seq ?_
 refine run_region' ?_
 refine oy rfl rfl (y_move rfl) ?_
 refine oy rfl rfl (y_move rfl) ?_
 obtain ⟨r1, hr2, h⟩ := obind_some h
 refine ot rfl rfl (t_callx (vs := [s_0v, .func (.func 62) #[] #[]]) (cs := []) [(0, 0)] rfl Tryz.call65 rfl (slices_IndexFunc_int_int_65_ok n s_0 s_0v hr2) (showsX_view 0 rfl views_ro showsX_nil) rfl (.inl rfl)) ?_
 rintro _ _ ⟨_, ⟨rfl, rfl⟩, rfl⟩
 refine oy rfl rfl (y_geq rfl rfl) ?_
 refine oy rfl rfl (y_assign rfl) ?_
 refine ops_nil ?_
 refine goes_code ?_
 refine run_ret ?_
 obtain rfl := some_eq h
 refine fin_slots [4] [.bool (decide (0 ≤ r1))] [] [] Tryz.results61 rfl (by decide) rfl ?_
 exact ⟨rfl, rfl⟩

def playlist_Spread_4_63 (i_0 : Int) (a_1 : (List (List Int))) (a_2 : Int) (a_3 : (List (List Int))) (a_4 : Int) : Option (Int) :=
 idx a_1 a_2 fun x3 =>
 idx x3 i_0 fun x5 =>
 idx a_3 a_4 fun x6 =>
 idx x6 i_0 fun x8 =>
 some (IntKind.i64.wrap (x5 + x8))
theorem playlist_Spread_4_63_ok (i_0 : Int) (a_1 : (List (List Int))) (a_2 : Int) (a_3 : (List (List Int))) (a_4 : Int) (a_1b : Nat) (a_1v : Value) (a_2b : Nat) (a_3b : Nat) (a_3v : Value) (a_4b : Nat) {r : Int} (h : playlist_Spread_4_63 i_0 a_1 a_2 a_3 a_4 = some r) :
  Meets Tryz.prog 63 [.int .i64 i_0, boxP a_1b 0, boxP a_2b 0, boxP a_3b 0, boxP a_4b 0] [nrow a_1v NC_L_int_43 a_1, box a_1b [a_1v], box a_2b [.int .i64 a_2], nro a_3v NC_L_int_43 a_3, box a_3b [a_3v], box a_4b [.int .i64 a_4]] (fun v G => v = .int .i64 r ∧ G = [nrow a_1v NC_L_int_43 a_1, box a_1b [a_1v], box a_2b [.int .i64 a_2], box a_3b [a_3v], box a_4b [.int .i64 a_4]]) := by
 refine fn_of_run Tryz.func63 rfl Tryz.ntmps63 rfl (fun w0 o0 => ?_)
 refine run_seq ?_
 refine run_region' ?_
 refine oy rfl rfl (y_assign rfl) ?_
 refine ops_nil ?_
 refine goes_code ?_
 refine run_seq ?_
 refine run_draw (by kernel_rfl) (by kernel_rfl) ?_
 refine still_view (freezeN 0 rfl) (fun L1 hL2 => ?_)
 refine sy rfl rfl (y_load_box 1 Tryz.isAgg44 rfl rfl rfl) ?_
 refine sy rfl rfl (y_load_box 2 Tryz.isAgg3 rfl rfl rfl) ?_
 obtain ⟨x3, hzx3, hlx3, hxx3, h⟩ := idx_some h
 refine sy rfl rfl (y_indexAddrN (kd := .i64) (i := a_2) 0 Tryz.runUnderlying44 Tryz.sizeOf43 rfl rfl rfl readsN_ro hzx3 hlx3) ?_
 refine still_ex (exAt (C := NC_L_int_43) (i := a_2.toNat) 0 rfl hxx3) ?_
 rintro g4
 refine sy rfl rfl (y_load_at (n := a_2.toNat * 1) (j := 0) 6 Tryz.isAgg43 rfl rfl rfl) ?_
 refine sy rfl rfl (y_move rfl) ?_
 obtain ⟨x5, hzx5, hlx5, hxx5, h⟩ := idx_some h
 refine sy rfl rfl (y_indexAddrI (kd := .i64) (i := i_0) 7 Tryz.runUnderlying43 Tryz.sizeOf3 rfl rfl rfl reads_ro hzx5 (map_lt hlx5)) ?_
 refine sy rfl rfl (y_load_elem (i := i_0.toNat) 7 Tryz.isAgg3 rfl rfl reads_ro (map_get hxx5)) ?_
 refine sy rfl rfl (y_load_box 4 Tryz.isAgg44 rfl rfl rfl) ?_
 refine sy rfl rfl (y_load_box 5 Tryz.isAgg3 rfl rfl rfl) ?_
 obtain ⟨x6, hzx6, hlx6, hxx6, h⟩ := idx_some h
 refine sy rfl rfl (y_indexAddrN (kd := .i64) (i := a_4) 3 Tryz.runUnderlying44 Tryz.sizeOf43 rfl rfl rfl readsN_ro hzx6 hlx6) ?_
 refine still_ex (exAt (C := NC_L_int_43) (i := a_4.toNat) 3 rfl hxx6) ?_
 rintro g7
 refine sy rfl rfl (y_load_at (n := a_4.toNat * 1) (j := 0) 8 Tryz.isAgg43 rfl rfl rfl) ?_
 refine sy rfl rfl (y_move rfl) ?_
 obtain ⟨x8, hzx8, hlx8, hxx8, h⟩ := idx_some h
 refine sy rfl rfl (y_indexAddrI (kd := .i64) (i := i_0) 9 Tryz.runUnderlying43 Tryz.sizeOf3 rfl rfl rfl reads_ro hzx8 (map_lt hlx8)) ?_
 refine sy rfl rfl (y_load_elem (i := i_0.toNat) 9 Tryz.isAgg3 rfl rfl reads_ro (map_get hxx8)) ?_
 refine sy rfl rfl (y_add rfl rfl) ?_
 refine sy rfl rfl (y_assign rfl) ?_
 refine still_nil ?_
 refine goes_view hL2 [(6, .int .i64 (IntKind.i64.wrap (x5 + x8)))] [0, 1, 2, 3, 4, 5] (qv1 rfl) (by decide) rfl ?_
 refine goes_code ?_
 refine run_ret ?_
 obtain rfl := some_eq h
 refine fin_slots [6] [.int .i64 (IntKind.i64.wrap (x5 + x8))] [0, 1, 2, 4, 5] [nrow a_1v NC_L_int_43 a_1, box a_1b [a_1v], box a_2b [.int .i64 a_2], box a_3b [a_3v], box a_4b [.int .i64 a_4]] Tryz.results63 rfl (by decide) rfl ?_
 exact ⟨rfl, rfl⟩

def playlist_Spread_1_58_v1_L1 (from_1_0 : (List (List Int))) (from_1_1 : Int) (from_1_2 : (List (List Int))) (from_1_3 : Int) (a_2 : (List S_api_Segment)) : (Int × (List Int)) → Option (Lp (Int × (List Int)) (Lp ((List Int)) ((List (List Int))))) :=
 fun (s_8, x_9) =>
  cond (decide (s_8 < (a_2.length : Int)))
   (bindJ (S := (List Int))
    (obind (playlist_Spread_4_63 s_8 from_1_0 from_1_1 from_1_2 from_1_3) fun r20 =>
    idx x_9 s_8 fun x22 =>
    cond (decide (0 < s_8))
     (idx (x_9.set s_8.toNat r20) (IntKind.i64.wrap (s_8 - 1)) fun x25 =>
     some (.go ((x_9.set s_8.toNat r20).set s_8.toNat (max r20 x25))))
     (some (.go (x_9.set s_8.toNat r20))))
   (fun x_15 =>
    some (.go ((IntKind.i64.wrap (s_8 + 1)), x_15))))
   (some (.stop (.go x_9)))
def playlist_Spread_1_58_v1 (n : Nat) (k_0 : Int) (from_1_0 : (List (List Int))) (from_1_1 : Int) (from_1_2 : (List (List Int))) (from_1_3 : Int) (a_2 : (List S_api_Segment)) : Option ((List (List Int))) :=
 need (0 ≤ (a_2.length : Int) ∧ (a_2.length : Int) ≤ 4294967296) (
 bindJ (S := (List Int))
  (iter (playlist_Spread_1_58_v1_L1 from_1_0 from_1_1 from_1_2 from_1_3 a_2) n (0, (List.replicate ((a_2.length : Int)).toNat (0 : Int))))
 (fun x_3 =>
  idx from_1_0 k_0 fun x37 =>
  some (from_1_0.set k_0.toNat x_3)))
theorem playlist_Spread_1_58_v1_ok (n : Nat) (k_0 : Int) (from_1_0 : (List (List Int))) (from_1_1 : Int) (from_1_2 : (List (List Int))) (from_1_3 : Int) (a_2 : (List S_api_Segment)) (from_1_0b : Nat) (from_1_0v : Value) (from_1_1b : Nat) (from_1_2b : Nat) (from_1_2v : Value) (from_1_3b : Nat) (a_2b : Nat) (a_2v : Value) {r : (List (List Int))} (h : playlist_Spread_1_58_v1 n k_0 from_1_0 from_1_1 from_1_2 from_1_3 a_2 = some r) :
  Meets Tryz.prog 58 [.int .i64 k_0, .func (.func 63) #[] #[boxP from_1_0b 0, boxP from_1_1b 0, boxP from_1_2b 0, boxP from_1_3b 0], boxP a_2b 0, boxP from_1_0b 0] [nrow from_1_0v NC_L_int_43 from_1_0, box from_1_0b [from_1_0v], box from_1_1b [.int .i64 from_1_1], nro from_1_2v NC_L_int_43 from_1_2, box from_1_2b [from_1_2v], box from_1_3b [.int .i64 from_1_3], ro a_2v 20 (a_2.map S_api_Segment.enc), box a_2b [a_2v]] (fun v G => ∃ v0, v = .tuple #[] ∧ G = [nrow v0 NC_L_int_43 r, box from_1_0b [v0], box from_1_1b [.int .i64 from_1_1], box from_1_2b [from_1_2v], box from_1_3b [.int .i64 from_1_3], box a_2b [a_2v]]) := by
 refine fn_of_run Tryz.func58 rfl Tryz.ntmps58 rfl (fun w0 o0 => ?_)
 refine run_seq ?_
 refine run_region' ?_
 refine oy rfl rfl (y_load_box 7 Tryz.isAgg22 rfl rfl rfl) ?_
 refine oy rfl rfl ((y_len 6 rfl Tryz.runUnderlying22 rfl rfl reads_ro).to (v_len S_api_Segment.enc _)) ?_
 obtain ⟨hm2, h⟩ := need_some h
 refine ot rfl rfl (t_makeSlice (es := 1) Tryz.runUnderlying43 Tryz.typeInfo3 rfl Tryz.zeroValue3 rfl (by decide) rfl rfl hm2.1 hm2.2 (by decide)) ?_
 rintro v1 _ rfl
 refine ops_turn (retell 8 (g := row v1 1 ((List.replicate ((a_2.length : Int)).toNat (0 : Int)).map (eInt .i64))) rfl (congrArg (row _ _) (map_rep rfl))) ?_
 refine oy rfl rfl (y_assign rfl) ?_
 refine ops_nil ?_
 refine goes_code ?_
 obtain ⟨o4, h, ho5⟩ := bindJ_some h
 refine run_cut (((List Int)) × (Unit)) (fun σ => [(0, .int .i64 k_0), (3, boxP from_1_0b 0), (6, v1)]) (fun σ => [box from_1_0b [from_1_0v], nrow from_1_0v NC_L_int_43 from_1_0, row v1 1 (σ.1.map (eInt .i64)), box from_1_1b [.int .i64 from_1_1], box from_1_2b [from_1_2v], nro from_1_2v NC_L_int_43 from_1_2, box from_1_3b [.int .i64 from_1_3], box a_2b [a_2v], ro a_2v 20 (a_2.map S_api_Segment.enc)]) (fun σ => o4 = .go σ.1) (fun L7 hL6 => ?_) ?_
 ·
  refine run_seq ?_
  refine run_region' ?_
  refine oy rfl rfl (y_load_box 7 Tryz.isAgg22 rfl rfl rfl) ?_
  refine oy rfl rfl ((y_len 6 rfl Tryz.runUnderlying22 rfl rfl reads_ro).to (v_len S_api_Segment.enc _)) ?_
  refine oy rfl rfl (y_move rfl) ?_
  refine ops_nil ?_
  refine goes_code ?_
  refine run_block ?_
  refine run_iter (step := playlist_Spread_1_58_v1_L1 from_1_0 from_1_1 from_1_2 from_1_3 a_2) (n := n) (s0 := (0, (List.replicate ((a_2.length : Int)).toNat (0 : Int)))) h (G := Unit) () (fun σ γ => [(13, .int .i64 σ.1), (0, .int .i64 k_0), (1, .func (.func 63) #[] #[boxP from_1_0b 0, boxP from_1_1b 0, boxP from_1_2b 0, boxP from_1_3b 0]), (3, boxP from_1_0b 0), (6, v1), (12, .int .i64 (a_2.length : Int))]) (fun σ γ => [box from_1_0b [from_1_0v], nrow from_1_0v NC_L_int_43 from_1_0, box from_1_1b [.int .i64 from_1_1], box from_1_2b [from_1_2v], nro from_1_2v NC_L_int_43 from_1_2, box from_1_3b [.int .i64 from_1_3], row v1 1 (σ.2.map (eInt .i64)), box a_2b [a_2v], ro a_2v 20 (a_2.map S_api_Segment.enc)]) [1, 0, 2, 4, 3, 5, 8, 7, 6] (qv6 rfl rfl rfl rfl rfl rfl) (by decide) rfl ?_
  rintro ⟨s_8, x_9⟩ _ o10 h L13 hgo11 hstop12
  change Run _ _ _ (VF.of [(13, .int .i64 s_8), (0, .int .i64 k_0), (1, .func (.func 63) #[] #[boxP from_1_0b 0, boxP from_1_1b 0, boxP from_1_2b 0, boxP from_1_3b 0]), (3, boxP from_1_0b 0), (6, v1), (12, .int .i64 (a_2.length : Int))]) [box from_1_0b [from_1_0v], nrow from_1_0v NC_L_int_43 from_1_0, box from_1_1b [.int .i64 from_1_1], box from_1_2b [from_1_2v], nro from_1_2v NC_L_int_43 from_1_2, box from_1_3b [.int .i64 from_1_3], row v1 1 (x_9.map (eInt .i64)), box a_2b [a_2v], ro a_2v 20 (a_2.map S_api_Segment.enc)]
  refine run_seq ?_
  refine run_region' ?_
  refine oy rfl rfl (y_lss rfl rfl) ?_
  refine ops_nil ?_
  refine goes_code ?_
  refine run_seq ?_
  refine run_cond (decide (s_8 < (a_2.length : Int))) rfl (fun hc14 => ?_) (fun hc14 => ?_)
  ·replace h := cond_t h hc14
   refine run_skip ?_
   refine goes_code ?_
   obtain ⟨o16, h, ho17⟩ := bindJ_some h
   refine run_cut (((List Int)) × (Unit)) (fun σ => [(0, .int .i64 k_0), (1, .func (.func 63) #[] #[boxP from_1_0b 0, boxP from_1_1b 0, boxP from_1_2b 0, boxP from_1_3b 0]), (3, boxP from_1_0b 0), (6, v1), (12, .int .i64 (a_2.length : Int)), (13, .int .i64 s_8)]) (fun σ => [box from_1_0b [from_1_0v], nrow from_1_0v NC_L_int_43 from_1_0, box from_1_1b [.int .i64 from_1_1], box from_1_2b [from_1_2v], nro from_1_2v NC_L_int_43 from_1_2, box from_1_3b [.int .i64 from_1_3], row v1 1 (σ.1.map (eInt .i64)), box a_2b [a_2v], ro a_2v 20 (a_2.map S_api_Segment.enc)]) (fun σ => o16 = .go σ.1) (fun L19 hL18 => ?_) ?_
   ·
    refine run_block ?_
    refine run_seq ?_
    refine run_region' ?_
    refine oy rfl rfl (y_move rfl) ?_
    refine oy rfl rfl (y_assign rfl) ?_
    refine ops_nil ?_
    refine goes_code ?_
    refine run_seq ?_
    refine run_region' ?_
    refine oy rfl rfl (y_move rfl) ?_
    refine oy rfl rfl (y_move rfl) ?_
    refine oy rfl rfl (y_move rfl) ?_
    refine oy rfl rfl (y_move rfl) ?_
    obtain ⟨r20, hr21, h⟩ := obind_some h
    refine ot rfl rfl (t_callx (vs := [.int .i64 s_8]) (cs := [boxP from_1_0b 0, boxP from_1_1b 0, boxP from_1_2b 0, boxP from_1_3b 0]) [(1, 2), (0, 2), (2, 2), (4, 0), (3, 2), (5, 2)] rfl Tryz.call63 rfl (playlist_Spread_4_63_ok s_8 from_1_0 from_1_1 from_1_2 from_1_3 from_1_0b from_1_0v from_1_1b from_1_2b from_1_2v from_1_3b hr21) (showsX_lend 1 rfl (showsX_lend 0 rfl (showsX_lend 2 rfl (showsX_view 4 rfl views_nro (showsX_lend 3 rfl (showsX_lend 5 rfl showsX_nil)))))) rfl (.inl rfl)) ?_
    rintro _ _ ⟨_, ⟨rfl, rfl⟩, rfl⟩
    obtain ⟨x22, hzx22, hlx22, hxx22, h⟩ := idx_some h
    refine oy rfl rfl (y_indexAddrI (kd := .i64) (i := s_8) 6 Tryz.runUnderlying43 Tryz.sizeOf3 rfl rfl rfl reads_row hzx22 (map_lt hlx22)) ?_
    refine ot rfl rfl (t_store_row (i := s_8.toNat) (j := 0) (c := (eInt .i64) x22) 6 Tryz.sizeOf3 rfl rfl rfl rfl (map_get hxx22) (by decide) (by simp [Value.cells, Value.oneCell', boxP])) ?_
    rintro _ _ ⟨rfl, rfl⟩
    obtain hxx23 : ((x_9.set s_8.toNat r20) : List Int)[s_8.toNat]? = some r20 := set_at hlx22
    obtain hlx23 : s_8.toNat < ((x_9.set s_8.toNat r20) : List Int).length := set_lt hlx22
    obtain hzx23 : (0 : Int) ≤ s_8 := id hzx22
    refine ops_turn (retell 6 (g := row v1 1 ((x_9.set s_8.toNat r20).map (eInt .i64))) rfl (congrArg (row _ _) (map_set_at rfl))) ?_
    refine ops_nil ?_
    refine goes_code ?_
    refine run_seq ?_
    refine run_weak [(13, .int .i64 s_8), (0, .int .i64 k_0), (1, .func (.func 63) #[] #[boxP from_1_0b 0, boxP from_1_1b 0, boxP from_1_2b 0, boxP from_1_3b 0]), (3, boxP from_1_0b 0), (6, v1), (12, .int .i64 (a_2.length : Int)), (7, .int .i64 s_8)] [4, 6, 7, 8, 9, 10, 11, 12, 13] [nro from_1_2v NC_L_int_43 from_1_2, row v1 1 ((x_9.set s_8.toNat r20).map (eInt .i64)), box a_2b [a_2v], ro a_2v 20 (a_2.map S_api_Segment.enc), nrow from_1_0v NC_L_int_43 from_1_0, box from_1_0b [from_1_0v], box from_1_1b [.int .i64 from_1_1], box from_1_2b [from_1_2v], box from_1_3b [.int .i64 from_1_3]] (qv7 rfl rfl rfl rfl rfl rfl rfl) (by decide) rfl ?_
    refine run_region' ?_
    refine oy rfl rfl (y_move rfl) ?_
    refine oy rfl rfl (y_gtr rfl rfl) ?_
    refine ops_nil ?_
    refine goes_code ?_
    refine run_cond (decide (0 < s_8)) rfl (fun hc24 => ?_) (fun hc24 => ?_)
    ·replace h := cond_t h hc24
     obtain ⟨x25, hzx25, hlx25, hxx25, h⟩ := idx_some h
     obtain hxx26 : (((x_9.set s_8.toNat r20).set s_8.toNat (max r20 x25)) : List Int)[s_8.toNat]? = some (max r20 x25) := set_at hlx23
     obtain hlx26 : s_8.toNat < (((x_9.set s_8.toNat r20).set s_8.toNat (max r20 x25)) : List Int).length := set_lt hlx23
     obtain hzx26 : (0 : Int) ≤ s_8 := id hzx23
     refine run_drawany [nro from_1_2v NC_L_int_43 from_1_2, HA.emp, box a_2b [a_2v], ro a_2v 20 (a_2.map S_api_Segment.enc), nrow from_1_0v NC_L_int_43 from_1_0, box from_1_0b [from_1_0v], box from_1_1b [.int .i64 from_1_1], box from_1_2b [from_1_2v], box from_1_3b [.int .i64 from_1_3]] (by kernel_rfl) ?_
     refine any_y 0 rfl (by kernel_rfl) (by kernel_rfl) (by kernel_rfl) (ss (se (ss (ss (ss (ss (ss (ss (ss (sn)))))))))) (wn rfl) rfl (y_move rfl) ?_
     refine any_y 1 rfl (by kernel_rfl) (by kernel_rfl) (by kernel_rfl) (ss (se (ss (ss (ss (ss (ss (ss (ss (sn)))))))))) (wn rfl) rfl (y_move rfl) ?_
     refine any_y 2 rfl (by kernel_rfl) (by kernel_rfl) (by kernel_rfl) (ss (se (ss (ss (ss (ss (ss (ss (ss (sn)))))))))) (wn rfl) rfl (y_move rfl) ?_
     refine any_y 3 rfl (by kernel_rfl) (by kernel_rfl) (by kernel_rfl) (ss (se (ss (ss (ss (ss (ss (ss (ss (sn)))))))))) (wn rfl) rfl (y_move rfl) ?_
     refine any_y 6 rfl (by kernel_rfl) (by kernel_rfl) (by kernel_rfl) (ss (se (ss (ss (ss (ss (ss (ss (ss (sn)))))))))) (wn rfl) rfl (y_move rfl) ?_
     refine any_y 7 rfl (by kernel_rfl) (by kernel_rfl) (by kernel_rfl) (ss (se (ss (ss (ss (ss (ss (ss (ss (sn)))))))))) (wn rfl) rfl (y_move rfl) ?_
     refine any_y 8 rfl (by kernel_rfl) (by kernel_rfl) (by kernel_rfl) (ss (se (ss (ss (ss (ss (ss (ss (ss (sn)))))))))) (wn rfl) rfl (y_sub rfl rfl) ?_
     refine any_cut2 #[true, true, true, true, true, true, true, true, true, true, true, true, true, true] 0 (Unit) (fun σ => [(13, .int .i64 s_8), (0, .int .i64 k_0), (1, .func (.func 63) #[] #[boxP from_1_0b 0, boxP from_1_1b 0, boxP from_1_2b 0, boxP from_1_3b 0]), (3, boxP from_1_0b 0), (6, v1), (12, .int .i64 (a_2.length : Int))]) (fun σ => [nro from_1_2v NC_L_int_43 from_1_2, row v1 1 (((x_9.set s_8.toNat r20).set s_8.toNat (max r20 x25)).map (eInt .i64)), box a_2b [a_2v], ro a_2v 20 (a_2.map S_api_Segment.enc), nrow from_1_0v NC_L_int_43 from_1_0, box from_1_0b [from_1_0v], box from_1_1b [.int .i64 from_1_1], box from_1_2b [from_1_2v], box from_1_3b [.int .i64 from_1_3]]) ?_ (fun hK27 => ?_)
     ·rintro _
      change AnyL _ _ _ _ _ (VF.of [(13, .int .i64 s_8), (0, .int .i64 k_0), (1, .func (.func 63) #[] #[boxP from_1_0b 0, boxP from_1_1b 0, boxP from_1_2b 0, boxP from_1_3b 0]), (3, boxP from_1_0b 0), (6, v1), (12, .int .i64 (a_2.length : Int))]) [nro from_1_2v NC_L_int_43 from_1_2, row v1 1 (((x_9.set s_8.toNat r20).set s_8.toNat (max r20 x25)).map (eInt .i64)), box a_2b [a_2v], ro a_2v 20 (a_2.map S_api_Segment.enc), nrow from_1_0v NC_L_int_43 from_1_0, box from_1_0b [from_1_0v], box from_1_1b [.int .i64 from_1_1], box from_1_2b [from_1_2v], box from_1_3b [.int .i64 from_1_3]] _
      refine any_nil (by kernel_rfl) ?_
      refine goes_blk ?_
      obtain rfl := some_eq h
      exact goes_cut hL18 (((x_9.set s_8.toNat r20).set s_8.toNat (max r20 x25)), ()) [5, 4, 6, 7, 0, 8, 1, 2, 3] (qv6 rfl rfl rfl rfl rfl rfl) (by decide) rfl rfl
     refine any_cut2 #[true, true, true, true, true, true, true, true, true, true, true, true, true, false] 1 (Unit) (fun σ => [(13, .int .i64 s_8), (0, .int .i64 k_0), (1, .func (.func 63) #[] #[boxP from_1_0b 0, boxP from_1_1b 0, boxP from_1_2b 0, boxP from_1_3b 0]), (3, boxP from_1_0b 0), (6, v1), (12, .int .i64 (a_2.length : Int)), (35, .int .i64 (max r20 x25)), (36, elemP v1 (s_8.toNat * 1))]) (fun σ => [nro from_1_2v NC_L_int_43 from_1_2, row v1 1 ((x_9.set s_8.toNat r20).map (eInt .i64)), box a_2b [a_2v], ro a_2v 20 (a_2.map S_api_Segment.enc), nrow from_1_0v NC_L_int_43 from_1_0, box from_1_0b [from_1_0v], box from_1_1b [.int .i64 from_1_1], box from_1_2b [from_1_2v], box from_1_3b [.int .i64 from_1_3]]) ?_ (fun hK28 => ?_)
     ·rintro _
      change AnyL _ _ _ _ _ (VF.of [(13, .int .i64 s_8), (0, .int .i64 k_0), (1, .func (.func 63) #[] #[boxP from_1_0b 0, boxP from_1_1b 0, boxP from_1_2b 0, boxP from_1_3b 0]), (3, boxP from_1_0b 0), (6, v1), (12, .int .i64 (a_2.length : Int)), (35, .int .i64 (max r20 x25)), (36, elemP v1 (s_8.toNat * 1))]) [nro from_1_2v NC_L_int_43 from_1_2, row v1 1 ((x_9.set s_8.toNat r20).map (eInt .i64)), box a_2b [a_2v], ro a_2v 20 (a_2.map S_api_Segment.enc), nrow from_1_0v NC_L_int_43 from_1_0, box from_1_0b [from_1_0v], box from_1_1b [.int .i64 from_1_1], box from_1_2b [from_1_2v], box from_1_3b [.int .i64 from_1_3]] _
      refine any_all [13] (by kernel_rfl) rfl ?_
      refine anyo_cons ?_ ?_
      ·
       refine any_t rfl (wn rfl) rfl (t_store_row (i := s_8.toNat) (j := 0) (c := (eInt .i64) r20) 1 Tryz.sizeOf3 rfl rfl rfl rfl (map_get hxx23) (by decide) (by simp [Value.cells, Value.oneCell', boxP])) ?_
       rintro _ _ ⟨rfl, rfl⟩
       refine ⟨(ss (se (ss (ss (ss (ss (ss (ss (ss (sn)))))))))), ?_⟩
       refine any_turn (retell 1 (g := row v1 1 (((x_9.set s_8.toNat r20).set s_8.toNat (max r20 x25)).map (eInt .i64))) rfl (congrArg (row _ _) (map_set_at rfl))) ?_
       exact any_weak2 (hK27 ()) [0, 1, 2, 3, 4, 5, 6, 7, 8] (by kernel_rfl) (qv6 rfl rfl rfl rfl rfl rfl) (by decide) rfl
      exact anyo_nil
     refine any_cut2 #[true, true, true, true, true, true, true, true, true, true, true, true, false, false] 2 (Unit) (fun σ => [(13, .int .i64 s_8), (0, .int .i64 k_0), (1, .func (.func 63) #[] #[boxP from_1_0b 0, boxP from_1_1b 0, boxP from_1_2b 0, boxP from_1_3b 0]), (3, boxP from_1_0b 0), (6, v1), (12, .int .i64 (a_2.length : Int)), (24, v1), (25, .int .i64 s_8), (35, .int .i64 (max r20 x25))]) (fun σ => [nro from_1_2v NC_L_int_43 from_1_2, row v1 1 ((x_9.set s_8.toNat r20).map (eInt .i64)), box a_2b [a_2v], ro a_2v 20 (a_2.map S_api_Segment.enc), nrow from_1_0v NC_L_int_43 from_1_0, box from_1_0b [from_1_0v], box from_1_1b [.int .i64 from_1_1], box from_1_2b [from_1_2v], box from_1_3b [.int .i64 from_1_3]]) ?_ (fun hK29 => ?_)
     ·rintro _
      change AnyL _ _ _ _ _ (VF.of [(13, .int .i64 s_8), (0, .int .i64 k_0), (1, .func (.func 63) #[] #[boxP from_1_0b 0, boxP from_1_1b 0, boxP from_1_2b 0, boxP from_1_3b 0]), (3, boxP from_1_0b 0), (6, v1), (12, .int .i64 (a_2.length : Int)), (24, v1), (25, .int .i64 s_8), (35, .int .i64 (max r20 x25))]) [nro from_1_2v NC_L_int_43 from_1_2, row v1 1 ((x_9.set s_8.toNat r20).map (eInt .i64)), box a_2b [a_2v], ro a_2v 20 (a_2.map S_api_Segment.enc), nrow from_1_0v NC_L_int_43 from_1_0, box from_1_0b [from_1_0v], box from_1_1b [.int .i64 from_1_1], box from_1_2b [from_1_2v], box from_1_3b [.int .i64 from_1_3]] _
      refine any_all [12] (by kernel_rfl) rfl ?_
      refine anyo_cons ?_ ?_
      ·
       refine any_ty rfl (wn rfl) rfl (y_indexAddrI (kd := .i64) (i := s_8) 1 Tryz.runUnderlying43 Tryz.sizeOf3 rfl rfl rfl reads_row hzx23 (map_lt hlx23)) ⟨(ss (se (ss (ss (ss (ss (ss (ss (ss (sn)))))))))), ?_⟩
       exact any_weak2 (hK28 ()) [0, 1, 2, 3, 4, 5, 6, 7, 8] (by kernel_rfl) (qv8 rfl rfl rfl rfl rfl rfl rfl rfl) (by decide) rfl
      exact anyo_nil
     refine any_cut2 #[true, true, true, true, true, true, true, true, true, true, false, false, false, false] 4 (Unit) (fun σ => [(13, .int .i64 s_8), (0, .int .i64 k_0), (1, .func (.func 63) #[] #[boxP from_1_0b 0, boxP from_1_1b 0, boxP from_1_2b 0, boxP from_1_3b 0]), (3, boxP from_1_0b 0), (6, v1), (12, .int .i64 (a_2.length : Int)), (24, v1), (25, .int .i64 s_8), (29, .int .i64 r20), (33, elemP v1 (((IntKind.i64.wrap (s_8 - 1))).toNat * 1))]) (fun σ => [nro from_1_2v NC_L_int_43 from_1_2, row v1 1 ((x_9.set s_8.toNat r20).map (eInt .i64)), box a_2b [a_2v], ro a_2v 20 (a_2.map S_api_Segment.enc), nrow from_1_0v NC_L_int_43 from_1_0, box from_1_0b [from_1_0v], box from_1_1b [.int .i64 from_1_1], box from_1_2b [from_1_2v], box from_1_3b [.int .i64 from_1_3]]) ?_ (fun hK30 => ?_)
     ·rintro _
      change AnyL _ _ _ _ _ (VF.of [(13, .int .i64 s_8), (0, .int .i64 k_0), (1, .func (.func 63) #[] #[boxP from_1_0b 0, boxP from_1_1b 0, boxP from_1_2b 0, boxP from_1_3b 0]), (3, boxP from_1_0b 0), (6, v1), (12, .int .i64 (a_2.length : Int)), (24, v1), (25, .int .i64 s_8), (29, .int .i64 r20), (33, elemP v1 (((IntKind.i64.wrap (s_8 - 1))).toNat * 1))]) [nro from_1_2v NC_L_int_43 from_1_2, row v1 1 ((x_9.set s_8.toNat r20).map (eInt .i64)), box a_2b [a_2v], ro a_2v 20 (a_2.map S_api_Segment.enc), nrow from_1_0v NC_L_int_43 from_1_0, box from_1_0b [from_1_0v], box from_1_1b [.int .i64 from_1_1], box from_1_2b [from_1_2v], box from_1_3b [.int .i64 from_1_3]] _
      refine any_all [10] (by kernel_rfl) rfl ?_
      refine anyo_cons ?_ ?_
      ·
       refine any_ty rfl (wn rfl) rfl (y_load_elem (i := ((IntKind.i64.wrap (s_8 - 1))).toNat) 1 Tryz.isAgg3 rfl rfl reads_row (map_get hxx25)) ⟨(ss (se (ss (ss (ss (ss (ss (ss (ss (sn)))))))))), ?_⟩
       refine any_y 11 rfl (by kernel_rfl) (by kernel_rfl) (by kernel_rfl) (ss (se (ss (ss (ss (ss (ss (ss (ss (sn)))))))))) (wn rfl) rfl (y_max rfl rfl) ?_
       exact any_weak2 (hK29 ()) [0, 1, 2, 3, 4, 5, 6, 7, 8] (by kernel_rfl) (qv9 rfl rfl rfl rfl rfl rfl rfl rfl rfl) (by decide) rfl
      exact anyo_nil
     refine any_cut2 #[true, true, true, true, true, false, true, true, true, true, true, false, false, false] 4 (Unit) (fun σ => [(13, .int .i64 s_8), (0, .int .i64 k_0), (1, .func (.func 63) #[] #[boxP from_1_0b 0, boxP from_1_1b 0, boxP from_1_2b 0, boxP from_1_3b 0]), (3, boxP from_1_0b 0), (6, v1), (12, .int .i64 (a_2.length : Int)), (24, v1), (25, .int .i64 s_8), (28, elemP v1 (s_8.toNat * 1)), (34, .int .i64 x25)]) (fun σ => [nro from_1_2v NC_L_int_43 from_1_2, row v1 1 ((x_9.set s_8.toNat r20).map (eInt .i64)), box a_2b [a_2v], ro a_2v 20 (a_2.map S_api_Segment.enc), nrow from_1_0v NC_L_int_43 from_1_0, box from_1_0b [from_1_0v], box from_1_1b [.int .i64 from_1_1], box from_1_2b [from_1_2v], box from_1_3b [.int .i64 from_1_3]]) ?_ (fun hK31 => ?_)
     ·rintro _
      change AnyL _ _ _ _ _ (VF.of [(13, .int .i64 s_8), (0, .int .i64 k_0), (1, .func (.func 63) #[] #[boxP from_1_0b 0, boxP from_1_1b 0, boxP from_1_2b 0, boxP from_1_3b 0]), (3, boxP from_1_0b 0), (6, v1), (12, .int .i64 (a_2.length : Int)), (24, v1), (25, .int .i64 s_8), (28, elemP v1 (s_8.toNat * 1)), (34, .int .i64 x25)]) [nro from_1_2v NC_L_int_43 from_1_2, row v1 1 ((x_9.set s_8.toNat r20).map (eInt .i64)), box a_2b [a_2v], ro a_2v 20 (a_2.map S_api_Segment.enc), nrow from_1_0v NC_L_int_43 from_1_0, box from_1_0b [from_1_0v], box from_1_1b [.int .i64 from_1_1], box from_1_2b [from_1_2v], box from_1_3b [.int .i64 from_1_3]] _
      refine any_all [5] (by kernel_rfl) rfl ?_
      refine anyo_cons ?_ ?_
      ·
       refine any_ty rfl (wn rfl) rfl (y_load_elem (i := s_8.toNat) 1 Tryz.isAgg3 rfl rfl reads_row (map_get hxx23)) ⟨(ss (se (ss (ss (ss (ss (ss (ss (ss (sn)))))))))), ?_⟩
       refine any_y 11 rfl (by kernel_rfl) (by kernel_rfl) (by kernel_rfl) (ss (se (ss (ss (ss (ss (ss (ss (ss (sn)))))))))) (wn rfl) rfl (y_max rfl rfl) ?_
       exact any_weak2 (hK29 ()) [0, 1, 2, 3, 4, 5, 6, 7, 8] (by kernel_rfl) (qv9 rfl rfl rfl rfl rfl rfl rfl rfl rfl) (by decide) rfl
      exact anyo_nil
     refine any_cut2 #[true, true, true, true, true, true, true, true, true, false, false, false, false, false] 5 (Unit) (fun σ => [(13, .int .i64 s_8), (0, .int .i64 k_0), (1, .func (.func 63) #[] #[boxP from_1_0b 0, boxP from_1_1b 0, boxP from_1_2b 0, boxP from_1_3b 0]), (3, boxP from_1_0b 0), (6, v1), (12, .int .i64 (a_2.length : Int)), (24, v1), (25, .int .i64 s_8), (30, v1), (32, .int .i64 (IntKind.i64.wrap (s_8 - 1))), (29, .int .i64 r20)]) (fun σ => [nro from_1_2v NC_L_int_43 from_1_2, row v1 1 ((x_9.set s_8.toNat r20).map (eInt .i64)), box a_2b [a_2v], ro a_2v 20 (a_2.map S_api_Segment.enc), nrow from_1_0v NC_L_int_43 from_1_0, box from_1_0b [from_1_0v], box from_1_1b [.int .i64 from_1_1], box from_1_2b [from_1_2v], box from_1_3b [.int .i64 from_1_3]]) ?_ (fun hK32 => ?_)
     ·rintro _
      change AnyL _ _ _ _ _ (VF.of [(13, .int .i64 s_8), (0, .int .i64 k_0), (1, .func (.func 63) #[] #[boxP from_1_0b 0, boxP from_1_1b 0, boxP from_1_2b 0, boxP from_1_3b 0]), (3, boxP from_1_0b 0), (6, v1), (12, .int .i64 (a_2.length : Int)), (24, v1), (25, .int .i64 s_8), (30, v1), (32, .int .i64 (IntKind.i64.wrap (s_8 - 1))), (29, .int .i64 r20)]) [nro from_1_2v NC_L_int_43 from_1_2, row v1 1 ((x_9.set s_8.toNat r20).map (eInt .i64)), box a_2b [a_2v], ro a_2v 20 (a_2.map S_api_Segment.enc), nrow from_1_0v NC_L_int_43 from_1_0, box from_1_0b [from_1_0v], box from_1_1b [.int .i64 from_1_1], box from_1_2b [from_1_2v], box from_1_3b [.int .i64 from_1_3]] _
      refine any_all [9] (by kernel_rfl) rfl ?_
      refine anyo_cons ?_ ?_
      ·
       refine any_ty rfl (wn rfl) rfl (y_indexAddrI (kd := .i64) (i := (IntKind.i64.wrap (s_8 - 1))) 1 Tryz.runUnderlying43 Tryz.sizeOf3 rfl rfl rfl reads_row hzx25 (map_lt hlx25)) ⟨(ss (se (ss (ss (ss (ss (ss (ss (ss (sn)))))))))), ?_⟩
       exact any_weak2 (hK30 ()) [0, 1, 2, 3, 4, 5, 6, 7, 8] (by kernel_rfl) (qv10 rfl rfl rfl rfl rfl rfl rfl rfl rfl rfl) (by decide) rfl
      exact anyo_nil
     refine any_cut2 #[true, true, true, true, true, false, true, true, true, true, false, false, false, false] 5 (Unit) (fun σ => [(13, .int .i64 s_8), (0, .int .i64 k_0), (1, .func (.func 63) #[] #[boxP from_1_0b 0, boxP from_1_1b 0, boxP from_1_2b 0, boxP from_1_3b 0]), (3, boxP from_1_0b 0), (6, v1), (12, .int .i64 (a_2.length : Int)), (24, v1), (25, .int .i64 s_8), (28, elemP v1 (s_8.toNat * 1)), (33, elemP v1 (((IntKind.i64.wrap (s_8 - 1))).toNat * 1))]) (fun σ => [nro from_1_2v NC_L_int_43 from_1_2, row v1 1 ((x_9.set s_8.toNat r20).map (eInt .i64)), box a_2b [a_2v], ro a_2v 20 (a_2.map S_api_Segment.enc), nrow from_1_0v NC_L_int_43 from_1_0, box from_1_0b [from_1_0v], box from_1_1b [.int .i64 from_1_1], box from_1_2b [from_1_2v], box from_1_3b [.int .i64 from_1_3]]) ?_ (fun hK33 => ?_)
     ·rintro _
      change AnyL _ _ _ _ _ (VF.of [(13, .int .i64 s_8), (0, .int .i64 k_0), (1, .func (.func 63) #[] #[boxP from_1_0b 0, boxP from_1_1b 0, boxP from_1_2b 0, boxP from_1_3b 0]), (3, boxP from_1_0b 0), (6, v1), (12, .int .i64 (a_2.length : Int)), (24, v1), (25, .int .i64 s_8), (28, elemP v1 (s_8.toNat * 1)), (33, elemP v1 (((IntKind.i64.wrap (s_8 - 1))).toNat * 1))]) [nro from_1_2v NC_L_int_43 from_1_2, row v1 1 ((x_9.set s_8.toNat r20).map (eInt .i64)), box a_2b [a_2v], ro a_2v 20 (a_2.map S_api_Segment.enc), nrow from_1_0v NC_L_int_43 from_1_0, box from_1_0b [from_1_0v], box from_1_1b [.int .i64 from_1_1], box from_1_2b [from_1_2v], box from_1_3b [.int .i64 from_1_3]] _
      refine any_all [5, 10] (by kernel_rfl) rfl ?_
      refine anyo_cons ?_ ?_
      ·
       refine any_ty rfl (wn rfl) rfl (y_load_elem (i := s_8.toNat) 1 Tryz.isAgg3 rfl rfl reads_row (map_get hxx23)) ⟨(ss (se (ss (ss (ss (ss (ss (ss (ss (sn)))))))))), ?_⟩
       exact any_weak2 (hK30 ()) [0, 1, 2, 3, 4, 5, 6, 7, 8] (by kernel_rfl) (qv10 rfl rfl rfl rfl rfl rfl rfl rfl rfl rfl) (by decide) rfl
      refine anyo_cons ?_ ?_
      ·
       refine any_ty rfl (wn rfl) rfl (y_load_elem (i := ((IntKind.i64.wrap (s_8 - 1))).toNat) 1 Tryz.isAgg3 rfl rfl reads_row (map_get hxx25)) ⟨(ss (se (ss (ss (ss (ss (ss (ss (ss (sn)))))))))), ?_⟩
       exact any_weak2 (hK31 ()) [0, 1, 2, 3, 4, 5, 6, 7, 8] (by kernel_rfl) (qv10 rfl rfl rfl rfl rfl rfl rfl rfl rfl rfl) (by decide) rfl
      exact anyo_nil
     refine any_cut2 #[true, true, true, true, false, false, true, true, true, true, true, false, false, false] 5 (Unit) (fun σ => [(13, .int .i64 s_8), (0, .int .i64 k_0), (1, .func (.func 63) #[] #[boxP from_1_0b 0, boxP from_1_1b 0, boxP from_1_2b 0, boxP from_1_3b 0]), (3, boxP from_1_0b 0), (6, v1), (12, .int .i64 (a_2.length : Int)), (24, v1), (25, .int .i64 s_8), (26, v1), (27, .int .i64 s_8), (34, .int .i64 x25)]) (fun σ => [nro from_1_2v NC_L_int_43 from_1_2, row v1 1 ((x_9.set s_8.toNat r20).map (eInt .i64)), box a_2b [a_2v], ro a_2v 20 (a_2.map S_api_Segment.enc), nrow from_1_0v NC_L_int_43 from_1_0, box from_1_0b [from_1_0v], box from_1_1b [.int .i64 from_1_1], box from_1_2b [from_1_2v], box from_1_3b [.int .i64 from_1_3]]) ?_ (fun hK34 => ?_)
     ·rintro _
      change AnyL _ _ _ _ _ (VF.of [(13, .int .i64 s_8), (0, .int .i64 k_0), (1, .func (.func 63) #[] #[boxP from_1_0b 0, boxP from_1_1b 0, boxP from_1_2b 0, boxP from_1_3b 0]), (3, boxP from_1_0b 0), (6, v1), (12, .int .i64 (a_2.length : Int)), (24, v1), (25, .int .i64 s_8), (26, v1), (27, .int .i64 s_8), (34, .int .i64 x25)]) [nro from_1_2v NC_L_int_43 from_1_2, row v1 1 ((x_9.set s_8.toNat r20).map (eInt .i64)), box a_2b [a_2v], ro a_2v 20 (a_2.map S_api_Segment.enc), nrow from_1_0v NC_L_int_43 from_1_0, box from_1_0b [from_1_0v], box from_1_1b [.int .i64 from_1_1], box from_1_2b [from_1_2v], box from_1_3b [.int .i64 from_1_3]] _
      refine any_all [4] (by kernel_rfl) rfl ?_
      refine anyo_cons ?_ ?_
      ·
       refine any_ty rfl (wn rfl) rfl (y_indexAddrI (kd := .i64) (i := s_8) 1 Tryz.runUnderlying43 Tryz.sizeOf3 rfl rfl rfl reads_row hzx23 (map_lt hlx23)) ⟨(ss (se (ss (ss (ss (ss (ss (ss (ss (sn)))))))))), ?_⟩
       exact any_weak2 (hK31 ()) [0, 1, 2, 3, 4, 5, 6, 7, 8] (by kernel_rfl) (qv10 rfl rfl rfl rfl rfl rfl rfl rfl rfl rfl) (by decide) rfl
      exact anyo_nil
     refine any_cut2 #[true, true, true, true, true, false, true, true, true, false, false, false, false, false] 6 (Unit) (fun σ => [(13, .int .i64 s_8), (0, .int .i64 k_0), (1, .func (.func 63) #[] #[boxP from_1_0b 0, boxP from_1_1b 0, boxP from_1_2b 0, boxP from_1_3b 0]), (3, boxP from_1_0b 0), (6, v1), (12, .int .i64 (a_2.length : Int)), (24, v1), (25, .int .i64 s_8), (30, v1), (32, .int .i64 (IntKind.i64.wrap (s_8 - 1))), (28, elemP v1 (s_8.toNat * 1))]) (fun σ => [nro from_1_2v NC_L_int_43 from_1_2, row v1 1 ((x_9.set s_8.toNat r20).map (eInt .i64)), box a_2b [a_2v], ro a_2v 20 (a_2.map S_api_Segment.enc), nrow from_1_0v NC_L_int_43 from_1_0, box from_1_0b [from_1_0v], box from_1_1b [.int .i64 from_1_1], box from_1_2b [from_1_2v], box from_1_3b [.int .i64 from_1_3]]) ?_ (fun hK35 => ?_)
     ·rintro _
      change AnyL _ _ _ _ _ (VF.of [(13, .int .i64 s_8), (0, .int .i64 k_0), (1, .func (.func 63) #[] #[boxP from_1_0b 0, boxP from_1_1b 0, boxP from_1_2b 0, boxP from_1_3b 0]), (3, boxP from_1_0b 0), (6, v1), (12, .int .i64 (a_2.length : Int)), (24, v1), (25, .int .i64 s_8), (30, v1), (32, .int .i64 (IntKind.i64.wrap (s_8 - 1))), (28, elemP v1 (s_8.toNat * 1))]) [nro from_1_2v NC_L_int_43 from_1_2, row v1 1 ((x_9.set s_8.toNat r20).map (eInt .i64)), box a_2b [a_2v], ro a_2v 20 (a_2.map S_api_Segment.enc), nrow from_1_0v NC_L_int_43 from_1_0, box from_1_0b [from_1_0v], box from_1_1b [.int .i64 from_1_1], box from_1_2b [from_1_2v], box from_1_3b [.int .i64 from_1_3]] _
      refine any_all [5, 9] (by kernel_rfl) rfl ?_
      refine anyo_cons ?_ ?_
      ·
       refine any_ty rfl (wn rfl) rfl (y_load_elem (i := s_8.toNat) 1 Tryz.isAgg3 rfl rfl reads_row (map_get hxx23)) ⟨(ss (se (ss (ss (ss (ss (ss (ss (ss (sn)))))))))), ?_⟩
       exact any_weak2 (hK32 ()) [0, 1, 2, 3, 4, 5, 6, 7, 8] (by kernel_rfl) (qv11 rfl rfl rfl rfl rfl rfl rfl rfl rfl rfl rfl) (by decide) rfl
      refine anyo_cons ?_ ?_
      ·
       refine any_ty rfl (wn rfl) rfl (y_indexAddrI (kd := .i64) (i := (IntKind.i64.wrap (s_8 - 1))) 1 Tryz.runUnderlying43 Tryz.sizeOf3 rfl rfl rfl reads_row hzx25 (map_lt hlx25)) ⟨(ss (se (ss (ss (ss (ss (ss (ss (ss (sn)))))))))), ?_⟩
       exact any_weak2 (hK33 ()) [0, 1, 2, 3, 4, 5, 6, 7, 8] (by kernel_rfl) (qv10 rfl rfl rfl rfl rfl rfl rfl rfl rfl rfl) (by decide) rfl
      exact anyo_nil
     refine any_cut2 #[true, true, true, true, false, false, true, true, true, true, false, false, false, false] 6 (Unit) (fun σ => [(13, .int .i64 s_8), (0, .int .i64 k_0), (1, .func (.func 63) #[] #[boxP from_1_0b 0, boxP from_1_1b 0, boxP from_1_2b 0, boxP from_1_3b 0]), (3, boxP from_1_0b 0), (6, v1), (12, .int .i64 (a_2.length : Int)), (24, v1), (25, .int .i64 s_8), (26, v1), (27, .int .i64 s_8), (33, elemP v1 (((IntKind.i64.wrap (s_8 - 1))).toNat * 1))]) (fun σ => [nro from_1_2v NC_L_int_43 from_1_2, row v1 1 ((x_9.set s_8.toNat r20).map (eInt .i64)), box a_2b [a_2v], ro a_2v 20 (a_2.map S_api_Segment.enc), nrow from_1_0v NC_L_int_43 from_1_0, box from_1_0b [from_1_0v], box from_1_1b [.int .i64 from_1_1], box from_1_2b [from_1_2v], box from_1_3b [.int .i64 from_1_3]]) ?_ (fun hK36 => ?_)
     ·rintro _
      change AnyL _ _ _ _ _ (VF.of [(13, .int .i64 s_8), (0, .int .i64 k_0), (1, .func (.func 63) #[] #[boxP from_1_0b 0, boxP from_1_1b 0, boxP from_1_2b 0, boxP from_1_3b 0]), (3, boxP from_1_0b 0), (6, v1), (12, .int .i64 (a_2.length : Int)), (24, v1), (25, .int .i64 s_8), (26, v1), (27, .int .i64 s_8), (33, elemP v1 (((IntKind.i64.wrap (s_8 - 1))).toNat * 1))]) [nro from_1_2v NC_L_int_43 from_1_2, row v1 1 ((x_9.set s_8.toNat r20).map (eInt .i64)), box a_2b [a_2v], ro a_2v 20 (a_2.map S_api_Segment.enc), nrow from_1_0v NC_L_int_43 from_1_0, box from_1_0b [from_1_0v], box from_1_1b [.int .i64 from_1_1], box from_1_2b [from_1_2v], box from_1_3b [.int .i64 from_1_3]] _
      refine any_all [4, 10] (by kernel_rfl) rfl ?_
      refine anyo_cons ?_ ?_
      ·
       refine any_ty rfl (wn rfl) rfl (y_indexAddrI (kd := .i64) (i := s_8) 1 Tryz.runUnderlying43 Tryz.sizeOf3 rfl rfl rfl reads_row hzx23 (map_lt hlx23)) ⟨(ss (se (ss (ss (ss (ss (ss (ss (ss (sn)))))))))), ?_⟩
       exact any_weak2 (hK33 ()) [0, 1, 2, 3, 4, 5, 6, 7, 8] (by kernel_rfl) (qv10 rfl rfl rfl rfl rfl rfl rfl rfl rfl rfl) (by decide) rfl
      refine anyo_cons ?_ ?_
      ·
       refine any_ty rfl (wn rfl) rfl (y_load_elem (i := ((IntKind.i64.wrap (s_8 - 1))).toNat) 1 Tryz.isAgg3 rfl rfl reads_row (map_get hxx25)) ⟨(ss (se (ss (ss (ss (ss (ss (ss (ss (sn)))))))))), ?_⟩
       exact any_weak2 (hK34 ()) [0, 1, 2, 3, 4, 5, 6, 7, 8] (by kernel_rfl) (qv11 rfl rfl rfl rfl rfl rfl rfl rfl rfl rfl rfl) (by decide) rfl
      exact anyo_nil
     refine any_all [4, 9] (by kernel_rfl) rfl ?_
     refine anyo_cons ?_ ?_
     ·
      refine any_ty rfl (wn rfl) rfl (y_indexAddrI (kd := .i64) (i := s_8) 1 Tryz.runUnderlying43 Tryz.sizeOf3 rfl rfl rfl reads_row hzx23 (map_lt hlx23)) ⟨(ss (se (ss (ss (ss (ss (ss (ss (ss (sn)))))))))), ?_⟩
      exact any_weak2 (hK35 ()) [0, 1, 2, 3, 4, 5, 6, 7, 8] (by kernel_rfl) (qv11 rfl rfl rfl rfl rfl rfl rfl rfl rfl rfl rfl) (by decide) rfl
     refine anyo_cons ?_ ?_
     ·
      refine any_ty rfl (wn rfl) rfl (y_indexAddrI (kd := .i64) (i := (IntKind.i64.wrap (s_8 - 1))) 1 Tryz.runUnderlying43 Tryz.sizeOf3 rfl rfl rfl reads_row hzx25 (map_lt hlx25)) ⟨(ss (se (ss (ss (ss (ss (ss (ss (ss (sn)))))))))), ?_⟩
      exact any_weak2 (hK36 ()) [0, 1, 2, 3, 4, 5, 6, 7, 8] (by kernel_rfl) (qv11 rfl rfl rfl rfl rfl rfl rfl rfl rfl rfl rfl) (by decide) rfl
     exact anyo_nil
    ·replace h := cond_f h hc24
     refine run_skip ?_
     refine goes_blk ?_
     obtain rfl := some_eq h
     exact goes_cut hL18 ((x_9.set s_8.toNat r20), ()) [5, 4, 6, 7, 0, 8, 1, 2, 3] (qv6 rfl rfl rfl rfl rfl rfl) (by decide) rfl rfl
   rintro ⟨x_15, _⟩ hj
   obtain rfl : o16 = _ := hj
   replace h := after_go ho17
   clear ho17
   change Run _ _ _ (VF.of [(0, .int .i64 k_0), (1, .func (.func 63) #[] #[boxP from_1_0b 0, boxP from_1_1b 0, boxP from_1_2b 0, boxP from_1_3b 0]), (3, boxP from_1_0b 0), (6, v1), (12, .int .i64 (a_2.length : Int)), (13, .int .i64 s_8)]) [box from_1_0b [from_1_0v], nrow from_1_0v NC_L_int_43 from_1_0, box from_1_1b [.int .i64 from_1_1], box from_1_2b [from_1_2v], nro from_1_2v NC_L_int_43 from_1_2, box from_1_3b [.int .i64 from_1_3], row v1 1 (x_15.map (eInt .i64)), box a_2b [a_2v], ro a_2v 20 (a_2.map S_api_Segment.enc)]
   refine run_region' ?_
   refine oy rfl rfl (y_add rfl rfl) ?_
   refine oy rfl rfl (y_move rfl) ?_
   refine ops_nil ?_
   obtain rfl := some_eq h
   exact goes_iter hgo11 ((IntKind.i64.wrap (s_8 + 1)), x_15) () [0, 1, 2, 3, 4, 5, 6, 7, 8] rfl (qv6 rfl rfl rfl rfl rfl rfl) (by decide) rfl
  ·replace h := cond_f h hc14
   refine run_exit _ rfl ?_
   obtain rfl := some_eq h
   obtain rfl := hstop12 _ rfl
   exact goes_cut hL6 (x_9, ()) [0, 1, 6, 2, 3, 4, 5, 7, 8] (qv3 rfl rfl rfl) (by decide) rfl rfl
 rintro ⟨x_3, _⟩ hj
 obtain rfl : o4 = _ := hj
 replace h := after_go ho5
 clear ho5
 change Run _ _ _ (VF.of [(0, .int .i64 k_0), (3, boxP from_1_0b 0), (6, v1)]) [box from_1_0b [from_1_0v], nrow from_1_0v NC_L_int_43 from_1_0, row v1 1 (x_3.map (eInt .i64)), box from_1_1b [.int .i64 from_1_1], box from_1_2b [from_1_2v], nro from_1_2v NC_L_int_43 from_1_2, box from_1_3b [.int .i64 from_1_3], box a_2b [a_2v], ro a_2v 20 (a_2.map S_api_Segment.enc)]
 refine run_region' ?_
 refine oy rfl rfl (y_load_box 0 Tryz.isAgg44 rfl rfl rfl) ?_
 refine oy rfl rfl (y_move rfl) ?_
 refine oy rfl rfl (y_move rfl) ?_
 obtain ⟨x37, hzx37, hlx37, hxx37, h⟩ := idx_some h
 refine oy rfl rfl (y_indexAddrN (kd := .i64) (i := k_0) 1 Tryz.runUnderlying44 Tryz.sizeOf43 rfl rfl rfl readsN_row hzx37 hlx37) ?_
 refine ops_turn (Go.Abs.freeze 2 rfl) ?_
 refine ops_slc 2 rfl reads_ro (fun hs38 hs38o => ?_)
 refine ot rfl rfl (t_storeN (C := NC_L_int_43) (i := k_0.toNat) (b := x_3) (gb := v1) 1 Tryz.sizeOf43 rfl rfl (by rw [hs38]; rfl) rfl hxx37 (has_cons 2 rfl has_nil)) ?_
 rintro _ _ ⟨rfl, rfl⟩
 refine ops_nil ?_
 refine goes_nil ?_
 obtain rfl := some_eq h
 refine fin_slots [] [] [1, 0, 3, 4, 6, 7] [nrow from_1_0v NC_L_int_43 (from_1_0.set k_0.toNat x_3), box from_1_0b [from_1_0v], box from_1_1b [.int .i64 from_1_1], box from_1_2b [from_1_2v], box from_1_3b [.int .i64 from_1_3], box a_2b [a_2v]] Tryz.results58 rfl (by decide) rfl ?_
 exact ⟨_, rfl, rfl⟩

def playlist_Spread_L1 (n : Nat) (l_0 : (List S_api_Segment)) (parents_1 : (List Int)) (delays_2 : (List (List Int))) : (Int × (List (List Int))) → Option (Lp (Int × (List (List Int))) (Lp ((List (List Int))) ((List (List Int)) × Int))) :=
 fun (k_31, x_32) =>
  cond (decide (k_31 < (parents_1.length : Int)))
   (idx parents_1 k_31 fun x40 =>
   bindJ (S := Bool)
    (cond (decide (x40 < 0) || decide (k_31 ≤ x40))
     (some (.go true))
     (idx delays_2 k_31 fun x51 =>
     some (.go (decide ((x51.length : Int) ≠ (l_0.length : Int))))))
   (fun b45 =>
    bindJ (S := Bool)
     (cond b45
      (some (.go true))
      (idx delays_2 k_31 fun x59 =>
      obind (slices_ContainsFunc_int_int_61 n x59) fun r61 =>
      some (.go r61)))
    (fun b53 =>
     cond b53
      (some (.stop (.stop (([] : List (List Int)), 1))))
      (obind (playlist_Spread_1_58_v1 n k_31 x_32 x40 delays_2 k_31 l_0) fun r64 =>
      some (.go ((IntKind.i64.wrap (k_31 + 1)), r64))))))
   (some (.stop (.go x_32)))
def playlist_Spread (n : Nat) (l_0 : (List S_api_Segment)) (parents_1 : (List Int)) (delays_2 : (List (List Int))) : Option ((List (List Int)) × Int) :=
 obind (playlist_stream n l_0) fun r5 =>
 cond ((((!r5) || decide ((parents_1.length : Int) < 1)) || decide (100 < (parents_1.length : Int))) || decide ((delays_2.length : Int) ≠ (parents_1.length : Int)))
  (some (([] : List (List Int)), 1))
  (need (0 ≤ (parents_1.length : Int) ∧ (parents_1.length : Int) ≤ 4294967296) (
  obind (playlist_Spread_1_58 n 0 l_0 (List.replicate ((parents_1.length : Int)).toNat ([] : (List Int)))) fun r21 =>
  bindJ (S := (List (List Int)))
   (iter (playlist_Spread_L1 n l_0 parents_1 delays_2) n (1, r21))
  (fun x_24 =>
   some (x_24, 0))))
theorem playlist_Spread_ok (n : Nat) (l_0 : (List S_api_Segment)) (parents_1 : (List Int)) (delays_2 : (List (List Int))) (l_0v : Value) (parents_1v : Value) (delays_2v : Value) {r : (List (List Int)) × Int} (h : playlist_Spread n l_0 parents_1 delays_2 = some r) :
  Meets Tryz.prog 17 [l_0v, parents_1v, delays_2v] [ro l_0v 20 (l_0.map S_api_Segment.enc), ro parents_1v 1 (parents_1.map (eInt .i64)), nro delays_2v NC_L_int_43 delays_2] (fun v G => ∃ v0, v = .tuple #[v0, .int .i64 r.2] ∧ G = [nrow v0 NC_L_int_43 r.1]) := by
 refine fn_of_run Tryz.func17 rfl Tryz.ntmps17 rfl (fun w0 o0 => ?_)
 refine run_seq ?_
 refine run_region' ?_
 refine ot rfl rfl (t_box rfl) ?_
 rintro _ _ ⟨b1, rfl, rfl⟩
 refine ops_slc 0 rfl reads_ro (fun hs2 hs2o => ?_)
 refine ops_turn (retell 3 (g := box b1 [l_0v]) rfl (by rw [hs2])) ?_
 refine ot rfl rfl (t_box rfl) ?_
 rintro _ _ ⟨b3, rfl, rfl⟩
 refine ops_slcN 2 rfl readsN_ro (fun hs4 hs4o => ?_)
 refine ops_turn (retell 4 (g := box b3 [delays_2v]) rfl (by rw [hs4])) ?_
 refine oy rfl rfl (y_assign rfl) ?_
 refine oy rfl rfl (y_assign rfl) ?_
 refine ops_nil ?_
 refine goes_code ?_
 refine run_seq ?_
 refine run_seq ?_
 refine run_region' ?_
 refine oy rfl rfl (y_load_box 3 Tryz.isAgg22 rfl rfl rfl) ?_
 obtain ⟨r5, hr6, h⟩ := obind_some h
 refine ot rfl rfl (t_callx (vs := [l_0v]) (cs := []) [(0, 0)] rfl Tryz.call57 rfl (playlist_stream_ok n l_0 l_0v hr6) (showsX_view 0 rfl views_ro showsX_nil) rfl (.inl rfl)) ?_
 rintro _ _ ⟨_, ⟨rfl, rfl⟩, rfl⟩
 refine oy rfl rfl (y_not rfl) ?_
 refine oy rfl rfl (y_move rfl) ?_
 refine ops_cut 4 (Bool) (fun σ => [(1, parents_1v), (3, boxP b1 0), (5, boxP b3 0), (19, .bool σ)]) (fun σ => [ro l_0v 20 (l_0.map S_api_Segment.enc), ro parents_1v 1 (parents_1.map (eInt .i64)), nro delays_2v NC_L_int_43 delays_2, box b1 [l_0v], box b3 [delays_2v]]) (fun σ => σ = ((!r5) || decide ((parents_1.length : Int) < 1))) (fun L7 hL8 => ?_) ?_
 ·refine ops_split 15 (!r5) rfl (fun hg9 => ?_) (fun hg9 => ?_)
  ·skip
   refine ops_no 3 false 15 rfl rfl rfl rfl rfl ?_
   refine ops_no 3 false 15 rfl rfl rfl rfl rfl ?_
   refine ops_no 3 false 15 rfl rfl rfl rfl rfl ?_
   refine oy rfl rfl (y_pick (b := true) rfl rfl) ?_
   refine ops_nil ?_
   exact goes_cut hL8 true [0, 1, 2, 3, 4] (qv4 rfl rfl rfl rfl) (by decide) rfl (by rw [hg9]; simp)
  ·skip
   refine ops_y (wg 3 false 15 rfl rfl rfl rfl) rfl (y_move rfl) ?_
   refine ops_y (wg 3 false 15 rfl rfl rfl rfl) rfl ((y_len 1 rfl Tryz.runUnderlying43 rfl rfl reads_ro).to (v_len (eInt .i64) _)) ?_
   refine ops_y (wg 3 false 15 rfl rfl rfl rfl) rfl (y_lss rfl rfl) ?_
   refine oy rfl rfl (y_pick (b := false) rfl rfl) ?_
   refine ops_nil ?_
   exact goes_cut hL8 (decide ((parents_1.length : Int) < 1)) [0, 1, 2, 3, 4] (qv4 rfl rfl rfl rfl) (by decide) rfl (by rw [hg9]; simp)
 rintro _ rfl
 refine oy rfl rfl (y_move rfl) ?_
 refine ops_cut 4 (Bool) (fun σ => [(1, parents_1v), (3, boxP b1 0), (5, boxP b3 0), (24, .bool σ)]) (fun σ => [ro l_0v 20 (l_0.map S_api_Segment.enc), ro parents_1v 1 (parents_1.map (eInt .i64)), nro delays_2v NC_L_int_43 delays_2, box b1 [l_0v], box b3 [delays_2v]]) (fun σ => σ = (((!r5) || decide ((parents_1.length : Int) < 1)) || decide (100 < (parents_1.length : Int)))) (fun L10 hL11 => ?_) ?_
 ·refine ops_split 20 ((!r5) || decide ((parents_1.length : Int) < 1)) rfl (fun hg12 => ?_) (fun hg12 => ?_)
  ·skip
   refine ops_no 8 false 20 rfl rfl rfl rfl rfl ?_
   refine ops_no 8 false 20 rfl rfl rfl rfl rfl ?_
   refine ops_no 8 false 20 rfl rfl rfl rfl rfl ?_
   refine oy rfl rfl (y_pick (b := true) rfl rfl) ?_
   refine ops_nil ?_
   exact goes_cut hL11 true [0, 1, 2, 3, 4] (qv4 rfl rfl rfl rfl) (by decide) rfl (by rw [hg12]; simp)
  ·skip
   refine ops_y (wg 8 false 20 rfl rfl rfl rfl) rfl (y_move rfl) ?_
   refine ops_y (wg 8 false 20 rfl rfl rfl rfl) rfl ((y_len 1 rfl Tryz.runUnderlying43 rfl rfl reads_ro).to (v_len (eInt .i64) _)) ?_
   refine ops_y (wg 8 false 20 rfl rfl rfl rfl) rfl (y_gtr rfl rfl) ?_
   refine oy rfl rfl (y_pick (b := false) rfl rfl) ?_
   refine ops_nil ?_
   exact goes_cut hL11 (decide (100 < (parents_1.length : Int))) [0, 1, 2, 3, 4] (qv4 rfl rfl rfl rfl) (by decide) rfl (by rw [hg12]; simp)
 rintro _ rfl
 refine oy rfl rfl (y_move rfl) ?_
 refine ops_cut 6 (Bool) (fun σ => [(1, parents_1v), (3, boxP b1 0), (5, boxP b3 0), (31, .bool σ)]) (fun σ => [ro l_0v 20 (l_0.map S_api_Segment.enc), ro parents_1v 1 (parents_1.map (eInt .i64)), nro delays_2v NC_L_int_43 delays_2, box b1 [l_0v], box b3 [delays_2v]]) (fun σ => σ = ((((!r5) || decide ((parents_1.length : Int) < 1)) || decide (100 < (parents_1.length : Int))) || decide ((delays_2.length : Int) ≠ (parents_1.length : Int)))) (fun L13 hL14 => ?_) ?_
 ·refine ops_split 25 (((!r5) || decide ((parents_1.length : Int) < 1)) || decide (100 < (parents_1.length : Int))) rfl (fun hg15 => ?_) (fun hg15 => ?_)
  ·skip
   refine ops_no 13 false 25 rfl rfl rfl rfl rfl ?_
   refine ops_no 13 false 25 rfl rfl rfl rfl rfl ?_
   refine ops_no 13 false 25 rfl rfl rfl rfl rfl ?_
   refine ops_no 13 false 25 rfl rfl rfl rfl rfl ?_
   refine ops_no 13 false 25 rfl rfl rfl rfl rfl ?_
   refine oy rfl rfl (y_pick (b := true) rfl rfl) ?_
   refine ops_nil ?_
   exact goes_cut hL14 true [0, 1, 2, 3, 4] (qv4 rfl rfl rfl rfl) (by decide) rfl (by rw [hg15]; simp)
  ·skip
   refine ops_y (wg 13 false 25 rfl rfl rfl rfl) rfl (y_load_box 4 Tryz.isAgg44 rfl rfl rfl) ?_
   refine ops_y (wg 13 false 25 rfl rfl rfl rfl) rfl (y_lenN 2 rfl Tryz.runUnderlying44 rfl rfl readsN_ro) ?_
   refine ops_y (wg 13 false 25 rfl rfl rfl rfl) rfl (y_move rfl) ?_
   refine ops_y (wg 13 false 25 rfl rfl rfl rfl) rfl ((y_len 1 rfl Tryz.runUnderlying43 rfl rfl reads_ro).to (v_len (eInt .i64) _)) ?_
   refine ops_y (wg 13 false 25 rfl rfl rfl rfl) rfl (y_neq rfl rfl) ?_
   refine oy rfl rfl (y_pick (b := false) rfl rfl) ?_
   refine ops_nil ?_
   exact goes_cut hL14 (decide ((delays_2.length : Int) ≠ (parents_1.length : Int))) [0, 1, 2, 3, 4] (qv4 rfl rfl rfl rfl) (by decide) rfl (by rw [hg15]; simp)
 rintro _ rfl
 refine ops_nil ?_
 refine goes_code ?_
 refine run_cond ((((!r5) || decide ((parents_1.length : Int) < 1)) || decide (100 < (parents_1.length : Int))) || decide ((delays_2.length : Int) ≠ (parents_1.length : Int))) rfl (fun hc16 => ?_) (fun hc16 => ?_)
 ·replace h := cond_t h hc16
  refine run_seq ?_
  refine run_region' ?_
  refine oy rfl rfl (y_assign rfl) ?_
  refine oy rfl rfl (y_assign rfl) ?_
  refine ops_nil ?_
  refine goes_code ?_
  refine run_ret ?_
  refine fin_turn (nilrowN NC_L_int_43) ?_
  obtain rfl := some_eq h
  refine fin_slots [6, 7] [(.slice none 0 0), .int .i64 1] [5] [nrow (.slice none 0 0) NC_L_int_43 ([] : List (List Int))] Tryz.results17 rfl (by decide) rfl ?_
  exact ⟨_, rfl, rfl⟩
 ·replace h := cond_f h hc16
  refine run_skip ?_
  refine goes_code ?_
  refine run_seq ?_
  refine run_region' ?_
  refine oy rfl rfl (y_move rfl) ?_
  refine oy rfl rfl ((y_len 1 rfl Tryz.runUnderlying43 rfl rfl reads_ro).to (v_len (eInt .i64) _)) ?_
  obtain ⟨hm18, h⟩ := need_some h
  refine ot rfl rfl (t_makeSlice (es := 1) Tryz.runUnderlying44 Tryz.typeInfo43 rfl Tryz.zeroValue43 rfl (by decide) rfl rfl hm18.1 hm18.2 (by decide)) ?_
  rintro v17 _ rfl
  refine ops_turn (turn_closeR (C := NC_L_int_43) (l := (List.replicate ((parents_1.length : Int)).toNat ([] : (List Int)))) 5 (List.replicate ((parents_1.length : Int)).toNat ([], (.slice none 0 0))) rfl (cs_rep rfl) fst_rep (hasall_rep (has_true nil_ro_any has_nil))) ?_
  refine ot rfl rfl (t_alloc Tryz.zeroValue44) ?_
  rintro _ _ ⟨b19, rfl, rfl⟩
  refine ops_slcN 5 rfl readsN_row (fun hs20 hs20o => ?_)
  refine ot rfl rfl (t_store 6 Tryz.sizeOf44 rfl rfl rfl (by rw [hs20]; rfl) (by simp [Value.cells, boxP]) (by rw [hs20]; exact allL_cons hs20o (allL_nil))) ?_
  rintro _ _ ⟨rfl, rfl⟩
  refine ops_turn (retell 6 (g := box b19 [v17]) rfl (by rw [hs20]; rfl)) ?_
  refine ops_nil ?_
  refine goes_code ?_
  refine run_seq ?_
  refine run_region' ?_
  refine oy rfl rfl (y_makeFunc (vs := [boxP b1 0, boxP b19 0]) rfl) ?_
  refine oy rfl rfl (y_assign rfl) ?_
  refine ops_nil ?_
  refine goes_code ?_
  refine run_seq ?_
  refine run_region' ?_
  refine oy rfl rfl (y_move rfl) ?_
  refine oy rfl rfl (y_makeFunc (vs := [boxP b1 0]) rfl) ?_
  obtain ⟨r21, hr22, h⟩ := obind_some h
  refine ot rfl rfl (t_callx (vs := [.int .i64 0, .func (.func 59) #[] #[boxP b1 0]]) (cs := [boxP b1 0, boxP b19 0]) [(0, 0), (3, 2), (5, 2), (6, 2)] rfl Tryz.call58 rfl (playlist_Spread_1_58_ok n 0 l_0 (List.replicate ((parents_1.length : Int)).toNat ([] : (List Int))) b1 l_0v b19 v17 hr22) (showsX_view 0 rfl views_ro (showsX_lend 3 rfl (showsX_lend 5 rfl (showsX_lend 6 rfl showsX_nil)))) rfl (.inl rfl)) ?_
  rintro _ _ ⟨_, ⟨v23, rfl, rfl⟩, rfl⟩
  refine ops_nil ?_
  refine goes_code ?_
  obtain ⟨o26, h, ho27⟩ := bindJ_some h
  refine run_cut (((List (List Int))) × (Value)) (fun σ => [(8, boxP b19 0)]) (fun σ => [box b19 [σ.2], nrow σ.2 NC_L_int_43 σ.1]) (fun σ => o26 = .go σ.1) (fun L29 hL28 => ?_) ?_
  ·
   refine run_seq ?_
   refine run_weak [(1, parents_1v), (3, boxP b1 0), (5, boxP b3 0), (8, boxP b19 0), (9, .func (.func 58) #[] #[boxP b1 0, boxP b19 0])] [0, 1, 2, 4, 7, 8, 9] [ro l_0v 20 (l_0.map S_api_Segment.enc), ro parents_1v 1 (parents_1.map (eInt .i64)), nro delays_2v NC_L_int_43 delays_2, box b3 [delays_2v], box b1 [l_0v], nrow v23 NC_L_int_43 r21, box b19 [v23]] (qv5 rfl rfl rfl rfl rfl) (by decide) rfl ?_
   refine run_region' ?_
   refine ot rfl rfl (t_alloc Tryz.zeroValue3) ?_
   rintro _ _ ⟨b30, rfl, rfl⟩
   refine ot rfl rfl (t_store 7 Tryz.sizeOf3 rfl rfl rfl rfl (by simp [Value.cells, boxP]) (by simp [Value.cells, Value.oneCell', boxP])) ?_
   rintro _ _ ⟨rfl, rfl⟩
   refine ops_turn (retell 7 (g := box b30 [.int .i64 1]) rfl rfl) ?_
   refine ops_nil ?_
   refine goes_code ?_
   refine run_block ?_
   refine run_iter (step := playlist_Spread_L1 n l_0 parents_1 delays_2) (n := n) (s0 := (1, r21)) h (G := Value × Value) ((.slice (some ⟨b30, 0, none⟩) 0 0), v23) (fun σ γ => [(10, boxP (blk γ.1) 0), (1, parents_1v), (3, boxP b1 0), (5, boxP b3 0), (8, boxP b19 0), (9, .func (.func 58) #[] #[boxP b1 0, boxP b19 0])]) (fun σ γ => [box (blk γ.1) [.int .i64 σ.1], ro parents_1v 1 (parents_1.map (eInt .i64)), box b1 [l_0v], ro l_0v 20 (l_0.map S_api_Segment.enc), box b3 [delays_2v], nro delays_2v NC_L_int_43 delays_2, box b19 [γ.2], nrow γ.2 NC_L_int_43 σ.2]) [7, 1, 4, 0, 3, 2, 6, 5] (qv6 rfl rfl rfl rfl rfl rfl) (by decide) rfl ?_
   rintro ⟨k_31, x_32⟩ ⟨v33, v34⟩ o35 h L38 hgo36 hstop37
   change Run _ _ _ (VF.of [(10, boxP (blk v33) 0), (1, parents_1v), (3, boxP b1 0), (5, boxP b3 0), (8, boxP b19 0), (9, .func (.func 58) #[] #[boxP b1 0, boxP b19 0])]) [box (blk v33) [.int .i64 k_31], ro parents_1v 1 (parents_1.map (eInt .i64)), box b1 [l_0v], ro l_0v 20 (l_0.map S_api_Segment.enc), box b3 [delays_2v], nro delays_2v NC_L_int_43 delays_2, box b19 [v34], nrow v34 NC_L_int_43 x_32]
   refine run_seq ?_
   refine run_seq ?_
   refine run_region' ?_
   refine oy rfl rfl (y_load_box 0 Tryz.isAgg3 rfl rfl rfl) ?_
   refine oy rfl rfl (y_move rfl) ?_
   refine oy rfl rfl ((y_len 1 rfl Tryz.runUnderlying43 rfl rfl reads_ro).to (v_len (eInt .i64) _)) ?_
   refine oy rfl rfl (y_lss rfl rfl) ?_
   refine ops_nil ?_
   refine goes_code ?_
   refine run_cond (decide (k_31 < (parents_1.length : Int))) rfl (fun hc39 => ?_) (fun hc39 => ?_)
   ·replace h := cond_t h hc39
    refine run_skip ?_
    refine goes_code ?_
    refine run_seq ?_
    refine run_block ?_
    refine run_seq ?_
    refine run_region' ?_
    refine oy rfl rfl (y_move rfl) ?_
    refine oy rfl rfl (y_load_box 0 Tryz.isAgg3 rfl rfl rfl) ?_
    obtain ⟨x40, hzx40, hlx40, hxx40, h⟩ := idx_some h
    refine oy rfl rfl (y_indexAddrI (kd := .i64) (i := k_31) 1 Tryz.runUnderlying43 Tryz.sizeOf3 rfl rfl rfl reads_ro hzx40 (map_lt hlx40)) ?_
    refine oy rfl rfl (y_load_elem (i := k_31.toNat) 1 Tryz.isAgg3 rfl rfl reads_ro (map_get hxx40)) ?_
    refine ot rfl rfl (t_alloc Tryz.zeroValue3) ?_
    rintro _ _ ⟨b41, rfl, rfl⟩
    refine ot rfl rfl (t_store 8 Tryz.sizeOf3 rfl rfl rfl rfl (by simp [Value.cells, boxP]) (by simp [Value.cells, Value.oneCell', boxP])) ?_
    rintro _ _ ⟨rfl, rfl⟩
    refine ops_turn (retell 8 (g := box b41 [.int .i64 x40]) rfl rfl) ?_
    refine ops_nil ?_
    refine goes_code ?_
    refine run_seq ?_
    refine run_seq ?_
    refine run_weak [(10, boxP (blk v33) 0), (1, parents_1v), (3, boxP b1 0), (5, boxP b3 0), (8, boxP b19 0), (9, .func (.func 58) #[] #[boxP b1 0, boxP b19 0]), (11, boxP b41 0)] [0, 1, 2, 3, 4, 5, 6, 7, 8] [box (blk v33) [.int .i64 k_31], ro parents_1v 1 (parents_1.map (eInt .i64)), box b1 [l_0v], ro l_0v 20 (l_0.map S_api_Segment.enc), box b3 [delays_2v], nro delays_2v NC_L_int_43 delays_2, box b19 [v34], nrow v34 NC_L_int_43 x_32, box b41 [.int .i64 x40]] (qv7 rfl rfl rfl rfl rfl rfl rfl) (by decide) rfl ?_
    refine run_drawany [box (blk v33) [.int .i64 k_31], ro parents_1v 1 (parents_1.map (eInt .i64)), box b1 [l_0v], ro l_0v 20 (l_0.map S_api_Segment.enc), box b3 [delays_2v], nro delays_2v NC_L_int_43 delays_2, box b19 [v34], nrow v34 NC_L_int_43 x_32, box b41 [.int .i64 x40]] (by kernel_rfl) ?_
    refine any_y 0 rfl (by kernel_rfl) (by kernel_rfl) (by kernel_rfl) (ss (ss (ss (ss (ss (ss (ss (ss (ss (sn)))))))))) (wn rfl) rfl (y_load_box 8 Tryz.isAgg3 rfl rfl rfl) ?_
    refine any_y 1 rfl (by kernel_rfl) (by kernel_rfl) (by kernel_rfl) (ss (ss (ss (ss (ss (ss (ss (ss (ss (sn)))))))))) (wn rfl) rfl (y_lss rfl rfl) ?_
    refine any_y 2 rfl (by kernel_rfl) (by kernel_rfl) (by kernel_rfl) (ss (ss (ss (ss (ss (ss (ss (ss (ss (sn)))))))))) (wn rfl) rfl (y_move rfl) ?_
    refine any_cut #[true, true, true, true, true, true, true, false, false, false, false, false, false, false, false, false, false, false, false, false, false, false, false, false] 17 Bool (fun σ => [(10, boxP (blk v33) 0), (1, parents_1v), (3, boxP b1 0), (5, boxP b3 0), (8, boxP b19 0), (9, .func (.func 58) #[] #[boxP b1 0, boxP b19 0]), (11, boxP b41 0), (55, .bool σ)]) (fun σ => [box (blk v33) [.int .i64 k_31], ro parents_1v 1 (parents_1.map (eInt .i64)), box b1 [l_0v], ro l_0v 20 (l_0.map S_api_Segment.enc), box b3 [delays_2v], nro delays_2v NC_L_int_43 delays_2, box b19 [v34], nrow v34 NC_L_int_43 x_32, box b41 [.int .i64 x40]]) (fun σ => σ = (decide (x40 < 0) || decide (k_31 ≤ x40))) (fun hL43 => ?_) ?_
    ·refine any_split 51 (decide (x40 < 0)) rfl (fun hg44 => ?_) (fun hg44 => ?_)
     ·skip
      refine any_no 3 rfl (by kernel_rfl) (by kernel_rfl) (by kernel_rfl) (ss (ss (ss (ss (ss (ss (ss (ss (ss (sn)))))))))) 2 false 51 rfl rfl rfl rfl rfl ?_
      refine any_no 4 rfl (by kernel_rfl) (by kernel_rfl) (by kernel_rfl) (ss (ss (ss (ss (ss (ss (ss (ss (ss (sn)))))))))) 2 false 51 rfl rfl rfl rfl rfl ?_
      refine any_no 5 rfl (by kernel_rfl) (by kernel_rfl) (by kernel_rfl) (ss (ss (ss (ss (ss (ss (ss (ss (ss (sn)))))))))) 2 false 51 rfl rfl rfl rfl rfl ?_
      refine any_y 6 rfl (by kernel_rfl) (by kernel_rfl) (by kernel_rfl) (ss (ss (ss (ss (ss (ss (ss (ss (ss (sn)))))))))) (wn rfl) rfl (y_pick (b := true) rfl rfl) ?_
      exact any_weak [(10, boxP (blk v33) 0), (1, parents_1v), (3, boxP b1 0), (5, boxP b3 0), (8, boxP b19 0), (9, .func (.func 58) #[] #[boxP b1 0, boxP b19 0]), (11, boxP b41 0), (55, .bool true)] [0, 1, 2, 3, 4, 5, 6, 7, 8] [box (blk v33) [.int .i64 k_31], ro parents_1v 1 (parents_1.map (eInt .i64)), box b1 [l_0v], ro l_0v 20 (l_0.map S_api_Segment.enc), box b3 [delays_2v], nro delays_2v NC_L_int_43 delays_2, box b19 [v34], nrow v34 NC_L_int_43 x_32, box b41 [.int .i64 x40]] (by kernel_rfl) (qv8 rfl rfl rfl rfl rfl rfl rfl rfl) (by decide) rfl (hL43 true (by rw [hg44]; simp))
     ·skip
      refine any_y 3 rfl (by kernel_rfl) (by kernel_rfl) (by kernel_rfl) (ss (ss (ss (ss (ss (ss (ss (ss (ss (sn)))))))))) (wg 2 false 51 rfl rfl rfl rfl) rfl (y_load_box 8 Tryz.isAgg3 rfl rfl rfl) ?_
      refine any_y 4 rfl (by kernel_rfl) (by kernel_rfl) (by kernel_rfl) (ss (ss (ss (ss (ss (ss (ss (ss (ss (sn)))))))))) (wg 2 false 51 rfl rfl rfl rfl) rfl (y_load_box 0 Tryz.isAgg3 rfl rfl rfl) ?_
      refine any_y 5 rfl (by kernel_rfl) (by kernel_rfl) (by kernel_rfl) (ss (ss (ss (ss (ss (ss (ss (ss (ss (sn)))))))))) (wg 2 false 51 rfl rfl rfl rfl) rfl (y_geq rfl rfl) ?_
      refine any_y 6 rfl (by kernel_rfl) (by kernel_rfl) (by kernel_rfl) (ss (ss (ss (ss (ss (ss (ss (ss (ss (sn)))))))))) (wn rfl) rfl (y_pick (b := false) rfl rfl) ?_
      exact any_weak [(10, boxP (blk v33) 0), (1, parents_1v), (3, boxP b1 0), (5, boxP b3 0), (8, boxP b19 0), (9, .func (.func 58) #[] #[boxP b1 0, boxP b19 0]), (11, boxP b41 0), (55, .bool (decide (k_31 ≤ x40)))] [0, 1, 2, 3, 4, 5, 6, 7, 8] [box (blk v33) [.int .i64 k_31], ro parents_1v 1 (parents_1.map (eInt .i64)), box b1 [l_0v], ro l_0v 20 (l_0.map S_api_Segment.enc), box b3 [delays_2v], nro delays_2v NC_L_int_43 delays_2, box b19 [v34], nrow v34 NC_L_int_43 x_32, box b41 [.int .i64 x40]] (by kernel_rfl) (qv8 rfl rfl rfl rfl rfl rfl rfl rfl) (by decide) rfl (hL43 (decide (k_31 ≤ x40)) (by rw [hg44]; simp))
    rintro _ rfl
    refine any_y 7 rfl (by kernel_rfl) (by kernel_rfl) (by kernel_rfl) (ss (ss (ss (ss (ss (ss (ss (ss (ss (sn)))))))))) (wn rfl) rfl (y_move rfl) ?_
    obtain ⟨o46, h, ho47⟩ := bindJ_some h
    refine any_cut #[true, true, true, true, true, true, true, true, true, true, true, true, true, true, true, true, true, false, false, false, false, false, false, false] 7 Bool (fun σ => [(10, boxP (blk v33) 0), (1, parents_1v), (3, boxP b1 0), (5, boxP b3 0), (8, boxP b19 0), (9, .func (.func 58) #[] #[boxP b1 0, boxP b19 0]), (11, boxP b41 0), (65, .bool σ)]) (fun σ => [box (blk v33) [.int .i64 k_31], ro parents_1v 1 (parents_1.map (eInt .i64)), box b1 [l_0v], ro l_0v 20 (l_0.map S_api_Segment.enc), box b3 [delays_2v], nro delays_2v NC_L_int_43 delays_2, box b19 [v34], nrow v34 NC_L_int_43 x_32, box b41 [.int .i64 x40]]) (fun σ => o46 = .go σ) (fun hL49 => ?_) ?_
    ·refine any_split 56 (decide (x40 < 0) || decide (k_31 ≤ x40)) rfl (fun hg50 => ?_) (fun hg50 => ?_)
     ·replace h := cond_t h hg50
      refine any_no 8 rfl (by kernel_rfl) (by kernel_rfl) (by kernel_rfl) (ss (ss (ss (ss (ss (ss (ss (ss (ss (sn)))))))))) 7 false 56 rfl rfl rfl rfl rfl ?_
      refine any_no 9 rfl (by kernel_rfl) (by kernel_rfl) (by kernel_rfl) (ss (ss (ss (ss (ss (ss (ss (ss (ss (sn)))))))))) 7 false 56 rfl rfl rfl rfl rfl ?_
      refine any_no 10 rfl (by kernel_rfl) (by kernel_rfl) (by kernel_rfl) (ss (ss (ss (ss (ss (ss (ss (ss (ss (sn)))))))))) 7 false 56 rfl rfl rfl rfl rfl ?_
      refine any_no 13 rfl (by kernel_rfl) (by kernel_rfl) (by kernel_rfl) (ss (ss (ss (ss (ss (ss (ss (ss (ss (sn)))))))))) 7 false 56 rfl rfl rfl rfl rfl ?_
      refine any_no 14 rfl (by kernel_rfl) (by kernel_rfl) (by kernel_rfl) (ss (ss (ss (ss (ss (ss (ss (ss (ss (sn)))))))))) 7 false 56 rfl rfl rfl rfl rfl ?_
      refine any_no 11 rfl (by kernel_rfl) (by kernel_rfl) (by kernel_rfl) (ss (ss (ss (ss (ss (ss (ss (ss (ss (sn)))))))))) 7 false 56 rfl rfl rfl rfl rfl ?_
      refine any_no 12 rfl (by kernel_rfl) (by kernel_rfl) (by kernel_rfl) (ss (ss (ss (ss (ss (ss (ss (ss (ss (sn)))))))))) 7 false 56 rfl rfl rfl rfl rfl ?_
      refine any_no 15 rfl (by kernel_rfl) (by kernel_rfl) (by kernel_rfl) (ss (ss (ss (ss (ss (ss (ss (ss (ss (sn)))))))))) 7 false 56 rfl rfl rfl rfl rfl ?_
      refine any_y 16 rfl (by kernel_rfl) (by kernel_rfl) (by kernel_rfl) (ss (ss (ss (ss (ss (ss (ss (ss (ss (sn)))))))))) (wn rfl) rfl (y_pick (b := true) rfl rfl) ?_
      obtain rfl := some_eq h
      exact any_weak [(10, boxP (blk v33) 0), (1, parents_1v), (3, boxP b1 0), (5, boxP b3 0), (8, boxP b19 0), (9, .func (.func 58) #[] #[boxP b1 0, boxP b19 0]), (11, boxP b41 0), (65, .bool true)] [0, 1, 2, 3, 4, 5, 6, 7, 8] [box (blk v33) [.int .i64 k_31], ro parents_1v 1 (parents_1.map (eInt .i64)), box b1 [l_0v], ro l_0v 20 (l_0.map S_api_Segment.enc), box b3 [delays_2v], nro delays_2v NC_L_int_43 delays_2, box b19 [v34], nrow v34 NC_L_int_43 x_32, box b41 [.int .i64 x40]] (by kernel_rfl) (qv8 rfl rfl rfl rfl rfl rfl rfl rfl) (by decide) rfl (hL49 true rfl)
     ·replace h := cond_f h hg50
      refine any_y 8 rfl (by kernel_rfl) (by kernel_rfl) (by kernel_rfl) (ss (ss (ss (ss (ss (ss (ss (ss (ss (sn)))))))))) (wg 7 false 56 rfl rfl rfl rfl) rfl (y_load_box 4 Tryz.isAgg44 rfl rfl rfl) ?_
      refine any_y 9 rfl (by kernel_rfl) (by kernel_rfl) (by kernel_rfl) (ss (ss (ss (ss (ss (ss (ss (ss (ss (sn)))))))))) (wg 7 false 56 rfl rfl rfl rfl) rfl (y_load_box 0 Tryz.isAgg3 rfl rfl rfl) ?_
      obtain ⟨x51, hzx51, hlx51, hxx51, h⟩ := idx_some h
      refine any_y 10 rfl (by kernel_rfl) (by kernel_rfl) (by kernel_rfl) (ss (ss (ss (ss (ss (ss (ss (ss (ss (sn)))))))))) (wg 7 false 56 rfl rfl rfl rfl) rfl (y_indexAddrN (kd := .i64) (i := k_31) 5 Tryz.runUnderlying44 Tryz.sizeOf43 rfl rfl rfl readsN_ro hzx51 hlx51) ?_
      refine any_ex (exAt (C := NC_L_int_43) (i := k_31.toNat) 5 rfl hxx51) ?_
      rintro g52
      refine any_y 13 rfl (by kernel_rfl) (by kernel_rfl) (by kernel_rfl) (ss (ss (ss (ss (ss (ss (ss (ss (ss (sn)))))))))) (wg 7 false 56 rfl rfl rfl rfl) rfl (y_load_box 2 Tryz.isAgg22 rfl rfl rfl) ?_
      refine any_y 14 rfl (by kernel_rfl) (by kernel_rfl) (by kernel_rfl) (ss (ss (ss (ss (ss (ss (ss (ss (ss (sn)))))))))) (wg 7 false 56 rfl rfl rfl rfl) rfl ((y_len 3 rfl Tryz.runUnderlying22 rfl rfl reads_ro).to (v_len S_api_Segment.enc _)) ?_
      refine any_all [11] (by kernel_rfl) rfl (anyo_cons ?_ anyo_nil)
      refine any_ty rfl (wg 7 false 56 rfl rfl rfl rfl) rfl (y_load_at (n := k_31.toNat * 1) (j := 0) 9 Tryz.isAgg43 rfl rfl rfl) ⟨(ss (ss (ss (ss (ss (ss (ss (ss (ss (sn)))))))))), ?_⟩
      refine any_all [12] (by kernel_rfl) rfl (anyo_cons ?_ anyo_nil)
      refine any_ty rfl (wg 7 false 56 rfl rfl rfl rfl) rfl ((y_len 10 rfl Tryz.runUnderlying43 rfl rfl reads_ro).to (v_len (eInt .i64) _)) ⟨(ss (ss (ss (ss (ss (ss (ss (ss (ss (sn)))))))))), ?_⟩
      refine any_y 15 rfl (by kernel_rfl) (by kernel_rfl) (by kernel_rfl) (ss (ss (ss (ss (ss (ss (ss (ss (ss (sn)))))))))) (wg 7 false 56 rfl rfl rfl rfl) rfl (y_neq rfl rfl) ?_
      refine any_y 16 rfl (by kernel_rfl) (by kernel_rfl) (by kernel_rfl) (ss (ss (ss (ss (ss (ss (ss (ss (ss (sn)))))))))) (wn rfl) rfl (y_pick (b := false) rfl rfl) ?_
      obtain rfl := some_eq h
      exact any_weak [(10, boxP (blk v33) 0), (1, parents_1v), (3, boxP b1 0), (5, boxP b3 0), (8, boxP b19 0), (9, .func (.func 58) #[] #[boxP b1 0, boxP b19 0]), (11, boxP b41 0), (65, .bool (decide ((x51.length : Int) ≠ (l_0.length : Int))))] [0, 1, 2, 3, 4, 5, 6, 7, 8] [box (blk v33) [.int .i64 k_31], ro parents_1v 1 (parents_1.map (eInt .i64)), box b1 [l_0v], ro l_0v 20 (l_0.map S_api_Segment.enc), box b3 [delays_2v], nro delays_2v NC_L_int_43 delays_2, box b19 [v34], nrow v34 NC_L_int_43 x_32, box b41 [.int .i64 x40]] (by kernel_rfl) (qv8 rfl rfl rfl rfl rfl rfl rfl rfl) (by decide) rfl (hL49 (decide ((x51.length : Int) ≠ (l_0.length : Int))) rfl)
    rintro b45 hj
    obtain rfl : o46 = _ := hj
    replace h := after_go ho47
    clear ho47
    refine any_y 17 rfl (by kernel_rfl) (by kernel_rfl) (by kernel_rfl) (ss (ss (ss (ss (ss (ss (ss (ss (ss (sn)))))))))) (wn rfl) rfl (y_move rfl) ?_
    obtain ⟨o54, h, ho55⟩ := bindJ_some h
    refine any_cut #[true, true, true, true, true, true, true, true, true, true, true, true, true, true, true, true, true, true, true, true, true, true, true, true] 0 Bool (fun σ => [(10, boxP (blk v33) 0), (1, parents_1v), (3, boxP b1 0), (5, boxP b3 0), (8, boxP b19 0), (9, .func (.func 58) #[] #[boxP b1 0, boxP b19 0]), (11, boxP b41 0), (72, .bool σ)]) (fun σ => [box (blk v33) [.int .i64 k_31], ro parents_1v 1 (parents_1.map (eInt .i64)), box b1 [l_0v], ro l_0v 20 (l_0.map S_api_Segment.enc), box b3 [delays_2v], nro delays_2v NC_L_int_43 delays_2, box b19 [v34], nrow v34 NC_L_int_43 x_32, box b41 [.int .i64 x40]]) (fun σ => o54 = .go σ) (fun hL57 => ?_) ?_
    ·refine any_split 66 b45 rfl (fun hg58 => ?_) (fun hg58 => ?_)
     ·replace h := cond_t h hg58
      refine any_no 18 rfl (by kernel_rfl) (by kernel_rfl) (by kernel_rfl) (ss (ss (ss (ss (ss (ss (ss (ss (ss (sn)))))))))) 17 false 66 rfl rfl rfl rfl rfl ?_
      refine any_no 19 rfl (by kernel_rfl) (by kernel_rfl) (by kernel_rfl) (ss (ss (ss (ss (ss (ss (ss (ss (ss (sn)))))))))) 17 false 66 rfl rfl rfl rfl rfl ?_
      refine any_no 20 rfl (by kernel_rfl) (by kernel_rfl) (by kernel_rfl) (ss (ss (ss (ss (ss (ss (ss (ss (ss (sn)))))))))) 17 false 66 rfl rfl rfl rfl rfl ?_
      refine any_no 21 rfl (by kernel_rfl) (by kernel_rfl) (by kernel_rfl) (ss (ss (ss (ss (ss (ss (ss (ss (ss (sn)))))))))) 17 false 66 rfl rfl rfl rfl rfl ?_
      refine any_no 22 rfl (by kernel_rfl) (by kernel_rfl) (by kernel_rfl) (ss (ss (ss (ss (ss (ss (ss (ss (ss (sn)))))))))) 17 false 66 rfl rfl rfl rfl rfl ?_
      refine any_y 23 rfl (by kernel_rfl) (by kernel_rfl) (by kernel_rfl) (ss (ss (ss (ss (ss (ss (ss (ss (ss (sn)))))))))) (wn rfl) rfl (y_pick (b := true) rfl rfl) ?_
      obtain rfl := some_eq h
      exact any_weak [(10, boxP (blk v33) 0), (1, parents_1v), (3, boxP b1 0), (5, boxP b3 0), (8, boxP b19 0), (9, .func (.func 58) #[] #[boxP b1 0, boxP b19 0]), (11, boxP b41 0), (72, .bool true)] [0, 1, 2, 3, 4, 5, 6, 7, 8] [box (blk v33) [.int .i64 k_31], ro parents_1v 1 (parents_1.map (eInt .i64)), box b1 [l_0v], ro l_0v 20 (l_0.map S_api_Segment.enc), box b3 [delays_2v], nro delays_2v NC_L_int_43 delays_2, box b19 [v34], nrow v34 NC_L_int_43 x_32, box b41 [.int .i64 x40]] (by kernel_rfl) (qv8 rfl rfl rfl rfl rfl rfl rfl rfl) (by decide) rfl (hL57 true rfl)
     ·replace h := cond_f h hg58
      refine any_y 18 rfl (by kernel_rfl) (by kernel_rfl) (by kernel_rfl) (ss (ss (ss (ss (ss (ss (ss (ss (ss (sn)))))))))) (wg 17 false 66 rfl rfl rfl rfl) rfl (y_load_box 4 Tryz.isAgg44 rfl rfl rfl) ?_
      refine any_y 19 rfl (by kernel_rfl) (by kernel_rfl) (by kernel_rfl) (ss (ss (ss (ss (ss (ss (ss (ss (ss (sn)))))))))) (wg 17 false 66 rfl rfl rfl rfl) rfl (y_load_box 0 Tryz.isAgg3 rfl rfl rfl) ?_
      obtain ⟨x59, hzx59, hlx59, hxx59, h⟩ := idx_some h
      refine any_y 20 rfl (by kernel_rfl) (by kernel_rfl) (by kernel_rfl) (ss (ss (ss (ss (ss (ss (ss (ss (ss (sn)))))))))) (wg 17 false 66 rfl rfl rfl rfl) rfl (y_indexAddrN (kd := .i64) (i := k_31) 5 Tryz.runUnderlying44 Tryz.sizeOf43 rfl rfl rfl readsN_ro hzx59 hlx59) ?_
      refine any_ex (exAt (C := NC_L_int_43) (i := k_31.toNat) 5 rfl hxx59) ?_
      rintro g60
      refine any_all [21] (by kernel_rfl) rfl (anyo_cons ?_ anyo_nil)
      refine any_ty rfl (wg 17 false 66 rfl rfl rfl rfl) rfl (y_load_at (n := k_31.toNat * 1) (j := 0) 9 Tryz.isAgg43 rfl rfl rfl) ⟨(ss (ss (ss (ss (ss (ss (ss (ss (ss (sn)))))))))), ?_⟩
      refine any_all [22] (by kernel_rfl) rfl (anyo_cons ?_ anyo_nil)
      obtain ⟨r61, hr62, h⟩ := obind_some h
      refine any_t rfl (wg 17 false 66 rfl rfl rfl rfl) rfl (t_callx (vs := [g60, .func (.func 62) #[] #[]]) (cs := []) [(10, 0)] rfl Tryz.call61 rfl (slices_ContainsFunc_int_int_61_ok n x59 g60 hr62) (showsX_view 10 rfl views_ro showsX_nil) rfl (.inl rfl)) ?_
      rintro _ _ ⟨_, ⟨rfl, rfl⟩, rfl⟩
      refine ⟨(ss (ss (ss (ss (ss (ss (ss (ss (ss (sn)))))))))), ?_⟩
      refine any_y 23 rfl (by kernel_rfl) (by kernel_rfl) (by kernel_rfl) (ss (ss (ss (ss (ss (ss (ss (ss (ss (sn)))))))))) (wn rfl) rfl (y_pick (b := false) rfl rfl) ?_
      obtain rfl := some_eq h
      exact any_weak [(10, boxP (blk v33) 0), (1, parents_1v), (3, boxP b1 0), (5, boxP b3 0), (8, boxP b19 0), (9, .func (.func 58) #[] #[boxP b1 0, boxP b19 0]), (11, boxP b41 0), (72, .bool r61)] [0, 1, 2, 3, 4, 5, 6, 7, 8] [box (blk v33) [.int .i64 k_31], ro parents_1v 1 (parents_1.map (eInt .i64)), box b1 [l_0v], ro l_0v 20 (l_0.map S_api_Segment.enc), box b3 [delays_2v], nro delays_2v NC_L_int_43 delays_2, box b19 [v34], nrow v34 NC_L_int_43 x_32, box b41 [.int .i64 x40]] (by kernel_rfl) (qv8 rfl rfl rfl rfl rfl rfl rfl rfl) (by decide) rfl (hL57 r61 rfl)
    rintro b53 hj
    obtain rfl : o54 = _ := hj
    replace h := after_go ho55
    clear ho55
    refine any_nil (by kernel_rfl) ?_
    refine goes_code ?_
    refine run_cond b53 rfl (fun hc63 => ?_) (fun hc63 => ?_)
    ·replace h := cond_t h hc63
     refine run_seq ?_
     refine run_region' ?_
     refine oy rfl rfl (y_assign rfl) ?_
     refine oy rfl rfl (y_assign rfl) ?_
     refine ops_nil ?_
     refine goes_code ?_
     refine run_ret ?_
     refine fin_turn (nilrowN NC_L_int_43) ?_
     obtain rfl := some_eq h
     obtain rfl := hstop37 _ rfl
     skip
     obtain rfl := after_stop ho27
     refine fin_slots [6, 7] [(.slice none 0 0), .int .i64 1] [9] [nrow (.slice none 0 0) NC_L_int_43 ([] : List (List Int))] Tryz.results17 rfl (by decide) rfl ?_
     exact ⟨_, rfl, rfl⟩
    ·replace h := cond_f h hc63
     refine run_skip ?_
     refine goes_code ?_
     refine run_region' ?_
     refine oy rfl rfl (y_move rfl) ?_
     refine oy rfl rfl (y_load_box 0 Tryz.isAgg3 rfl rfl rfl) ?_
     refine oy rfl rfl (y_makeFunc (vs := [boxP b19 0, boxP b41 0, boxP b3 0, boxP (blk v33) 0]) rfl) ?_
     obtain ⟨r64, hr65, h⟩ := obind_some h
     refine ot rfl rfl (t_callx (vs := [.int .i64 k_31, .func (.func 63) #[] #[boxP b19 0, boxP b41 0, boxP b3 0, boxP (blk v33) 0]]) (cs := [boxP b1 0, boxP b19 0]) [(7, 2), (6, 2), (8, 2), (5, 0), (4, 2), (0, 2), (3, 0), (2, 2)] rfl Tryz.call58 rfl (playlist_Spread_1_58_v1_ok n k_31 x_32 x40 delays_2 k_31 l_0 b19 v34 b41 b3 delays_2v (blk v33) b1 l_0v hr65) (showsX_lend 7 rfl (showsX_lend 6 rfl (showsX_lend 8 rfl (showsX_view 5 rfl views_nro (showsX_lend 4 rfl (showsX_lend 0 rfl (showsX_view 3 rfl views_ro (showsX_lend 2 rfl showsX_nil)))))))) rfl (.inl rfl)) ?_
     rintro _ _ ⟨_, ⟨v66, rfl, rfl⟩, rfl⟩
     refine ops_nil ?_
     refine goes_blk ?_
     refine goes_code ?_
     refine run_seq ?_
     refine run_seq ?_
     refine run_region' ?_
     refine oy rfl rfl (y_load_box 13 Tryz.isAgg3 rfl rfl rfl) ?_
     refine ops_nil ?_
     refine goes_code ?_
     refine run_region' ?_
     refine ot rfl rfl (t_alloc Tryz.zeroValue3) ?_
     rintro _ _ ⟨b67, rfl, rfl⟩
     refine ot rfl rfl (t_store 15 Tryz.sizeOf3 rfl rfl rfl rfl (by simp [Value.cells, boxP]) (by simp [Value.cells, Value.oneCell', boxP])) ?_
     rintro _ _ ⟨rfl, rfl⟩
     refine ops_turn (retell 15 (g := box b67 [.int .i64 k_31]) rfl rfl) ?_
     refine ops_nil ?_
     refine goes_code ?_
     refine run_region' ?_
     refine oy rfl rfl (y_load_box 15 Tryz.isAgg3 rfl rfl rfl) ?_
     refine oy rfl rfl (y_add rfl rfl) ?_
     refine ot rfl rfl (t_store 15 Tryz.sizeOf3 rfl rfl rfl rfl (by simp [Value.cells, boxP]) (by simp [Value.cells, Value.oneCell', boxP])) ?_
     rintro _ _ ⟨rfl, rfl⟩
     refine ops_turn (retell 15 (g := box b67 [.int .i64 (IntKind.i64.wrap (k_31 + 1))]) rfl rfl) ?_
     refine ops_nil ?_
     obtain rfl := some_eq h
     exact goes_iter hgo36 ((IntKind.i64.wrap (k_31 + 1)), r64) ((.slice (some ⟨b67, 0, none⟩) 0 0), v66) [15, 1, 14, 3, 12, 5, 10, 9] rfl (qv6 rfl rfl rfl rfl rfl rfl) (by decide) rfl
   ·replace h := cond_f h hc39
    refine run_exit _ rfl ?_
    obtain rfl := some_eq h
    obtain rfl := hstop37 _ rfl
    exact goes_cut hL28 (x_32, v34) [6, 7] (qv1 rfl) (by decide) rfl rfl
  rintro ⟨x_24, v25⟩ hj
  obtain rfl : o26 = _ := hj
  replace h := after_go ho27
  clear ho27
  change Run _ _ _ (VF.of [(8, boxP b19 0)]) [box b19 [v25], nrow v25 NC_L_int_43 x_24]
  refine run_seq ?_
  refine run_region' ?_
  refine oy rfl rfl (y_load_box 0 Tryz.isAgg44 rfl rfl rfl) ?_
  refine oy rfl rfl (y_assign rfl) ?_
  refine oy rfl rfl (y_assign rfl) ?_
  refine ops_nil ?_
  refine goes_code ?_
  refine run_ret ?_
  obtain rfl := some_eq h
  refine fin_slots [6, 7] [v25, .int .i64 0] [1] [nrow v25 NC_L_int_43 x_24] Tryz.results17 rfl (by decide) rfl ?_
  exact ⟨_, rfl, rfl⟩

def ref43_SameTimes_L2 (a_0 : (List (List Int))) (b_1 : (List (List Int))) (k_6 : Int) : (Int) → Option (Lp (Int) (Lp (Unit) (Lp (Int) (Lp (Unit) (Bool))))) :=
 fun i_21 =>
  idx a_0 k_6 fun x26 =>
  cond (decide (i_21 < (x26.length : Int)))
   (idx x26 i_21 fun x29 =>
   idx b_1 k_6 fun x30 =>
   idx x30 i_21 fun x32 =>
   cond (decide (x29 ≠ x32))
    (some (.stop (.stop (.stop (.stop false)))))
    (some (.go (IntKind.i64.wrap (i_21 + 1)))))
   (some (.stop (.go ())))
def ref43_SameTimes_L1 (n : Nat) (a_0 : (List (List Int))) (b_1 : (List (List Int))) : (Int) → Option (Lp (Int) (Lp (Unit) (Bool))) :=
 fun k_6 =>
  cond (decide (k_6 < (a_0.length : Int)))
   (bindJ (S := Unit)
    (idx a_0 k_6 fun x16 =>
    idx b_1 k_6 fun x18 =>
    cond (decide ((x16.length : Int) ≠ (x18.length : Int)))
     (some (.stop (.stop (.stop false))))
     (iter (ref43_SameTimes_L2 a_0 b_1 k_6) n 0))
   (fun _ =>
    some (.go (IntKind.i64.wrap (k_6 + 1)))))
   (some (.stop (.go ())))
def ref43_SameTimes (n : Nat) (a_0 : (List (List Int))) (b_1 : (List (List Int))) : Option (Bool) :=
 cond (decide ((a_0.length : Int) ≠ (b_1.length : Int)))
  (some false)
  (bindJ (S := Unit)
   (iter (ref43_SameTimes_L1 n a_0 b_1) n 0)
  (fun _ =>
   some true))
theorem ref43_SameTimes_ok (n : Nat) (a_0 : (List (List Int))) (b_1 : (List (List Int))) (a_0v : Value) (b_1v : Value) {r : Bool} (h : ref43_SameTimes n a_0 b_1 = some r) :
  Meets Tryz.prog 19 [a_0v, b_1v] [nro a_0v NC_L_int_43 a_0, nro b_1v NC_L_int_43 b_1] (fun v G => v = .bool r ∧ G = []) := by
 refine fn_of_run Tryz.func19 rfl Tryz.ntmps19 rfl (fun w0 o0 => ?_)
 refine run_seq ?_
 refine run_region' ?_
 refine oy rfl rfl (y_assign rfl) ?_
 refine ops_nil ?_
 refine goes_code ?_
 refine run_seq ?_
 refine run_seq ?_
 refine run_region' ?_
 refine oy rfl rfl (y_move rfl) ?_
 refine oy rfl rfl (y_lenN 0 rfl Tryz.runUnderlying44 rfl rfl readsN_ro) ?_
 refine oy rfl rfl (y_move rfl) ?_
 refine oy rfl rfl (y_lenN 1 rfl Tryz.runUnderlying44 rfl rfl readsN_ro) ?_
 refine oy rfl rfl (y_neq rfl rfl) ?_
 refine ops_nil ?_
 refine goes_code ?_
 refine run_cond (decide ((a_0.length : Int) ≠ (b_1.length : Int))) rfl (fun hc1 => ?_) (fun hc1 => ?_)
 ·replace h := cond_t h hc1
  refine run_seq ?_
  refine run_region' ?_
  refine oy rfl rfl (y_assign rfl) ?_
  refine ops_nil ?_
  refine goes_code ?_
  refine run_ret ?_
  obtain rfl := some_eq h
  refine fin_slots [4] [.bool false] [] [] Tryz.results19 rfl (by decide) rfl ?_
  exact ⟨rfl, rfl⟩
 ·replace h := cond_f h hc1
  refine run_skip ?_
  refine goes_code ?_
  obtain ⟨o2, h, ho3⟩ := bindJ_some h
  refine run_cut ((Unit) × (Unit)) (fun σ => []) (fun σ => []) (fun σ => o2 = .go σ.1) (fun L5 hL4 => ?_) ?_
  ·
   refine run_seq ?_
   refine run_region' ?_
   refine oy rfl rfl (y_assign rfl) ?_
   refine ops_nil ?_
   refine goes_code ?_
   refine run_block ?_
   refine run_iter (step := ref43_SameTimes_L1 n a_0 b_1) (n := n) (s0 := 0) h (G := Unit) () (fun σ γ => [(5, .int .i64 σ), (0, a_0v), (1, b_1v)]) (fun σ γ => [nro a_0v NC_L_int_43 a_0, nro b_1v NC_L_int_43 b_1]) [0, 1] (qv3 rfl rfl rfl) (by decide) rfl ?_
   rintro k_6 _ o7 h L10 hgo8 hstop9
   change Run _ _ _ (VF.of [(5, .int .i64 k_6), (0, a_0v), (1, b_1v)]) [nro a_0v NC_L_int_43 a_0, nro b_1v NC_L_int_43 b_1]
   refine run_seq ?_
   refine run_seq ?_
   refine run_region' ?_
   refine oy rfl rfl (y_move rfl) ?_
   refine oy rfl rfl (y_move rfl) ?_
   refine oy rfl rfl (y_lenN 0 rfl Tryz.runUnderlying44 rfl rfl readsN_ro) ?_
   refine oy rfl rfl (y_lss rfl rfl) ?_
   refine ops_nil ?_
   refine goes_code ?_
   refine run_cond (decide (k_6 < (a_0.length : Int))) rfl (fun hc11 => ?_) (fun hc11 => ?_)
   ·replace h := cond_t h hc11
    refine run_skip ?_
    refine goes_code ?_
    obtain ⟨o12, h, ho13⟩ := bindJ_some h
    refine run_cut ((Unit) × (Unit)) (fun σ => [(0, a_0v), (1, b_1v), (5, .int .i64 k_6)]) (fun σ => [nro a_0v NC_L_int_43 a_0, nro b_1v NC_L_int_43 b_1]) (fun σ => o12 = .go σ.1) (fun L15 hL14 => ?_) ?_
    ·
     refine run_block ?_
     refine run_seq ?_
     refine run_seq ?_
     refine run_draw (by kernel_rfl) (by kernel_rfl) ?_
     refine sy rfl rfl (y_move rfl) ?_
     refine sy rfl rfl (y_move rfl) ?_
     obtain ⟨x16, hzx16, hlx16, hxx16, h⟩ := idx_some h
     refine sy rfl rfl (y_indexAddrN (kd := .i64) (i := k_6) 0 Tryz.runUnderlying44 Tryz.sizeOf43 rfl rfl rfl readsN_ro hzx16 hlx16) ?_
     refine still_ex (exAt (C := NC_L_int_43) (i := k_6.toNat) 0 rfl hxx16) ?_
     rintro g17
     refine sy rfl rfl (y_load_at (n := k_6.toNat * 1) (j := 0) 2 Tryz.isAgg43 rfl rfl rfl) ?_
     refine sy rfl rfl ((y_len 3 rfl Tryz.runUnderlying43 rfl rfl reads_ro).to (v_len (eInt .i64) _)) ?_
     refine sy rfl rfl (y_move rfl) ?_
     refine sy rfl rfl (y_move rfl) ?_
     obtain ⟨x18, hzx18, hlx18, hxx18, h⟩ := idx_some h
     refine sy rfl rfl (y_indexAddrN (kd := .i64) (i := k_6) 1 Tryz.runUnderlying44 Tryz.sizeOf43 rfl rfl rfl readsN_ro hzx18 hlx18) ?_
     refine still_ex (exAt (C := NC_L_int_43) (i := k_6.toNat) 1 rfl hxx18) ?_
     rintro g19
     refine sy rfl rfl (y_load_at (n := k_6.toNat * 1) (j := 0) 4 Tryz.isAgg43 rfl rfl rfl) ?_
     refine sy rfl rfl ((y_len 5 rfl Tryz.runUnderlying43 rfl rfl reads_ro).to (v_len (eInt .i64) _)) ?_
     refine sy rfl rfl (y_neq rfl rfl) ?_
     refine still_nil ?_
     refine goes_code ?_
     refine run_cond (decide ((x16.length : Int) ≠ (x18.length : Int))) rfl (fun hc20 => ?_) (fun hc20 => ?_)
     ·replace h := cond_t h hc20
      refine run_seq ?_
      refine run_weak [] [] [] vnil (by decide) rfl ?_
      refine run_region' ?_
      refine oy rfl rfl (y_assign rfl) ?_
      refine ops_nil ?_
      refine goes_code ?_
      refine run_ret ?_
      obtain rfl := some_eq h
      obtain rfl := after_stop ho13
      skip
      obtain rfl := hstop9 _ rfl
      skip
      obtain rfl := after_stop ho3
      refine fin_slots [4] [.bool false] [] [] Tryz.results19 rfl (by decide) rfl ?_
      exact ⟨rfl, rfl⟩
     ·replace h := cond_f h hc20
      refine run_skip ?_
      refine goes_code ?_
      refine run_seq ?_
      refine run_weak [(5, .int .i64 k_6), (0, a_0v), (1, b_1v)] [0, 1] [nro a_0v NC_L_int_43 a_0, nro b_1v NC_L_int_43 b_1] (qv3 rfl rfl rfl) (by decide) rfl ?_
      refine run_region' ?_
      refine oy rfl rfl (y_assign rfl) ?_
      refine ops_nil ?_
      refine goes_code ?_
      refine run_block ?_
      refine run_iter (step := ref43_SameTimes_L2 a_0 b_1 k_6) (n := n) (s0 := 0) h (G := Unit) () (fun σ γ => [(6, .int .i64 σ), (0, a_0v), (1, b_1v), (5, .int .i64 k_6)]) (fun σ γ => [nro a_0v NC_L_int_43 a_0, nro b_1v NC_L_int_43 b_1]) [0, 1] (qv4 rfl rfl rfl rfl) (by decide) rfl ?_
      rintro i_21 _ o22 h L25 hgo23 hstop24
      change Run _ _ _ (VF.of [(6, .int .i64 i_21), (0, a_0v), (1, b_1v), (5, .int .i64 k_6)]) [nro a_0v NC_L_int_43 a_0, nro b_1v NC_L_int_43 b_1]
      refine run_seq ?_
      refine run_seq ?_
      refine run_region' ?_
      refine oy rfl rfl (y_move rfl) ?_
      refine oy rfl rfl (y_move rfl) ?_
      refine oy rfl rfl (y_move rfl) ?_
      obtain ⟨x26, hzx26, hlx26, hxx26, h⟩ := idx_some h
      refine oy rfl rfl (y_indexAddrN (kd := .i64) (i := k_6) 0 Tryz.runUnderlying44 Tryz.sizeOf43 rfl rfl rfl readsN_ro hzx26 hlx26) ?_
      refine ops_ex (exAt (C := NC_L_int_43) (i := k_6.toNat) 0 rfl hxx26) ?_
      rintro g27
      refine oy rfl rfl (y_load_at (n := k_6.toNat * 1) (j := 0) 2 Tryz.isAgg43 rfl rfl rfl) ?_
      refine oy rfl rfl ((y_len 3 rfl Tryz.runUnderlying43 rfl rfl reads_ro).to (v_len (eInt .i64) _)) ?_
      refine oy rfl rfl (y_lss rfl rfl) ?_
      refine ops_nil ?_
      refine goes_code ?_
      refine run_cond (decide (i_21 < (x26.length : Int))) rfl (fun hc28 => ?_) (fun hc28 => ?_)
      ·replace h := cond_t h hc28
       refine run_skip ?_
       refine goes_code ?_
       refine run_seq ?_
       refine run_block ?_
       refine run_seq ?_
       refine run_draw (by kernel_rfl) (by kernel_rfl) ?_
       refine sy rfl rfl (y_move rfl) ?_
       refine sy rfl rfl (y_move rfl) ?_
       refine sy rfl rfl (y_indexAddrN (kd := .i64) (i := k_6) 0 Tryz.runUnderlying44 Tryz.sizeOf43 rfl rfl rfl readsN_ro hzx26 hlx26) ?_
       refine sy rfl rfl (y_load_at (n := k_6.toNat * 1) (j := 0) 2 Tryz.isAgg43 rfl rfl rfl) ?_
       refine sy rfl rfl (y_move rfl) ?_
       obtain ⟨x29, hzx29, hlx29, hxx29, h⟩ := idx_some h
       refine sy rfl rfl (y_indexAddrI (kd := .i64) (i := i_21) 3 Tryz.runUnderlying43 Tryz.sizeOf3 rfl rfl rfl reads_ro hzx29 (map_lt hlx29)) ?_
       refine sy rfl rfl (y_load_elem (i := i_21.toNat) 3 Tryz.isAgg3 rfl rfl reads_ro (map_get hxx29)) ?_
       refine sy rfl rfl (y_move rfl) ?_
       refine sy rfl rfl (y_move rfl) ?_
       obtain ⟨x30, hzx30, hlx30, hxx30, h⟩ := idx_some h
       refine sy rfl rfl (y_indexAddrN (kd := .i64) (i := k_6) 1 Tryz.runUnderlying44 Tryz.sizeOf43 rfl rfl rfl readsN_ro hzx30 hlx30) ?_
       refine still_ex (exAt (C := NC_L_int_43) (i := k_6.toNat) 1 rfl hxx30) ?_
       rintro g31
       refine sy rfl rfl (y_load_at (n := k_6.toNat * 1) (j := 0) 4 Tryz.isAgg43 rfl rfl rfl) ?_
       refine sy rfl rfl (y_move rfl) ?_
       obtain ⟨x32, hzx32, hlx32, hxx32, h⟩ := idx_some h
       refine sy rfl rfl (y_indexAddrI (kd := .i64) (i := i_21) 5 Tryz.runUnderlying43 Tryz.sizeOf3 rfl rfl rfl reads_ro hzx32 (map_lt hlx32)) ?_
       refine sy rfl rfl (y_load_elem (i := i_21.toNat) 5 Tryz.isAgg3 rfl rfl reads_ro (map_get hxx32)) ?_
       refine sy rfl rfl (y_neq rfl rfl) ?_
       refine still_nil ?_
       refine goes_code ?_
       refine run_cond (decide (x29 ≠ x32)) rfl (fun hc33 => ?_) (fun hc33 => ?_)
       ·replace h := cond_t h hc33
        refine run_seq ?_
        refine run_weak [] [] [] vnil (by decide) rfl ?_
        refine run_region' ?_
        refine oy rfl rfl (y_assign rfl) ?_
        refine ops_nil ?_
        refine goes_code ?_
        refine run_ret ?_
        obtain rfl := some_eq h
        obtain rfl := hstop24 _ rfl
        skip
        obtain rfl := after_stop ho13
        skip
        obtain rfl := hstop9 _ rfl
        skip
        obtain rfl := after_stop ho3
        refine fin_slots [4] [.bool false] [] [] Tryz.results19 rfl (by decide) rfl ?_
        exact ⟨rfl, rfl⟩
       ·replace h := cond_f h hc33
        refine run_skip ?_
        refine goes_blk ?_
        refine goes_code ?_
        refine run_weak [(6, .int .i64 i_21), (0, a_0v), (1, b_1v), (5, .int .i64 k_6)] [0, 1] [nro a_0v NC_L_int_43 a_0, nro b_1v NC_L_int_43 b_1] (qv4 rfl rfl rfl rfl) (by decide) rfl ?_
        refine run_region' ?_
        refine oy rfl rfl (y_move rfl) ?_
        refine oy rfl rfl (y_add rfl rfl) ?_
        refine oy rfl rfl (y_assign rfl) ?_
        refine ops_nil ?_
        obtain rfl := some_eq h
        exact goes_iter hgo23 (IntKind.i64.wrap (i_21 + 1)) () [0, 1] rfl (qv4 rfl rfl rfl rfl) (by decide) rfl
      ·replace h := cond_f h hc28
       refine run_exit _ rfl ?_
       refine goes_blk ?_
       obtain rfl := some_eq h
       obtain rfl := hstop24 _ rfl
       exact goes_cut hL14 ((), ()) [0, 1] (qv3 rfl rfl rfl) (by decide) rfl rfl
    rintro ⟨_, _⟩ hj
    obtain rfl : o12 = _ := hj
    replace h := after_go ho13
    clear ho13
    change Run _ _ _ (VF.of [(0, a_0v), (1, b_1v), (5, .int .i64 k_6)]) [nro a_0v NC_L_int_43 a_0, nro b_1v NC_L_int_43 b_1]
    refine run_region' ?_
    refine oy rfl rfl (y_move rfl) ?_
    refine oy rfl rfl (y_add rfl rfl) ?_
    refine oy rfl rfl (y_assign rfl) ?_
    refine ops_nil ?_
    obtain rfl := some_eq h
    exact goes_iter hgo8 (IntKind.i64.wrap (k_6 + 1)) () [0, 1] rfl (qv3 rfl rfl rfl) (by decide) rfl
   ·replace h := cond_f h hc11
    refine run_exit _ rfl ?_
    obtain rfl := some_eq h
    obtain rfl := hstop9 _ rfl
    exact goes_cut hL4 ((), ()) [] vnil (by decide) rfl rfl
  rintro ⟨_, _⟩ hj
  obtain rfl : o2 = _ := hj
  replace h := after_go ho3
  clear ho3
  change Run _ _ _ (VF.of []) []
  refine run_seq ?_
  refine run_region' ?_
  refine oy rfl rfl (y_assign rfl) ?_
  refine ops_nil ?_
  refine goes_code ?_
  refine run_ret ?_
  obtain rfl := some_eq h
  refine fin_slots [4] [.bool true] [] [] Tryz.results19 rfl (by decide) rfl ?_
  exact ⟨rfl, rfl⟩

def playlist_lines (p_0 : S_api_Playlist) : Option (Unit) :=
 some ()
theorem playlist_lines_ok (p_0 : S_api_Playlist) (p_0_Lv : Value) {r : Unit} (h : playlist_lines p_0 = some r) :
  Meets Tryz.prog 45 [.agg #[.int .i64 p_0.First, p_0_Lv, .bool p_0.Done]] [ro p_0_Lv 20 (p_0.L.map S_api_Segment.enc), globA] (fun v G => ∃ v0, v = .func (.func 70) #[] #[boxP v0 0] ∧ G = [box v0 [.int .i64 p_0.First, p_0_Lv, .bool p_0.Done]]) := by
 refine fn_of_run Tryz.func45 rfl Tryz.ntmps45 rfl (fun w0 o0 => ?_)
 refine run_seq ?_
 refine run_region' ?_
 refine ot rfl rfl (t_box rfl) ?_
 rintro _ _ ⟨b1, rfl, rfl⟩
 refine oy rfl rfl (y_assign rfl) ?_
 refine ops_nil ?_
 refine goes_code ?_
 refine run_seq ?_
 refine run_region' ?_
 refine oy rfl rfl (y_makeFunc (vs := [boxP b1 0]) rfl) ?_
 refine oy rfl rfl (y_assign rfl) ?_
 refine ops_nil ?_
 refine goes_code ?_
 refine run_ret ?_
 obtain rfl := some_eq h
 refine fin_slots [2] [.func (.func 70) #[] #[boxP b1 0]] [2] [box b1 [.int .i64 p_0.First, p_0_Lv, .bool p_0.Done]] Tryz.results45 rfl (by decide) rfl ?_
 exact ⟨_, rfl, rfl⟩

def playlist_lines_1_70_L2 {St : Type} (x19 : S_api_Segment) : ((List UInt8) × Int) → Option (Lp ((List UInt8) × Int) (Lp ((List UInt8)) (Lp (Int × St) (Lp (St) (St))))) :=
 fun (hex_27, s_28) =>
  cond (decide (s_28 < 16))
   (need (0 ≤ s_28 ∧ s_28 < 16) (
   obind (some (S_api_Digest.get x19.Body s_28)) fun x36 =>
   idx [48, 49, 50, 51, 52, 53, 54, 55, 56, 57, 97, 98, 99, 100, 101, 102] (Int.fdiv x36 (2 ^ (min ((4 : Int).toNat) IntKind.u8.bits))) fun c37 =>
   idx [48, 49, 50, 51, 52, 53, 54, 55, 56, 57, 97, 98, 99, 100, 101, 102] (bitAnd .u8 x36 15) fun c38 =>
   need (hex_27.length + ([c37, c38] : List UInt8).length ≤ 4294967296) (
   some (.go ((hex_27 ++ ([c37, c38] : List UInt8)), (IntKind.i64.wrap (s_28 + 1)))))))
   (some (.stop (.go hex_27)))
def playlist_lines_1_70_L1 {St : Type} (n : Nat) (yield_ : St → (List UInt8) → Option (St × Bool)) (a_1 : S_api_Playlist) : (Int × St) → Option (Lp (Int × St) (Lp (St) (St))) :=
 fun (s_12, x_13) =>
  cond (decide (s_12 < (a_1.L.length : Int)))
   (idx a_1.L s_12 fun x19 =>
   bindJ (S := (List UInt8))
    (iter (playlist_lines_1_70_L2 x19) n (([] : List UInt8), 0))
   (fun hex_21 =>
    obind (itoaH x19.Begin) fun r42 =>
    obind (itoaH x19.Len) fun r44 =>
    obind (itoaH x19.Size) fun r46 =>
    obind (joinH ([r42, r44, r46, hex_21] : List (List UInt8)) [32]) fun r49 =>
    obind (yield_ x_13 r49) fun r51 =>
    cond (!r51.2)
     (some (.stop (.stop r51.1)))
     (some (.go ((IntKind.i64.wrap (s_12 + 1)), r51.1)))))
   (some (.stop (.go x_13)))
def playlist_lines_1_70 {St : Type} (n : Nat) (yield_ : St → (List UInt8) → Option (St × Bool)) (s_ : St) (a_1 : S_api_Playlist) : Option (St) :=
 obind (itoaH a_1.First) fun r1 =>
 need ([108, 105, 118, 101, 32].length + r1.length ≤ 4294967296) (
 obind (yield_ s_ ([108, 105, 118, 101, 32] ++ r1)) fun r4 =>
 cond (!r4.2)
  (some r4.1)
  (bindJ (S := St)
   (iter (playlist_lines_1_70_L1 n yield_ a_1) n (0, r4.1))
  (fun x_7 =>
   cond a_1.Done
    (obind (yield_ x_7 [100, 111, 110, 101]) fun r55 =>
    some r55.1)
    (some x_7))))
theorem playlist_lines_1_70_ok {St : Type} (n : Nat) (yield_ : St → (List UInt8) → Option (St × Bool)) (s_ : St) (a_1 : S_api_Playlist) (l : Nat) (A : St → HA) (hy : ∀ s x r, yield_ s x = some r → YMeets Tryz.prog l ((fun x => [.string (bs x)]) x) (A s) r.2 (A r.1)) (a_1b : Nat) (a_1_Lv : Value) {r : St} (h : playlist_lines_1_70 n yield_ s_ a_1 = some r) :
  Meets Tryz.prog 70 [.func (.yield l) #[] #[], boxP a_1b 0] [A s_, ro a_1_Lv 20 (a_1.L.map S_api_Segment.enc), box a_1b [.int .i64 a_1.First, a_1_Lv, .bool a_1.Done], globA] (fun v G => v = .tuple #[] ∧ G = [A r, box a_1b [.int .i64 a_1.First, a_1_Lv, .bool a_1.Done]]) := by
 refine fn_of_run Tryz.func70 rfl Tryz.ntmps70 rfl (fun w0 o0 => ?_)
 refine run_seq ?_
 refine run_seq ?_
 refine run_region' ?_
 refine oy rfl rfl (y_move rfl) ?_
 refine oy rfl rfl (y_fieldAddr_box (sz := 0) Tryz.runUnderlying24 rfl Tryz.sizeOf3 rfl) ?_
 refine oy rfl rfl (y_load_box 2 Tryz.isAgg3 rfl rfl rfl) ?_
 obtain ⟨r1, hr2, h⟩ := obind_some h
 refine ot rfl rfl (t_callx (vs := [.int .i64 a_1.First]) (cs := []) [(3, 0)] rfl Tryz.call71 rfl (itoaH_ok a_1.First  hr2) (showsX_view 3 rfl views_glob showsX_nil) rfl (.inl rfl)) ?_
 rintro _ _ ⟨_, ⟨rfl, rfl⟩, rfl⟩
 obtain ⟨hs3, h⟩ := need_some h
 refine oy rfl rfl (y_sadd rfl rfl hs3) ?_
 obtain ⟨r4, hr5, h⟩ := obind_some h
 refine ops_r (wn rfl) rfl (t_yield (vs := [.string (bs ([108, 105, 118, 101, 32] ++ r1))]) 0 rfl rfl rfl (hy _ _ _ hr5)) ?_
 rintro _ _ ⟨rfl, rfl⟩
 refine oy rfl rfl (y_not rfl) ?_
 refine ops_nil ?_
 refine goes_code ?_
 refine run_cond (!r4.2) rfl (fun hc6 => ?_) (fun hc6 => ?_)
 ·replace h := cond_t h hc6
  refine run_ret ?_
  obtain rfl := some_eq h
  refine fin_slots [] [] [0, 2] [A r4.1, box a_1b [.int .i64 a_1.First, a_1_Lv, .bool a_1.Done]] Tryz.results70 rfl (by decide) rfl ?_
  exact ⟨rfl, rfl⟩
 ·replace h := cond_f h hc6
  refine run_skip ?_
  refine goes_code ?_
  obtain ⟨o8, h, ho9⟩ := bindJ_some h
  refine run_cut ((St) × (Unit)) (fun σ => [(0, .func (.yield l) #[] #[]), (1, boxP a_1b 0)]) (fun σ => [A σ.1, box a_1b [.int .i64 a_1.First, a_1_Lv, .bool a_1.Done], ro a_1_Lv 20 (a_1.L.map S_api_Segment.enc), globA]) (fun σ => o8 = .go σ.1) (fun L11 hL10 => ?_) ?_
  ·
   refine run_seq ?_
   refine run_region' ?_
   refine oy rfl rfl (y_fieldAddr_box (sz := 0) Tryz.runUnderlying24 rfl Tryz.sizeOf22 rfl) ?_
   refine oy rfl rfl (y_load_box 2 Tryz.isAgg22 rfl rfl rfl) ?_
   refine oy rfl rfl ((y_len 1 rfl Tryz.runUnderlying22 rfl rfl reads_ro).to (v_len S_api_Segment.enc _)) ?_
   refine oy rfl rfl (y_move rfl) ?_
   refine ops_nil ?_
   refine goes_code ?_
   refine run_block ?_
   refine run_iter (step := playlist_lines_1_70_L1 n yield_ a_1) (n := n) (s0 := (0, r4.1)) h (G := Unit) () (fun σ γ => [(18, .int .i64 σ.1), (0, .func (.yield l) #[] #[]), (1, boxP a_1b 0), (16, a_1_Lv), (17, .int .i64 (a_1.L.length : Int))]) (fun σ γ => [A σ.2, box a_1b [.int .i64 a_1.First, a_1_Lv, .bool a_1.Done], ro a_1_Lv 20 (a_1.L.map S_api_Segment.enc), globA]) [0, 2, 1, 3] (qv5 rfl rfl rfl rfl rfl) (by decide) rfl ?_
   rintro ⟨s_12, x_13⟩ _ o14 h L17 hgo15 hstop16
   change Run _ _ _ (VF.of [(18, .int .i64 s_12), (0, .func (.yield l) #[] #[]), (1, boxP a_1b 0), (16, a_1_Lv), (17, .int .i64 (a_1.L.length : Int))]) [A x_13, box a_1b [.int .i64 a_1.First, a_1_Lv, .bool a_1.Done], ro a_1_Lv 20 (a_1.L.map S_api_Segment.enc), globA]
   refine run_seq ?_
   refine run_region' ?_
   refine oy rfl rfl (y_lss rfl rfl) ?_
   refine ops_nil ?_
   refine goes_code ?_
   refine run_seq ?_
   refine run_cond (decide (s_12 < (a_1.L.length : Int))) rfl (fun hc18 => ?_) (fun hc18 => ?_)
   ·replace h := cond_t h hc18
    refine run_skip ?_
    refine goes_code ?_
    refine run_seq ?_
    refine run_block ?_
    refine run_seq ?_
    refine run_region' ?_
    obtain ⟨x19, hzx19, hlx19, hxx19, h⟩ := idx_some h
    refine oy rfl rfl (y_indexAddrI (kd := .i64) (i := s_12) 2 Tryz.runUnderlying22 Tryz.sizeOf57 rfl rfl rfl reads_ro hzx19 (map_lt hlx19)) ?_
    refine oy rfl rfl (y_load_agg (i := s_12.toNat) (c := [.int .i64 x19.Num, .int .i64 x19.Begin, .int .i64 x19.Len, .int .u8 x19.Body.a0_, .int .u8 x19.Body.a1_, .int .u8 x19.Body.a2_, .int .u8 x19.Body.a3_, .int .u8 x19.Body.a4_, .int .u8 x19.Body.a5_, .int .u8 x19.Body.a6_, .int .u8 x19.Body.a7_, .int .u8 x19.Body.a8_, .int .u8 x19.Body.a9_, .int .u8 x19.Body.a10_, .int .u8 x19.Body.a11_, .int .u8 x19.Body.a12_, .int .u8 x19.Body.a13_, .int .u8 x19.Body.a14_, .int .u8 x19.Body.a15_, .int .i64 x19.Size]) 2 Tryz.isAgg57 Tryz.sizeOf57 rfl rfl reads_ro (map_get hxx19)) ?_
    refine ot rfl rfl (t_alloc Tryz.zeroValue57) ?_
    rintro _ _ ⟨b20, rfl, rfl⟩
    refine ot rfl rfl (t_store 4 Tryz.sizeOf57 rfl rfl rfl rfl (by simp [Value.cells, boxP]) (by simp [Value.cells, Value.oneCell', boxP])) ?_
    rintro _ _ ⟨rfl, rfl⟩
    refine ops_turn (retell 4 (g := box b20 [.int .i64 x19.Num, .int .i64 x19.Begin, .int .i64 x19.Len, .int .u8 x19.Body.a0_, .int .u8 x19.Body.a1_, .int .u8 x19.Body.a2_, .int .u8 x19.Body.a3_, .int .u8 x19.Body.a4_, .int .u8 x19.Body.a5_, .int .u8 x19.Body.a6_, .int .u8 x19.Body.a7_, .int .u8 x19.Body.a8_, .int .u8 x19.Body.a9_, .int .u8 x19.Body.a10_, .int .u8 x19.Body.a11_, .int .u8 x19.Body.a12_, .int .u8 x19.Body.a13_, .int .u8 x19.Body.a14_, .int .u8 x19.Body.a15_, .int .i64 x19.Size]) rfl (by kernel_rfl)) ?_
    refine ops_nil ?_
    refine goes_code ?_
    refine run_seq ?_
    refine run_region' ?_
    refine oy rfl rfl (y_assign rfl) ?_
    refine ops_nil ?_
    refine goes_code ?_
    obtain ⟨o23, h, ho24⟩ := bindJ_some h
    refine run_cut (((List UInt8)) × (Value)) (fun σ => [(5, σ.2), (0, .func (.yield l) #[] #[]), (1, boxP a_1b 0), (4, boxP b20 0), (16, a_1_Lv), (17, .int .i64 (a_1.L.length : Int)), (18, .int .i64 s_12)]) (fun σ => [row σ.2 1 (σ.1.map eB8), A x_13, box a_1b [.int .i64 a_1.First, a_1_Lv, .bool a_1.Done], ro a_1_Lv 20 (a_1.L.map S_api_Segment.enc), box b20 [.int .i64 x19.Num, .int .i64 x19.Begin, .int .i64 x19.Len, .int .u8 x19.Body.a0_, .int .u8 x19.Body.a1_, .int .u8 x19.Body.a2_, .int .u8 x19.Body.a3_, .int .u8 x19.Body.a4_, .int .u8 x19.Body.a5_, .int .u8 x19.Body.a6_, .int .u8 x19.Body.a7_, .int .u8 x19.Body.a8_, .int .u8 x19.Body.a9_, .int .u8 x19.Body.a10_, .int .u8 x19.Body.a11_, .int .u8 x19.Body.a12_, .int .u8 x19.Body.a13_, .int .u8 x19.Body.a14_, .int .u8 x19.Body.a15_, .int .i64 x19.Size], globA]) (fun σ => o23 = .go σ.1) (fun L26 hL25 => ?_) ?_
    ·
     refine run_seq ?_
     refine run_region' ?_
     refine oy rfl rfl (y_fieldAddr_box (sz := 15) Tryz.runUnderlying57 rfl Tryz.sizeOf55 rfl) ?_
     refine oy rfl rfl (y_load_boxagg (c := [.int .u8 x19.Body.a0_, .int .u8 x19.Body.a1_, .int .u8 x19.Body.a2_, .int .u8 x19.Body.a3_, .int .u8 x19.Body.a4_, .int .u8 x19.Body.a5_, .int .u8 x19.Body.a6_, .int .u8 x19.Body.a7_, .int .u8 x19.Body.a8_, .int .u8 x19.Body.a9_, .int .u8 x19.Body.a10_, .int .u8 x19.Body.a11_, .int .u8 x19.Body.a12_, .int .u8 x19.Body.a13_, .int .u8 x19.Body.a14_, .int .u8 x19.Body.a15_]) 4 Tryz.isAgg55 Tryz.sizeOf55 rfl rfl rfl) ?_
     refine oy rfl rfl (y_move rfl) ?_
     refine ops_nil ?_
     refine goes_code ?_
     refine run_block ?_
     refine run_turn (nilrow 1) ?_
     refine run_turn (retell 5 (g := row (.slice none 0 0) 1 (([] : List UInt8).map eB8)) rfl rfl) ?_
     refine run_iter (step := playlist_lines_1_70_L2 x19) (n := n) (s0 := (([] : List UInt8), 0)) h (G := Value) (.slice none 0 0) (fun σ γ => [(5, γ), (24, .int .i64 σ.2), (0, .func (.yield l) #[] #[]), (1, boxP a_1b 0), (4, boxP b20 0), (16, a_1_Lv), (17, .int .i64 (a_1.L.length : Int)), (18, .int .i64 s_12), (23, .agg #[.int .u8 x19.Body.a0_, .int .u8 x19.Body.a1_, .int .u8 x19.Body.a2_, .int .u8 x19.Body.a3_, .int .u8 x19.Body.a4_, .int .u8 x19.Body.a5_, .int .u8 x19.Body.a6_, .int .u8 x19.Body.a7_, .int .u8 x19.Body.a8_, .int .u8 x19.Body.a9_, .int .u8 x19.Body.a10_, .int .u8 x19.Body.a11_, .int .u8 x19.Body.a12_, .int .u8 x19.Body.a13_, .int .u8 x19.Body.a14_, .int .u8 x19.Body.a15_])]) (fun σ γ => [row γ 1 (σ.1.map eB8), A x_13, box a_1b [.int .i64 a_1.First, a_1_Lv, .bool a_1.Done], ro a_1_Lv 20 (a_1.L.map S_api_Segment.enc), box b20 [.int .i64 x19.Num, .int .i64 x19.Begin, .int .i64 x19.Len, .int .u8 x19.Body.a0_, .int .u8 x19.Body.a1_, .int .u8 x19.Body.a2_, .int .u8 x19.Body.a3_, .int .u8 x19.Body.a4_, .int .u8 x19.Body.a5_, .int .u8 x19.Body.a6_, .int .u8 x19.Body.a7_, .int .u8 x19.Body.a8_, .int .u8 x19.Body.a9_, .int .u8 x19.Body.a10_, .int .u8 x19.Body.a11_, .int .u8 x19.Body.a12_, .int .u8 x19.Body.a13_, .int .u8 x19.Body.a14_, .int .u8 x19.Body.a15_, .int .i64 x19.Size], globA]) [5, 0, 1, 2, 4, 3] (qv9 rfl rfl rfl rfl rfl rfl rfl rfl rfl) (by decide) rfl ?_
     rintro ⟨hex_27, s_28⟩ v29 o30 h L33 hgo31 hstop32
     change Run _ _ _ (VF.of [(5, v29), (24, .int .i64 s_28), (0, .func (.yield l) #[] #[]), (1, boxP a_1b 0), (4, boxP b20 0), (16, a_1_Lv), (17, .int .i64 (a_1.L.length : Int)), (18, .int .i64 s_12), (23, .agg #[.int .u8 x19.Body.a0_, .int .u8 x19.Body.a1_, .int .u8 x19.Body.a2_, .int .u8 x19.Body.a3_, .int .u8 x19.Body.a4_, .int .u8 x19.Body.a5_, .int .u8 x19.Body.a6_, .int .u8 x19.Body.a7_, .int .u8 x19.Body.a8_, .int .u8 x19.Body.a9_, .int .u8 x19.Body.a10_, .int .u8 x19.Body.a11_, .int .u8 x19.Body.a12_, .int .u8 x19.Body.a13_, .int .u8 x19.Body.a14_, .int .u8 x19.Body.a15_])]) [row v29 1 (hex_27.map eB8), A x_13, box a_1b [.int .i64 a_1.First, a_1_Lv, .bool a_1.Done], ro a_1_Lv 20 (a_1.L.map S_api_Segment.enc), box b20 [.int .i64 x19.Num, .int .i64 x19.Begin, .int .i64 x19.Len, .int .u8 x19.Body.a0_, .int .u8 x19.Body.a1_, .int .u8 x19.Body.a2_, .int .u8 x19.Body.a3_, .int .u8 x19.Body.a4_, .int .u8 x19.Body.a5_, .int .u8 x19.Body.a6_, .int .u8 x19.Body.a7_, .int .u8 x19.Body.a8_, .int .u8 x19.Body.a9_, .int .u8 x19.Body.a10_, .int .u8 x19.Body.a11_, .int .u8 x19.Body.a12_, .int .u8 x19.Body.a13_, .int .u8 x19.Body.a14_, .int .u8 x19.Body.a15_, .int .i64 x19.Size], globA]
     refine run_seq ?_
     refine run_region' ?_
     refine oy rfl rfl (y_lss rfl rfl) ?_
     refine ops_nil ?_
     refine goes_code ?_
     refine run_seq ?_
     refine run_cond (decide (s_28 < 16)) rfl (fun hc34 => ?_) (fun hc34 => ?_)
     ·replace h := cond_t h hc34
      refine run_skip ?_
      refine goes_code ?_
      refine run_seq ?_
      refine run_block ?_
      refine run_seq ?_
      refine run_region' ?_
      obtain ⟨hi35, h⟩ := need_some h
      obtain ⟨x36, hxx36, h⟩ := obind_some h
      refine oy rfl rfl (y_index_aggI (i := s_28) (cs := S_api_Digest.toL x19.Body |>.flatMap (eInt .u8)) Tryz.runUnderlying55 Tryz.sizeOf5 Tryz.isAgg5 rfl rfl hi35 (arr_get (F := (eInt .u8)) (es := 1) (j := 0) (fun x => ((eInt_ok _) x).1) (S_api_Digest.get_at (p := x19.Body) hi35 hxx36) rfl [] [])) ?_
      refine oy rfl rfl (y_assign rfl) ?_
      refine ops_nil ?_
      refine goes_code ?_
      refine run_drawany [HA.emp, A x_13, box a_1b [.int .i64 a_1.First, a_1_Lv, .bool a_1.Done], ro a_1_Lv 20 (a_1.L.map S_api_Segment.enc), box b20 [.int .i64 x19.Num, .int .i64 x19.Begin, .int .i64 x19.Len, .int .u8 x19.Body.a0_, .int .u8 x19.Body.a1_, .int .u8 x19.Body.a2_, .int .u8 x19.Body.a3_, .int .u8 x19.Body.a4_, .int .u8 x19.Body.a5_, .int .u8 x19.Body.a6_, .int .u8 x19.Body.a7_, .int .u8 x19.Body.a8_, .int .u8 x19.Body.a9_, .int .u8 x19.Body.a10_, .int .u8 x19.Body.a11_, .int .u8 x19.Body.a12_, .int .u8 x19.Body.a13_, .int .u8 x19.Body.a14_, .int .u8 x19.Body.a15_, .int .i64 x19.Size], globA] (by kernel_rfl) ?_
      refine any_y 0 rfl (by kernel_rfl) (by kernel_rfl) (by kernel_rfl) (se (ss (ss (ss (ss (ss (sn))))))) (wn rfl) rfl (y_move rfl) ?_
      refine any_y 1 rfl (by kernel_rfl) (by kernel_rfl) (by kernel_rfl) (se (ss (ss (ss (ss (ss (sn))))))) (wn rfl) rfl (y_move rfl) ?_
      refine any_y 2 rfl (by kernel_rfl) (by kernel_rfl) (by kernel_rfl) (se (ss (ss (ss (ss (ss (sn))))))) (wn rfl) rfl (y_shr rfl rfl (by decide)) ?_
      obtain ⟨c37, hzc37, hlc37, hxc37, h⟩ := idx_some h
      refine any_y 3 rfl (by kernel_rfl) (by kernel_rfl) (by kernel_rfl) (se (ss (ss (ss (ss (ss (sn))))))) (wn rfl) rfl (y_index_strI (kd := .u8) (i := (Int.fdiv x36 (2 ^ (min ((4 : Int).toNat) IntKind.u8.bits)))) Tryz.runUnderlying9 rfl rfl hzc37 hxc37) ?_
      refine any_y 4 rfl (by kernel_rfl) (by kernel_rfl) (by kernel_rfl) (se (ss (ss (ss (ss (ss (sn))))))) (wn rfl) rfl (y_move rfl) ?_
      refine any_y 5 rfl (by kernel_rfl) (by kernel_rfl) (by kernel_rfl) (se (ss (ss (ss (ss (ss (sn))))))) (wn rfl) rfl (y_and rfl rfl) ?_
      obtain ⟨c38, hzc38, hlc38, hxc38, h⟩ := idx_some h
      refine any_y 6 rfl (by kernel_rfl) (by kernel_rfl) (by kernel_rfl) (se (ss (ss (ss (ss (ss (sn))))))) (wn rfl) rfl (y_index_strI (kd := .u8) (i := (bitAnd .u8 x36 15)) Tryz.runUnderlying9 rfl rfl hzc38 hxc38) ?_
      refine any_all [7] (by kernel_rfl) rfl (anyo_cons ?_ anyo_nil)
      refine any_t rfl (wn rfl) rfl (t_lit [.int .u8 (c37.toNat : Int), .int .u8 (c38.toNat : Int)] Tryz.runUnderlying97 Tryz.sizeOf5 Tryz.zeroValue5 rfl (by decide) (by decide) rfl (by simp [Value.cells, boxP])) ?_
      rintro v39 _ ⟨rfl, _⟩
      refine ⟨(se (ss (ss (ss (ss (ss (sn))))))), ?_⟩
      refine any_turn (retell 6 (g := row v39 1 (([c37, c38] : List UInt8).map eB8)) rfl rfl) ?_
      refine any_all [8] (by kernel_rfl) rfl (anyo_cons ?_ anyo_nil)
      obtain ⟨hr41, h⟩ := need_some h
      refine any_t rfl (wn rfl) rfl (t_append (es := 1) 0 rfl Tryz.runUnderlying97 rfl Tryz.runUnderlying97 (.inr ⟨_, rfl⟩) Tryz.typeInfo5 rfl (by decide) Tryz.zeroValue5 rfl rfl rfl rfl (src_reads 6 rfl reads_row (map_ok eB8_ok _)) (map_room hr41 (by decide)) (map_fit hr41)) ?_
      rintro v40 _ rfl
      refine ⟨(se (ss (ss (ss (ss (ss (sn))))))), ?_⟩
      refine any_turn (retell 0 (g := row v40 1 ((hex_27 ++ ([c37, c38] : List UInt8)).map eB8)) rfl (congrArg (row _ _) List.map_append.symm)) ?_
      refine any_y 9 rfl (by kernel_rfl) (by kernel_rfl) (by kernel_rfl) (se (ss (ss (ss (ss (ss (sn))))))) (wn rfl) rfl (y_assign rfl) ?_
      refine any_nil (by kernel_rfl) ?_
      refine goes_blk ?_
      refine goes_code ?_
      refine run_weak [(5, v40), (24, .int .i64 s_28), (0, .func (.yield l) #[] #[]), (1, boxP a_1b 0), (4, boxP b20 0), (16, a_1_Lv), (17, .int .i64 (a_1.L.length : Int)), (18, .int .i64 s_12), (23, .agg #[.int .u8 x19.Body.a0_, .int .u8 x19.Body.a1_, .int .u8 x19.Body.a2_, .int .u8 x19.Body.a3_, .int .u8 x19.Body.a4_, .int .u8 x19.Body.a5_, .int .u8 x19.Body.a6_, .int .u8 x19.Body.a7_, .int .u8 x19.Body.a8_, .int .u8 x19.Body.a9_, .int .u8 x19.Body.a10_, .int .u8 x19.Body.a11_, .int .u8 x19.Body.a12_, .int .u8 x19.Body.a13_, .int .u8 x19.Body.a14_, .int .u8 x19.Body.a15_])] [0, 1, 2, 3, 4, 5] [row v40 1 ((hex_27 ++ ([c37, c38] : List UInt8)).map eB8), A x_13, box a_1b [.int .i64 a_1.First, a_1_Lv, .bool a_1.Done], ro a_1_Lv 20 (a_1.L.map S_api_Segment.enc), box b20 [.int .i64 x19.Num, .int .i64 x19.Begin, .int .i64 x19.Len, .int .u8 x19.Body.a0_, .int .u8 x19.Body.a1_, .int .u8 x19.Body.a2_, .int .u8 x19.Body.a3_, .int .u8 x19.Body.a4_, .int .u8 x19.Body.a5_, .int .u8 x19.Body.a6_, .int .u8 x19.Body.a7_, .int .u8 x19.Body.a8_, .int .u8 x19.Body.a9_, .int .u8 x19.Body.a10_, .int .u8 x19.Body.a11_, .int .u8 x19.Body.a12_, .int .u8 x19.Body.a13_, .int .u8 x19.Body.a14_, .int .u8 x19.Body.a15_, .int .i64 x19.Size], globA] (qv9 rfl rfl rfl rfl rfl rfl rfl rfl rfl) (by decide) rfl ?_
      refine run_region' ?_
      refine oy rfl rfl (y_add rfl rfl) ?_
      refine oy rfl rfl (y_move rfl) ?_
      refine ops_nil ?_
      obtain rfl := some_eq h
      exact goes_iter hgo31 ((hex_27 ++ ([c37, c38] : List UInt8)), (IntKind.i64.wrap (s_28 + 1))) v40 [0, 1, 2, 3, 4, 5] rfl (qv9 rfl rfl rfl rfl rfl rfl rfl rfl rfl) (by decide) rfl
     ·replace h := cond_f h hc34
      refine run_exit _ rfl ?_
      obtain rfl := some_eq h
      obtain rfl := hstop32 _ rfl
      exact goes_cut hL25 (hex_27, v29) [0, 1, 2, 3, 4, 5] (qv7 rfl rfl rfl rfl rfl rfl rfl) (by decide) rfl rfl
    rintro ⟨hex_21, v22⟩ hj
    obtain rfl : o23 = _ := hj
    replace h := after_go ho24
    clear ho24
    change Run _ _ _ (VF.of [(5, v22), (0, .func (.yield l) #[] #[]), (1, boxP a_1b 0), (4, boxP b20 0), (16, a_1_Lv), (17, .int .i64 (a_1.L.length : Int)), (18, .int .i64 s_12)]) [row v22 1 (hex_21.map eB8), A x_13, box a_1b [.int .i64 a_1.First, a_1_Lv, .bool a_1.Done], ro a_1_Lv 20 (a_1.L.map S_api_Segment.enc), box b20 [.int .i64 x19.Num, .int .i64 x19.Begin, .int .i64 x19.Len, .int .u8 x19.Body.a0_, .int .u8 x19.Body.a1_, .int .u8 x19.Body.a2_, .int .u8 x19.Body.a3_, .int .u8 x19.Body.a4_, .int .u8 x19.Body.a5_, .int .u8 x19.Body.a6_, .int .u8 x19.Body.a7_, .int .u8 x19.Body.a8_, .int .u8 x19.Body.a9_, .int .u8 x19.Body.a10_, .int .u8 x19.Body.a11_, .int .u8 x19.Body.a12_, .int .u8 x19.Body.a13_, .int .u8 x19.Body.a14_, .int .u8 x19.Body.a15_, .int .i64 x19.Size], globA]
    refine run_seq ?_
    refine run_drawany [row v22 1 (hex_21.map eB8), HA.emp, box a_1b [.int .i64 a_1.First, a_1_Lv, .bool a_1.Done], ro a_1_Lv 20 (a_1.L.map S_api_Segment.enc), box b20 [.int .i64 x19.Num, .int .i64 x19.Begin, .int .i64 x19.Len, .int .u8 x19.Body.a0_, .int .u8 x19.Body.a1_, .int .u8 x19.Body.a2_, .int .u8 x19.Body.a3_, .int .u8 x19.Body.a4_, .int .u8 x19.Body.a5_, .int .u8 x19.Body.a6_, .int .u8 x19.Body.a7_, .int .u8 x19.Body.a8_, .int .u8 x19.Body.a9_, .int .u8 x19.Body.a10_, .int .u8 x19.Body.a11_, .int .u8 x19.Body.a12_, .int .u8 x19.Body.a13_, .int .u8 x19.Body.a14_, .int .u8 x19.Body.a15_, .int .i64 x19.Size], globA] (by kernel_rfl) ?_
    refine any_y 0 rfl (by kernel_rfl) (by kernel_rfl) (by kernel_rfl) (ss (se (ss (ss (ss (ss (sn))))))) (wn rfl) rfl (y_move rfl) ?_
    refine any_y 1 rfl (by kernel_rfl) (by kernel_rfl) (by kernel_rfl) (ss (se (ss (ss (ss (ss (sn))))))) (wn rfl) rfl (y_fieldAddr_box (sz := 0) Tryz.runUnderlying57 rfl Tryz.sizeOf3 rfl) ?_
    refine any_y 2 rfl (by kernel_rfl) (by kernel_rfl) (by kernel_rfl) (ss (se (ss (ss (ss (ss (sn))))))) (wn rfl) rfl (y_load_box 4 Tryz.isAgg3 rfl rfl rfl) ?_
    refine any_y 4 rfl (by kernel_rfl) (by kernel_rfl) (by kernel_rfl) (ss (se (ss (ss (ss (ss (sn))))))) (wn rfl) rfl (y_fieldAddr_box (sz := 0) Tryz.runUnderlying57 rfl Tryz.sizeOf3 rfl) ?_
    refine any_y 5 rfl (by kernel_rfl) (by kernel_rfl) (by kernel_rfl) (ss (se (ss (ss (ss (ss (sn))))))) (wn rfl) rfl (y_load_box 4 Tryz.isAgg3 rfl rfl rfl) ?_
    refine any_y 7 rfl (by kernel_rfl) (by kernel_rfl) (by kernel_rfl) (ss (se (ss (ss (ss (ss (sn))))))) (wn rfl) rfl (y_fieldAddr_box (sz := 0) Tryz.runUnderlying57 rfl Tryz.sizeOf3 rfl) ?_
    refine any_y 8 rfl (by kernel_rfl) (by kernel_rfl) (by kernel_rfl) (ss (se (ss (ss (ss (ss (sn))))))) (wn rfl) rfl (y_load_box 4 Tryz.isAgg3 rfl rfl rfl) ?_
    refine any_y 10 rfl (by kernel_rfl) (by kernel_rfl) (by kernel_rfl) (ss (se (ss (ss (ss (ss (sn))))))) (wn rfl) rfl (y_move rfl) ?_
    refine any_y 11 rfl (by kernel_rfl) (by kernel_rfl) (by kernel_rfl) (ss (se (ss (ss (ss (ss (sn))))))) (wn rfl) rfl (y_b2s (l := hex_21) 0 Tryz.runUnderlying97 Tryz.runUnderlying5 Tryz.runUnderlying9 rfl rfl reads_row) ?_
    refine any_all [3] (by kernel_rfl) rfl (anyo_cons ?_ anyo_nil)
    obtain ⟨r42, hr43, h⟩ := obind_some h
    refine any_t rfl (wn rfl) rfl (t_callx (vs := [.int .i64 x19.Begin]) (cs := []) [(5, 0)] rfl Tryz.call71 rfl (itoaH_ok x19.Begin  hr43) (showsX_view 5 rfl views_glob showsX_nil) rfl (.inl rfl)) ?_
    rintro _ _ ⟨_, ⟨rfl, rfl⟩, rfl⟩
    refine ⟨(ss (se (ss (ss (ss (ss (sn))))))), ?_⟩
    refine any_all [6] (by kernel_rfl) rfl (anyo_cons ?_ anyo_nil)
    obtain ⟨r44, hr45, h⟩ := obind_some h
    refine any_t rfl (wn rfl) rfl (t_callx (vs := [.int .i64 x19.Len]) (cs := []) [(5, 0)] rfl Tryz.call71 rfl (itoaH_ok x19.Len  hr45) (showsX_view 5 rfl views_glob showsX_nil) rfl (.inl rfl)) ?_
    rintro _ _ ⟨_, ⟨rfl, rfl⟩, rfl⟩
    refine ⟨(ss (se (ss (ss (ss (ss (sn))))))), ?_⟩
    refine any_all [9] (by kernel_rfl) rfl (anyo_cons ?_ anyo_nil)
    obtain ⟨r46, hr47, h⟩ := obind_some h
    refine any_t rfl (wn rfl) rfl (t_callx (vs := [.int .i64 x19.Size]) (cs := []) [(5, 0)] rfl Tryz.call71 rfl (itoaH_ok x19.Size  hr47) (showsX_view 5 rfl views_glob showsX_nil) rfl (.inl rfl)) ?_
    rintro _ _ ⟨_, ⟨rfl, rfl⟩, rfl⟩
    refine ⟨(ss (se (ss (ss (ss (ss (sn))))))), ?_⟩
    refine any_all [12] (by kernel_rfl) rfl (anyo_cons ?_ anyo_nil)
    refine any_t rfl (wn rfl) rfl (t_lit [.string (bs r42), .string (bs r44), .string (bs r46), .string (bs hex_21)] Tryz.runUnderlying81 Tryz.sizeOf9 Tryz.zeroValue9 rfl (by decide) (by decide) rfl (by simp [Value.cells, boxP])) ?_
    rintro v48 _ ⟨rfl, _⟩
    refine ⟨(ss (se (ss (ss (ss (ss (sn))))))), ?_⟩
    refine any_turn (retell 6 (g := row v48 1 (([r42, r44, r46, hex_21] : List (List UInt8)).map eStr)) rfl rfl) ?_
    refine any_all [13] (by kernel_rfl) rfl (anyo_cons ?_ anyo_nil)
    obtain ⟨r49, hr50, h⟩ := obind_some h
    refine any_t rfl (wn rfl) rfl (t_callx (vs := [v48, .string (bs [32])]) (cs := []) [(6, 1)] rfl Tryz.call72 rfl (joinH_ok ([r42, r44, r46, hex_21] : List (List UInt8)) [32] v48 hr50) (showsX_look 6 rfl views_row showsX_nil) rfl (.inr (by rintro _ _ ⟨rfl, rfl⟩ g hg; first | (cases hg; done) | (simp only [List.mem_cons, List.not_mem_nil, or_false] at hg; first | (subst hg; first | exact strict_row | exact strict_box) | (rcases hg with rfl | rfl <;> first | exact strict_row | exact strict_box) | (rcases hg with rfl | rfl | rfl <;> first | exact strict_row | exact strict_box))))) ?_
    rintro _ _ ⟨_, ⟨rfl, rfl⟩, rfl⟩
    refine ⟨(ss (se (ss (ss (ss (ss (sn))))))), ?_⟩
    refine any_all [14] (by kernel_rfl) rfl (anyo_cons ?_ anyo_nil)
    obtain ⟨r51, hr52, h⟩ := obind_some h
    refine any_r rfl (wn rfl) rfl (t_yield (vs := [.string (bs r49)]) 1 rfl rfl rfl (hy _ _ _ hr52)) ?_
    rintro _ _ ⟨rfl, rfl⟩
    refine ⟨(ss (se (ss (ss (ss (ss (sn))))))), ?_⟩
    refine any_y 15 rfl (by kernel_rfl) (by kernel_rfl) (by kernel_rfl) (ss (se (ss (ss (ss (ss (sn))))))) (wn rfl) rfl (y_not rfl) ?_
    refine any_nil (by kernel_rfl) ?_
    refine goes_code ?_
    refine run_cond (!r51.2) rfl (fun hc53 => ?_) (fun hc53 => ?_)
    ·replace h := cond_t h hc53
     refine run_ret ?_
     obtain rfl := some_eq h
     obtain rfl := hstop16 _ rfl
     skip
     obtain rfl := after_stop ho9
     refine fin_slots [] [] [1, 2] [A r51.1, box a_1b [.int .i64 a_1.First, a_1_Lv, .bool a_1.Done]] Tryz.results70 rfl (by decide) rfl ?_
     exact ⟨rfl, rfl⟩
    ·replace h := cond_f h hc53
     refine run_skip ?_
     refine goes_blk ?_
     refine goes_code ?_
     refine run_weak [(0, .func (.yield l) #[] #[]), (1, boxP a_1b 0), (16, a_1_Lv), (17, .int .i64 (a_1.L.length : Int)), (18, .int .i64 s_12)] [1, 2, 3, 5] [A r51.1, box a_1b [.int .i64 a_1.First, a_1_Lv, .bool a_1.Done], ro a_1_Lv 20 (a_1.L.map S_api_Segment.enc), globA] (qv5 rfl rfl rfl rfl rfl) (by decide) rfl ?_
     refine run_region' ?_
     refine oy rfl rfl (y_add rfl rfl) ?_
     refine oy rfl rfl (y_move rfl) ?_
     refine ops_nil ?_
     obtain rfl := some_eq h
     exact goes_iter hgo15 ((IntKind.i64.wrap (s_12 + 1)), r51.1) () [0, 1, 2, 3] rfl (qv5 rfl rfl rfl rfl rfl) (by decide) rfl
   ·replace h := cond_f h hc18
    refine run_exit _ rfl ?_
    obtain rfl := some_eq h
    obtain rfl := hstop16 _ rfl
    exact goes_cut hL10 (x_13, ()) [0, 1, 2, 3] (qv2 rfl rfl) (by decide) rfl rfl
  rintro ⟨x_7, _⟩ hj
  obtain rfl : o8 = _ := hj
  replace h := after_go ho9
  clear ho9
  change Run _ _ _ (VF.of [(0, .func (.yield l) #[] #[]), (1, boxP a_1b 0)]) [A x_7, box a_1b [.int .i64 a_1.First, a_1_Lv, .bool a_1.Done], ro a_1_Lv 20 (a_1.L.map S_api_Segment.enc), globA]
  refine run_seq ?_
  refine run_region' ?_
  refine oy rfl rfl (y_fieldAddr_box (sz := 0) Tryz.runUnderlying24 rfl Tryz.sizeOf4 rfl) ?_
  refine oy rfl rfl (y_load_box 1 Tryz.isAgg4 rfl rfl rfl) ?_
  refine ops_nil ?_
  refine goes_code ?_
  refine run_cond a_1.Done rfl (fun hc54 => ?_) (fun hc54 => ?_)
  ·replace h := cond_t h hc54
   refine run_region' ?_
   refine oy rfl rfl (y_move rfl) ?_
   obtain ⟨r55, hr56, h⟩ := obind_some h
   refine ops_r (wn rfl) rfl (t_yield (vs := [.string (bs [100, 111, 110, 101])]) 0 rfl rfl rfl (hy _ _ _ hr56)) ?_
   rintro _ _ ⟨rfl, rfl⟩
   refine ops_nil ?_
   refine goes_nil ?_
   obtain rfl := some_eq h
   refine fin_slots [] [] [0, 1] [A r55.1, box a_1b [.int .i64 a_1.First, a_1_Lv, .bool a_1.Done]] Tryz.results70 rfl (by decide) rfl ?_
   exact ⟨rfl, rfl⟩
  ·replace h := cond_f h hc54
   refine run_skip ?_
   refine goes_nil ?_
   obtain rfl := some_eq h
   refine fin_slots [] [] [0, 1] [A x_7, box a_1b [.int .i64 a_1.First, a_1_Lv, .bool a_1.Done]] Tryz.results70 rfl (by decide) rfl ?_
   exact ⟨rfl, rfl⟩

def playlist_Text_R1 : ((List UInt8)) → (List UInt8) → Option (((List UInt8)) × Option Nat) :=
 fun x_10 x9 =>
  need (x9.length + [10].length ≤ 4294967296) (
  need (x_10.length + (x9 ++ [10]).length ≤ 4294967296) (
  some ((x_10 ++ (x9 ++ [10])), none)))
def playlist_Text (n : Nat) (p_0 : S_api_Playlist) : Option ((List UInt8) × Int) :=
 obind (playlist_Valid n p_0) fun r2 =>
 cond (!r2)
  (some ([], 3))
  (obind (playlist_lines p_0) fun r6 =>
  obind (playlist_lines_1_70 n (yieldOf (playlist_Text_R1)) ([], none) p_0) fun r11 =>
  onJump r11.2 (
   some (r11.1, 0)) [])
theorem playlist_Text_ok (n : Nat) (p_0 : S_api_Playlist) (p_0_Lv : Value) {r : (List UInt8) × Int} (h : playlist_Text n p_0 = some r) :
  Meets Tryz.prog 12 [.agg #[.int .i64 p_0.First, p_0_Lv, .bool p_0.Done]] [ro p_0_Lv 20 (p_0.L.map S_api_Segment.enc), globA] (fun v G => v = .tuple #[.string (bs r.1), .int .i64 r.2] ∧ G = []) := by
 refine fn_of_run Tryz.func12 rfl Tryz.ntmps12 rfl (fun w0 o0 => ?_)
 refine run_seq ?_
 refine run_region' ?_
 refine ot rfl rfl (t_box rfl) ?_
 rintro _ _ ⟨b1, rfl, rfl⟩
 refine oy rfl rfl (y_assign rfl) ?_
 refine oy rfl rfl (y_assign rfl) ?_
 refine ops_nil ?_
 refine goes_code ?_
 refine run_seq ?_
 refine run_seq ?_
 refine run_region' ?_
 refine oy rfl rfl (y_load_boxagg (c := [.int .i64 p_0.First, p_0_Lv, .bool p_0.Done]) 2 Tryz.isAgg24 Tryz.sizeOf24 rfl rfl rfl) ?_
 obtain ⟨r2, hr3, h⟩ := obind_some h
 refine ot rfl rfl (t_callx (vs := [.agg #[.int .i64 p_0.First, p_0_Lv, .bool p_0.Done]]) (cs := []) [(0, 0)] rfl Tryz.call22 rfl (playlist_Valid_ok n p_0 p_0_Lv hr3) (showsX_view 0 rfl views_ro showsX_nil) rfl (.inl rfl)) ?_
 rintro _ _ ⟨_, ⟨rfl, rfl⟩, rfl⟩
 refine oy rfl rfl (y_not rfl) ?_
 refine ops_nil ?_
 refine goes_code ?_
 refine run_cond (!r2) rfl (fun hc4 => ?_) (fun hc4 => ?_)
 ·replace h := cond_t h hc4
  refine run_seq ?_
  refine run_region' ?_
  refine oy rfl rfl (y_assign rfl) ?_
  refine oy rfl rfl (y_assign rfl) ?_
  refine ops_nil ?_
  refine goes_code ?_
  refine run_ret ?_
  obtain rfl := some_eq h
  refine fin_slots [2, 3] [.string (bs []), .int .i64 3] [] [] Tryz.results12 rfl (by decide) rfl ?_
  exact ⟨rfl, rfl⟩
 ·replace h := cond_f h hc4
  refine run_skip ?_
  refine goes_code ?_
  refine run_seq ?_
  refine run_region' ?_
  refine ot rfl rfl (t_alloc Tryz.zeroValue9) ?_
  rintro _ _ ⟨b5, rfl, rfl⟩
  refine ot rfl rfl (t_store 3 Tryz.sizeOf9 rfl rfl rfl rfl (by simp [Value.cells, boxP]) (by simp [Value.cells, Value.oneCell', boxP])) ?_
  rintro _ _ ⟨rfl, rfl⟩
  refine ops_turn (retell 3 (g := box b5 [.string (bs [])]) rfl rfl) ?_
  refine ops_nil ?_
  refine goes_code ?_
  refine run_seq ?_
  refine run_seq ?_
  refine run_weak [(1, boxP b1 0), (4, boxP b5 0)] [0, 1, 2, 3] [ro p_0_Lv 20 (p_0.L.map S_api_Segment.enc), globA, box b1 [.int .i64 p_0.First, p_0_Lv, .bool p_0.Done], box b5 [.string (bs [])]] (qv2 rfl rfl) (by decide) rfl ?_
  refine run_region' ?_
  refine oy rfl rfl (y_load_boxagg (c := [.int .i64 p_0.First, p_0_Lv, .bool p_0.Done]) 2 Tryz.isAgg24 Tryz.sizeOf24 rfl rfl rfl) ?_
  obtain ⟨r6, hr7, h⟩ := obind_some h
  refine ot rfl rfl (t_callx (vs := [.agg #[.int .i64 p_0.First, p_0_Lv, .bool p_0.Done]]) (cs := []) [(0, 0), (1, 0)] rfl Tryz.call45 rfl (playlist_lines_ok p_0 p_0_Lv hr7) (showsX_view 0 rfl views_ro (showsX_view 1 rfl views_glob showsX_nil)) rfl (.inl rfl)) ?_
  rintro _ _ ⟨_, ⟨v8, rfl, rfl⟩, rfl⟩
  refine ops_nil ?_
  refine goes_code ?_
  refine run_block ?_
  refine run_weak [(4, boxP b5 0), (10, .func (.func 70) #[] #[boxP v8 0])] [0, 1, 3, 4] [ro p_0_Lv 20 (p_0.L.map S_api_Segment.enc), globA, box b5 [.string (bs [])], box v8 [.int .i64 p_0.First, p_0_Lv, .bool p_0.Done]] (qv2 rfl rfl) (by decide) rfl ?_
  obtain ⟨r11, hr12, h⟩ := obind_some h
  refine run_rangeFunc (S := (List UInt8)) (G := Unit) (jumps := []) (Hs := fun σ γ => [box b5 [.string (bs σ)]]) (step := (playlist_Text_R1)) (ps := [11]) (Gr := [box v8 [.int .i64 p_0.First, p_0_Lv, .bool p_0.Done]]) (fun x => [.string (bs x)]) [] () [2] [(0, 0), (3, 2), (1, 0)] (r := r11) rfl rfl Tryz.call70 (fun _ => rfl) rfl (by decide) rfl ?_ (fun l A hy => playlist_lines_1_70_ok n (yieldOf (playlist_Text_R1)) ([], none) p_0 l A hy v8 p_0_Lv hr12) (showsX_view 0 rfl views_ro (showsX_lend 3 rfl (showsX_view 1 rfl views_glob showsX_nil))) rfl rfl ?_ ?_
  ·rintro l x_10 x9 sN jN hN _ w0 o0 L hL
   obtain ⟨pN, hp⟩ : ∃ pN, pN = (sN, jN) := ⟨_, rfl⟩
   rw [← hp] at hN
   replace h := hN
   clear hN
   change Run _ _ _ (VF.of [(11, .string (bs x9)), (4, boxP b5 0), (10, .func (.func 70) #[] #[boxP v8 0])]) [box b5 [.string (bs x_10)]]
   refine run_weak [(4, boxP b5 0), (11, .string (bs x9))] [0] [box b5 [.string (bs x_10)]] (qv2 rfl rfl) (by decide) rfl ?_
   refine run_region' ?_
   refine oy rfl rfl (y_assign rfl) ?_
   refine ops_nil ?_
   refine goes_round hL (fun w1 o1 => ?_)
   refine run_block ?_
   refine run_region' ?_
   refine oy rfl rfl (y_load_box 0 Tryz.isAgg9 rfl rfl rfl) ?_
   refine oy rfl rfl (y_move rfl) ?_
   obtain ⟨hs13, h⟩ := need_some h
   refine oy rfl rfl (y_sadd rfl rfl hs13) ?_
   obtain ⟨hs14, h⟩ := need_some h
   refine oy rfl rfl (y_sadd rfl rfl hs14) ?_
   refine ot rfl rfl (t_store 0 Tryz.sizeOf9 rfl rfl rfl rfl (by simp [Value.cells, boxP]) (by simp [Value.cells, Value.oneCell', boxP])) ?_
   rintro _ _ ⟨rfl, rfl⟩
   refine ops_turn (retell 0 (g := box b5 [.string (bs (x_10 ++ (x9 ++ [10])))]) rfl rfl) ?_
   refine ops_nil ?_
   refine goes_blk ?_
   obtain rfl := some_eq h
   obtain ⟨rfl, rfl⟩ := Prod.mk.inj hp
   exact round_go () [0] (by decide) rfl rfl
  ·intro hn γ
   replace h := onJump_none hn h
   change Goes _ _ (VF.of [(4, boxP b5 0), (10, .func (.func 70) #[] #[boxP v8 0])]) [ro p_0_Lv 20 (p_0.L.map S_api_Segment.enc), globA, HA.emp, HA.emp, box v8 [.int .i64 p_0.First, p_0_Lv, .bool p_0.Done], box b5 [.string (bs r11.1)]]
   refine goes_blk ?_
   refine goes_code ?_
   refine run_seq ?_
   refine run_region' ?_
   refine oy rfl rfl (y_load_box 5 Tryz.isAgg9 rfl rfl rfl) ?_
   refine oy rfl rfl (y_assign rfl) ?_
   refine oy rfl rfl (y_assign rfl) ?_
   refine ops_nil ?_
   refine goes_code ?_
   refine run_ret ?_
   obtain rfl := some_eq h
   refine fin_slots [2, 3] [.string (bs r11.1), .int .i64 0] [] [] Tryz.results12 rfl (by decide) rfl ?_
   exact ⟨rfl, rfl⟩
  ·intro iJ hi
   obtain ⟨xJ, hx, h⟩ := onJump_some hi h
   simp at hx

def playlist_must (is_0 : Bool) : Option (Pn (Unit)) :=
 cond (!is_0)
  (some (.pan 3))
  (some (.ret ()))
theorem playlist_must_ok (is_0 : Bool)  {r : Pn (Unit)} (h : playlist_must is_0 = some r) :
  MeetsP Tryz.prog 50 [.bool is_0] [] (fun v G => ∃ q, r = .ret q ∧ (v = .tuple #[] ∧ G = [])) (fun v => ∃ e, r = .pan e ∧ v = .iface 27 (.int .i64 e)) := by
 refine fnp_of_run Tryz.func50 rfl Tryz.ntmps50 rfl (fun w0 o0 => ?_)
 refine run_seq ?_
 refine run_region' ?_
 refine oy rfl rfl (y_move rfl) ?_
 refine oy rfl rfl (y_not rfl) ?_
 refine ops_nil ?_
 refine goes_code ?_
 refine run_cond (!is_0) rfl (fun hc1 => ?_) (fun hc1 => ?_)
 ·replace h := cond_t h hc1
  refine run_region' ?_
  refine oy rfl rfl (y_mkIface Tryz.runUnderlying27 rfl rfl) ?_
  refine ops_panic _ (wn rfl) (op_panic rfl) ?_
  obtain rfl := some_eq h
  exact finP ⟨_, rfl, rfl⟩
 ·replace h := cond_f h hc1
  refine run_skip ?_
  refine goes_nil ?_
  obtain rfl := some_eq h
  refine fin_slots [] [] [] [] Tryz.results50 rfl (by decide) rfl ?_
  exact ⟨_, rfl, rfl, rfl⟩

def internal_stringslite_HasPrefix_88 (s_0 : (List UInt8)) (prefix_1 : (List UInt8)) : Option (Bool) :=
 bindJ (S := Bool)
  (cond (decide ((prefix_1.length : Int) ≤ (s_0.length : Int)))
   (need (0 ≤ (0 : Int) ∧ 0 ≤ (prefix_1.length : Int) ∧ (prefix_1.length : Int) ≤ (s_0.length : Int)) (
   some (.go (decide ((s_0.take (((prefix_1.length : Int)).toNat)) = prefix_1)))))
   (some (.go false)))
 (fun b1 =>
  some b1)
theorem internal_stringslite_HasPrefix_88_ok (s_0 : (List UInt8)) (prefix_1 : (List UInt8))  {r : Bool} (h : internal_stringslite_HasPrefix_88 s_0 prefix_1 = some r) :
  Meets Tryz.prog 88 [.string (bs s_0), .string (bs prefix_1)] [] (fun v G => v = .bool r ∧ G = []) := by
 refine fn_of_run Tryz.func88 rfl Tryz.ntmps88 rfl (fun w0 o0 => ?_)
 refine run_seq ?_
 refine run_region' ?_
 refine oy rfl rfl (y_assign rfl) ?_
 refine ops_nil ?_
 refine goes_code ?_
 refine run_seq ?_
 refine run_region' ?_
 refine oy rfl rfl (y_move rfl) ?_
 refine oy rfl rfl (y_len_str rfl Tryz.runUnderlying9 rfl) ?_
 refine oy rfl rfl (y_move rfl) ?_
 refine oy rfl rfl (y_len_str rfl Tryz.runUnderlying9 rfl) ?_
 refine oy rfl rfl (y_geq rfl rfl) ?_
 refine oy rfl rfl (y_move rfl) ?_
 obtain ⟨o2, h, ho3⟩ := bindJ_some h
 refine ops_cut 7 (Bool) (fun σ => [(17, .bool σ)]) (fun σ => []) (fun σ => o2 = .go σ) (fun L4 hL5 => ?_) ?_
 ·refine ops_split 10 (decide ((prefix_1.length : Int) ≤ (s_0.length : Int))) rfl (fun hg6 => ?_) (fun hg6 => ?_)
  ·replace h := cond_t h hg6
   refine ops_y (wg 5 true 10 rfl rfl rfl rfl) rfl (y_move rfl) ?_
   refine ops_y (wg 5 true 10 rfl rfl rfl rfl) rfl (y_move rfl) ?_
   refine ops_y (wg 5 true 10 rfl rfl rfl rfl) rfl (y_len_str rfl Tryz.runUnderlying9 rfl) ?_
   obtain ⟨hb7, h⟩ := need_some h
   refine ops_y (wg 5 true 10 rfl rfl rfl rfl) rfl (OpY.to (v' := .string (bs (s_0.take (((prefix_1.length : Int)).toNat)))) (y_slice_str (l := 0) (r := (prefix_1.length : Int)) Tryz.runUnderlying9 rfl bi0 (bi1 (kd := .i64) rfl) hb7.1 hb7.2.1 hb7.2.2) (by simp)) ?_
   refine ops_y (wg 5 true 10 rfl rfl rfl rfl) rfl (y_move rfl) ?_
   refine ops_y (wg 5 true 10 rfl rfl rfl rfl) rfl (y_seql rfl rfl) ?_
   refine oy rfl rfl (y_pick (b := true) rfl rfl) ?_
   refine ops_nil ?_
   obtain rfl := some_eq h
   exact goes_cut hL5 (decide ((s_0.take (((prefix_1.length : Int)).toNat)) = prefix_1)) [] (qv1 rfl) (by decide) rfl rfl
  ·replace h := cond_f h hg6
   refine ops_no 5 true 10 rfl rfl rfl rfl rfl ?_
   refine ops_no 5 true 10 rfl rfl rfl rfl rfl ?_
   refine ops_no 5 true 10 rfl rfl rfl rfl rfl ?_
   refine ops_no 5 true 10 rfl rfl rfl rfl rfl ?_
   refine ops_no 5 true 10 rfl rfl rfl rfl rfl ?_
   refine ops_no 5 true 10 rfl rfl rfl rfl rfl ?_
   refine oy rfl rfl (y_pick (b := false) rfl rfl) ?_
   refine ops_nil ?_
   obtain rfl := some_eq h
   exact goes_cut hL5 false [] (qv1 rfl) (by decide) rfl rfl
 rintro b1 hj
 obtain rfl : o2 = _ := hj
 replace h := after_go ho3
 clear ho3
 refine oy rfl rfl (y_assign rfl) ?_
 refine ops_nil ?_
 refine goes_code ?_
 refine run_ret ?_
 obtain rfl := some_eq h
 refine fin_slots [4] [.bool b1] [] [] Tryz.results88 rfl (by decide) rfl ?_
 exact ⟨rfl, rfl⟩

def internal_stringslite_CutPrefix_75 (s_0 : (List UInt8)) (prefix_1 : (List UInt8)) : Option ((List UInt8) × Bool) :=
 obind (internal_stringslite_HasPrefix_88 s_0 prefix_1) fun r1 =>
 cond (!r1)
  (some (s_0, false))
  (need (0 ≤ (prefix_1.length : Int) ∧ (prefix_1.length : Int) ≤ (s_0.length : Int) ∧ (s_0.length : Int) ≤ (s_0.length : Int)) (
  some ((s_0.drop (((prefix_1.length : Int)).toNat)), true)))
theorem internal_stringslite_CutPrefix_75_ok (s_0 : (List UInt8)) (prefix_1 : (List UInt8))  {r : (List UInt8) × Bool} (h : internal_stringslite_CutPrefix_75 s_0 prefix_1 = some r) :
  Meets Tryz.prog 75 [.string (bs s_0), .string (bs prefix_1)] [] (fun v G => v = .tuple #[.string (bs r.1), .bool r.2] ∧ G = []) := by
 refine fn_of_run Tryz.func75 rfl Tryz.ntmps75 rfl (fun w0 o0 => ?_)
 refine run_seq ?_
 refine run_region' ?_
 refine oy rfl rfl (y_assign rfl) ?_
 refine oy rfl rfl (y_assign rfl) ?_
 refine ops_nil ?_
 refine goes_code ?_
 refine run_seq ?_
 refine run_seq ?_
 refine run_region' ?_
 refine oy rfl rfl (y_move rfl) ?_
 refine oy rfl rfl (y_move rfl) ?_
 obtain ⟨r1, hr2, h⟩ := obind_some h
 refine ot rfl rfl (t_callx (vs := [.string (bs s_0), .string (bs prefix_1)]) (cs := []) [] rfl Tryz.call88 rfl (internal_stringslite_HasPrefix_88_ok s_0 prefix_1  hr2) showsX_nil rfl (.inl rfl)) ?_
 rintro _ _ ⟨_, ⟨rfl, rfl⟩, rfl⟩
 refine oy rfl rfl (y_not rfl) ?_
 refine ops_nil ?_
 refine goes_code ?_
 refine run_cond (!r1) rfl (fun hc3 => ?_) (fun hc3 => ?_)
 ·replace h := cond_t h hc3
  refine run_seq ?_
  refine run_region' ?_
  refine oy rfl rfl (y_move rfl) ?_
  refine oy rfl rfl (y_assign rfl) ?_
  refine oy rfl rfl (y_assign rfl) ?_
  refine ops_nil ?_
  refine goes_code ?_
  refine run_ret ?_
  obtain rfl := some_eq h
  refine fin_slots [4, 5] [.string (bs s_0), .bool false] [] [] Tryz.results75 rfl (by decide) rfl ?_
  exact ⟨rfl, rfl⟩
 ·replace h := cond_f h hc3
  refine run_skip ?_
  refine goes_code ?_
  refine run_seq ?_
  refine run_region' ?_
  refine oy rfl rfl (y_move rfl) ?_
  refine oy rfl rfl (y_move rfl) ?_
  refine oy rfl rfl (y_len_str rfl Tryz.runUnderlying9 rfl) ?_
  obtain ⟨hb4, h⟩ := need_some h
  refine oy rfl rfl (OpY.to (v' := .string (bs (s_0.drop (((prefix_1.length : Int)).toNat)))) (y_slice_str (l := (prefix_1.length : Int)) (r := (s_0.length : Int)) Tryz.runUnderlying9 rfl (bi1 (kd := .i64) rfl) bi0 hb4.1 hb4.2.1 hb4.2.2) (by simp)) ?_
  refine oy rfl rfl (y_assign rfl) ?_
  refine oy rfl rfl (y_assign rfl) ?_
  refine ops_nil ?_
  refine goes_code ?_
  refine run_ret ?_
  obtain rfl := some_eq h
  refine fin_slots [4, 5] [.string (bs (s_0.drop (((prefix_1.length : Int)).toNat))), .bool true] [] [] Tryz.results75 rfl (by decide) rfl ?_
  exact ⟨rfl, rfl⟩

def strings_CutPrefix_51 (s_0 : (List UInt8)) (prefix_1 : (List UInt8)) : Option ((List UInt8) × Bool) :=
 obind (internal_stringslite_CutPrefix_75 s_0 prefix_1) fun r1 =>
 some (r1.1, r1.2)
theorem strings_CutPrefix_51_ok (s_0 : (List UInt8)) (prefix_1 : (List UInt8))  {r : (List UInt8) × Bool} (h : strings_CutPrefix_51 s_0 prefix_1 = some r) :
  Meets Tryz.prog 51 [.string (bs s_0), .string (bs prefix_1)] [] (fun v G => v = .tuple #[.string (bs r.1), .bool r.2] ∧ G = []) := by
 refine fn_of_run Tryz.func51 rfl Tryz.ntmps51 rfl (fun w0 o0 => ?_)
 refine run_seq ?_
 refine run_region' ?_
 refine oy rfl rfl (y_assign rfl) ?_
 refine oy rfl rfl (y_assign rfl) ?_
 refine ops_nil ?_
 refine goes_code ?_
 refine run_seq ?_
 refine run_region' ?_
 refine oy rfl rfl (y_move rfl) ?_
 refine oy rfl rfl (y_move rfl) ?_
 obtain ⟨r1, hr2, h⟩ := obind_some h
 refine ot rfl rfl (t_callx (vs := [.string (bs s_0), .string (bs prefix_1)]) (cs := []) [] rfl Tryz.call75 rfl (internal_stringslite_CutPrefix_75_ok s_0 prefix_1  hr2) showsX_nil rfl (.inl rfl)) ?_
 rintro _ _ ⟨_, ⟨rfl, rfl⟩, rfl⟩
 refine oy rfl rfl (y_extract rfl rfl) ?_
 refine oy rfl rfl (y_extract rfl rfl) ?_
 refine oy rfl rfl (y_assign rfl) ?_
 refine oy rfl rfl (y_assign rfl) ?_
 refine ops_nil ?_
 refine goes_code ?_
 refine run_ret ?_
 obtain rfl := some_eq h
 refine fin_slots [4, 5] [.string (bs r1.1), .bool r1.2] [] [] Tryz.results51 rfl (by decide) rfl ?_
 exact ⟨rfl, rfl⟩

def playlist_number (s_0 : (List UInt8)) : Option (Pn (Int)) :=
 obind (atoiH s_0) fun r1 =>
 bindJ (S := Bool)
  (cond r1.2
   (obind (itoaH r1.1) fun r10 =>
   some (.go (decide (r10 = s_0))))
   (some (.go false)))
 (fun b4 =>
  obind (playlist_must b4) fun r12 =>
  pbind r12 (fun e15 =>
   some (.pan e15)) fun q14 =>
  some (.ret r1.1))
theorem playlist_number_ok (s_0 : (List UInt8))  {r : Pn (Int)} (h : playlist_number s_0 = some r) :
  MeetsP Tryz.prog 52 [.string (bs s_0)] [globA] (fun v G => ∃ q, r = .ret q ∧ (v = .int .i64 q ∧ G = [])) (fun v => ∃ e, r = .pan e ∧ v = .iface 27 (.int .i64 e)) := by
 refine fnp_of_run Tryz.func52 rfl Tryz.ntmps52 rfl (fun w0 o0 => ?_)
 refine run_seq ?_
 refine run_region' ?_
 refine oy rfl rfl (y_assign rfl) ?_
 refine ops_nil ?_
 refine goes_code ?_
 refine run_seq ?_
 refine run_region' ?_
 refine oy rfl rfl (y_move rfl) ?_
 obtain ⟨r1, hr2, h⟩ := obind_some h
 refine ot rfl rfl (t_callx (vs := [.string (bs s_0)]) (cs := []) [(0, 0)] rfl Tryz.call76 rfl (atoiH_ok s_0  hr2) (showsX_view 0 rfl views_glob showsX_nil) rfl (.inl rfl)) ?_
 rintro _ _ ⟨_, ⟨v3, rfl, rfl⟩, rfl⟩
 refine oy rfl rfl (y_move rfl) ?_
 refine oy rfl rfl (y_extract rfl rfl) ?_
 refine oy rfl rfl (y_extract rfl rfl) ?_
 refine oy rfl rfl (y_assign rfl) ?_
 refine oy rfl rfl (y_assign rfl) ?_
 refine ops_nil ?_
 refine goes_code ?_
 refine run_seq ?_
 refine run_weak [(0, .string (bs s_0)), (3, .int .i64 r1.1), (4, v3)] [0, 1] [globA, oif v3 r1.2] (qv3 rfl rfl rfl) (by decide) rfl ?_
 refine run_region' ?_
 refine oy rfl rfl (y_move rfl) ?_
 refine oy rfl rfl (y_oif 1 rfl Tryz.runUnderlying102 rfl) ?_
 refine oy rfl rfl (y_move rfl) ?_
 obtain ⟨o5, h, ho6⟩ := bindJ_some h
 refine ops_cut 5 (Bool) (fun σ => [(3, .int .i64 r1.1), (17, .bool σ)]) (fun σ => [globA]) (fun σ => o5 = .go σ) (fun L7 hL8 => ?_) ?_
 ·refine ops_split 12 r1.2 rfl (fun hg9 => ?_) (fun hg9 => ?_)
  ·replace h := cond_t h hg9
   refine ops_y (wg 2 true 12 rfl rfl rfl rfl) rfl (y_move rfl) ?_
   obtain ⟨r10, hr11, h⟩ := obind_some h
   refine ops_t (wg 2 true 12 rfl rfl rfl rfl) rfl (t_callx (vs := [.int .i64 r1.1]) (cs := []) [(0, 0)] rfl Tryz.call71 rfl (itoaH_ok r1.1  hr11) (showsX_view 0 rfl views_glob showsX_nil) rfl (.inl rfl)) ?_
   rintro _ _ ⟨_, ⟨rfl, rfl⟩, rfl⟩
   refine ops_y (wg 2 true 12 rfl rfl rfl rfl) rfl (y_move rfl) ?_
   refine ops_y (wg 2 true 12 rfl rfl rfl rfl) rfl (y_seql rfl rfl) ?_
   refine oy rfl rfl (y_pick (b := true) rfl rfl) ?_
   refine ops_nil ?_
   obtain rfl := some_eq h
   exact goes_cut hL8 (decide (r10 = s_0)) [0] (qv2 rfl rfl) (by decide) rfl rfl
  ·replace h := cond_f h hg9
   refine ops_no 2 true 12 rfl rfl rfl rfl rfl ?_
   refine ops_no 2 true 12 rfl rfl rfl rfl rfl ?_
   refine ops_no 2 true 12 rfl rfl rfl rfl rfl ?_
   refine ops_no 2 true 12 rfl rfl rfl rfl rfl ?_
   refine oy rfl rfl (y_pick (b := false) rfl rfl) ?_
   refine ops_nil ?_
   obtain rfl := some_eq h
   exact goes_cut hL8 false [0] (qv2 rfl rfl) (by decide) rfl rfl
 rintro b4 hj
 obtain rfl : o5 = _ := hj
 replace h := after_go ho6
 clear ho6
 obtain ⟨r12, hr13, h⟩ := obind_some h
 rcases r12 with q14 | e15
 rotate_left
 ·replace h := pbind_pan h
  refine ops_tp (wn rfl) rfl (t_callp (vs := [.bool b4]) (cs := []) [] rfl Tryz.call50 rfl (playlist_must_ok b4  hr13) showsX_nil rfl (.inl rfl)) (by rintro _ _ ⟨_, ⟨_, hq, _⟩, _⟩; cases hq) ?_
  rintro _ ⟨_, he, rfl⟩
  obtain rfl := Pn.pan.inj he
  obtain rfl := some_eq h
  exact finP ⟨_, rfl, rfl⟩
 replace h := pbind_ret h
 refine ot rfl rfl (t_callx (vs := [.bool b4]) (cs := []) [] rfl Tryz.call50 rfl (mp_ret (playlist_must_ok b4  hr13)) showsX_nil rfl (.inl rfl)) ?_
 rintro _ _ ⟨_, ⟨rfl, rfl⟩, rfl⟩
 refine ops_nil ?_
 refine goes_code ?_
 refine run_seq ?_
 refine run_region' ?_
 refine oy rfl rfl (y_move rfl) ?_
 refine oy rfl rfl (y_assign rfl) ?_
 refine ops_nil ?_
 refine goes_code ?_
 refine run_ret ?_
 obtain rfl := some_eq h
 refine fin_slots [2] [.int .i64 r1.1] [] [] Tryz.results52 rfl (by decide) rfl ?_
 exact ⟨_, rfl, rfl, rfl⟩

end Go.Proofs.YtbgpojdmdnkeaaaGreatDoor
