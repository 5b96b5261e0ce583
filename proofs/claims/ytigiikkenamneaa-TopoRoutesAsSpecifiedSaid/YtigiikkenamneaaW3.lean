/-
  The law TopoRoutesAsSpecified, lifted.
-/
import Derived.Test.YtigiikkenamneaaG3a
namespace Go.Proofs.Ytigiikkenamneaa
open Go.Abs
set_option linter.unusedVariables false
set_option linter.unusedSimpArgs false
set_option maxRecDepth 20000
set_option maxHeartbeats 4000000


def law42_TopoRoutesAsSpecified_L1 (n : Nat) (a_0 : S_api_Map) (l_2 : (List (List UInt8))) : (Int) → Option (Lp (Int) (Lp (Unit) (Bool))) :=
 fun i_23 =>
  cond (decide (i_23 < (l_2.length : Int)))
   (idx l_2 i_23 fun x29 =>
   obind (topo_Entry n a_0 x29) fun r30 =>
   obind (ref42_Entry n a_0 x29) fun r32 =>
   cond (decide (r30.1 ≠ r32.N) || decide (r30.2 ≠ r32.E))
    (some (.stop (.stop false)))
    (some (.go (IntKind.i64.wrap (i_23 + 1)))))
   (some (.stop (.go ())))
def law42_TopoRoutesAsSpecified_L2 (r57 : (List (List UInt8))) (r72 : (List (List UInt8))) : (Int) → Option (Lp (Int) (Lp (Unit) (Bool))) :=
 fun i_80 =>
  cond (decide (i_80 < (r57.length : Int)))
   (idx r57 i_80 fun x86 =>
   idx r72 i_80 fun x87 =>
   cond (!decide (x86 = x87))
    (some (.stop (.stop false)))
    (some (.go (IntKind.i64.wrap (i_80 + 1)))))
   (some (.stop (.go ())))
def law42_TopoRoutesAsSpecified (n : Nat) (a_0 : S_api_Map) (b_1 : S_api_Map) (l_2 : (List (List UInt8))) (site_3 : Int) (up_4 : Bool) : Option (Bool) :=
 obind (ref42_Few n a_0) fun r3 =>
 bindJ (S := Bool)
  (cond (!r3)
   (some (.go true))
   (obind (ref42_Few n b_1) fun r11 =>
   some (.go (!r11))))
 (fun b5 =>
  cond (b5 || decide (20 < (l_2.length : Int)))
   (obind (law42_sanity n) fun r17 =>
   some r17)
   (bindJ (S := Unit)
    (iter (law42_TopoRoutesAsSpecified_L1 n a_0 l_2) n 0)
   (fun _ =>
    obind (topo_Climb n a_0 site_3) fun r47 =>
    obind (topo_Turn n a_0 site_3 up_4) fun r50 =>
    obind (topo_Moved n a_0 b_1 l_2) fun r57 =>
    obind (ref42_Climb n a_0 site_3) fun r60 =>
    obind (ref42_Turn n a_0 site_3 up_4) fun r65 =>
    obind (ref42_Moved n a_0 b_1 l_2) fun r72 =>
    cond (decide ((r57.length : Int) ≠ (r72.length : Int)))
     (some false)
     (bindJ (S := Unit)
      (iter (law42_TopoRoutesAsSpecified_L2 r57 r72) n 0)
     (fun _ =>
      obind (law42_sanity n) fun r89 =>
      bindJ (S := Bool)
       (cond r89
        (obind (topo_ValidMap n a_0) fun r97 =>
        obind (ref42_ValidMap n a_0) fun r99 =>
        some (.go (r97 == r99)))
        (some (.go false)))
      (fun b91 =>
       bindJ (S := Bool)
        (cond b91
         (obind (ref42_SameList n r47.1 r60.L) fun r107 =>
         some (.go r107))
         (some (.go false)))
       (fun b101 =>
        bindJ (S := Bool)
         (cond (b101 && decide (r47.2 = r60.E))
          (obind (ref42_SameMap n r50.1 r65.M) fun r118 =>
          some (.go r118))
          (some (.go false)))
        (fun b112 =>
         some (b112 && decide (r50.2 = r65.E))))))))))
theorem law42_TopoRoutesAsSpecified_ok (n : Nat) (a_0 : S_api_Map) (b_1 : S_api_Map) (l_2 : (List (List UInt8))) (site_3 : Int) (up_4 : Bool) (a_0_Hubsv : Value) (a_0_Routesv : Value) (b_1_Hubsv : Value) (b_1_Routesv : Value) (l_2v : Value) {r : Bool} (h : law42_TopoRoutesAsSpecified n a_0 b_1 l_2 site_3 up_4 = some r) :
  Meets Try.prog 3 [.agg #[a_0_Hubsv, a_0_Routesv], .agg #[b_1_Hubsv, b_1_Routesv], l_2v, .int .i64 site_3, .bool up_4] [ro a_0_Hubsv 3 (a_0.Hubs.map S_api_Hub.enc), nro a_0_Routesv NC_api_Route_82 a_0.Routes, ro b_1_Hubsv 3 (b_1.Hubs.map S_api_Hub.enc), nro b_1_Routesv NC_api_Route_82 b_1.Routes, ro l_2v 1 (l_2.map eStr)] (fun v G => v = .bool r ∧ G = []) := by
 refine fn_of_run Try.func3 rfl Try.ntmps3 rfl (fun w0 o0 => ?_)
 refine run_seq ?_
 refine run_region' ?_
 refine ot rfl rfl (t_box rfl) ?_
 rintro _ _ ⟨b1, rfl, rfl⟩
 refine ot rfl rfl (t_box rfl) ?_
 rintro _ _ ⟨b2, rfl, rfl⟩
 refine oy rfl rfl (y_assign rfl) ?_
 refine ops_nil ?_
 refine goes_code ?_
 refine run_seq ?_
 refine run_seq ?_
 refine run_region' ?_
 refine oy rfl rfl (y_load_boxagg (c := [a_0_Hubsv, a_0_Routesv]) 5 Try.isAgg25 Try.sizeOf25 rfl rfl rfl) ?_
 obtain ⟨r3, hr4, h⟩ := obind_some h
 refine ot rfl rfl (t_callx (vs := [.agg #[a_0_Hubsv, a_0_Routesv]]) (cs := []) [(0, 0), (1, 0)] rfl Try.call7 rfl (ref42_Few_ok n a_0 a_0_Hubsv a_0_Routesv hr4) (showsX_view 0 rfl views_ro (showsX_view 1 rfl views_nro showsX_nil)) rfl (.inl rfl)) ?_
 rintro _ _ ⟨_, ⟨rfl, rfl⟩, rfl⟩
 refine oy rfl rfl (y_not rfl) ?_
 refine oy rfl rfl (y_move rfl) ?_
 obtain ⟨o6, h, ho7⟩ := bindJ_some h
 refine ops_cut 4 (Bool) (fun σ => [(2, l_2v), (3, .int .i64 site_3), (4, .bool up_4), (5, boxP b1 0), (6, boxP b2 0), (31, .bool σ)]) (fun σ => [ro a_0_Hubsv 3 (a_0.Hubs.map S_api_Hub.enc), nro a_0_Routesv NC_api_Route_82 a_0.Routes, ro b_1_Hubsv 3 (b_1.Hubs.map S_api_Hub.enc), nro b_1_Routesv NC_api_Route_82 b_1.Routes, ro l_2v 1 (l_2.map eStr), box b1 [a_0_Hubsv, a_0_Routesv], box b2 [b_1_Hubsv, b_1_Routesv]]) (fun σ => o6 = .go σ) (fun L8 hL9 => ?_) ?_
 ·refine ops_split 27 (!r3) rfl (fun hg10 => ?_) (fun hg10 => ?_)
  ·replace h := cond_t h hg10
   refine ops_no 3 false 27 rfl rfl rfl rfl rfl ?_
   refine ops_no 3 false 27 rfl rfl rfl rfl rfl ?_
   refine ops_no 3 false 27 rfl rfl rfl rfl rfl ?_
   refine oy rfl rfl (y_pick (b := true) rfl rfl) ?_
   refine ops_nil ?_
   obtain rfl := some_eq h
   exact goes_cut hL9 true [0, 1, 2, 3, 4, 5, 6] (vcons rfl (vcons rfl (vcons rfl (vcons rfl (vcons rfl (vcons rfl (vnil))))))) (by decide) rfl rfl
  ·replace h := cond_f h hg10
   refine ops_y (wg 3 false 27 rfl rfl rfl rfl) rfl (y_load_boxagg (c := [b_1_Hubsv, b_1_Routesv]) 6 Try.isAgg25 Try.sizeOf25 rfl rfl rfl) ?_
   obtain ⟨r11, hr12, h⟩ := obind_some h
   refine ops_t (wg 3 false 27 rfl rfl rfl rfl) rfl (t_callx (vs := [.agg #[b_1_Hubsv, b_1_Routesv]]) (cs := []) [(2, 0), (3, 0)] rfl Try.call7 rfl (ref42_Few_ok n b_1 b_1_Hubsv b_1_Routesv hr12) (showsX_view 2 rfl views_ro (showsX_view 3 rfl views_nro showsX_nil)) rfl (.inl rfl)) ?_
   rintro _ _ ⟨_, ⟨rfl, rfl⟩, rfl⟩
   refine ops_y (wg 3 false 27 rfl rfl rfl rfl) rfl (y_not rfl) ?_
   refine oy rfl rfl (y_pick (b := false) rfl rfl) ?_
   refine ops_nil ?_
   obtain rfl := some_eq h
   exact goes_cut hL9 (!r11) [0, 1, 2, 3, 4, 5, 6] (vcons rfl (vcons rfl (vcons rfl (vcons rfl (vcons rfl (vcons rfl (vnil))))))) (by decide) rfl rfl
 rintro b5 hj
 obtain rfl : o6 = _ := hj
 replace h := after_go ho7
 clear ho7
 refine oy rfl rfl (y_move rfl) ?_
 refine ops_cut 4 (Bool) (fun σ => [(2, l_2v), (3, .int .i64 site_3), (4, .bool up_4), (5, boxP b1 0), (6, boxP b2 0), (36, .bool σ)]) (fun σ => [ro a_0_Hubsv 3 (a_0.Hubs.map S_api_Hub.enc), nro a_0_Routesv NC_api_Route_82 a_0.Routes, ro b_1_Hubsv 3 (b_1.Hubs.map S_api_Hub.enc), nro b_1_Routesv NC_api_Route_82 b_1.Routes, ro l_2v 1 (l_2.map eStr), box b1 [a_0_Hubsv, a_0_Routesv], box b2 [b_1_Hubsv, b_1_Routesv]]) (fun σ => σ = (b5 || decide (20 < (l_2.length : Int)))) (fun L13 hL14 => ?_) ?_
 ·refine ops_split 32 b5 rfl (fun hg15 => ?_) (fun hg15 => ?_)
  ·skip
   refine ops_no 8 false 32 rfl rfl rfl rfl rfl ?_
   refine ops_no 8 false 32 rfl rfl rfl rfl rfl ?_
   refine ops_no 8 false 32 rfl rfl rfl rfl rfl ?_
   refine oy rfl rfl (y_pick (b := true) rfl rfl) ?_
   refine ops_nil ?_
   exact goes_cut hL14 true [0, 1, 2, 3, 4, 5, 6] (vcons rfl (vcons rfl (vcons rfl (vcons rfl (vcons rfl (vcons rfl (vnil))))))) (by decide) rfl (by rw [hg15]; simp)
  ·skip
   refine ops_y (wg 8 false 32 rfl rfl rfl rfl) rfl (y_move rfl) ?_
   refine ops_y (wg 8 false 32 rfl rfl rfl rfl) rfl ((y_len 4 rfl Try.runUnderlying26 rfl rfl reads_ro).to (v_len eStr _)) ?_
   refine ops_y (wg 8 false 32 rfl rfl rfl rfl) rfl (y_gtr rfl rfl) ?_
   refine oy rfl rfl (y_pick (b := false) rfl rfl) ?_
   refine ops_nil ?_
   exact goes_cut hL14 (decide (20 < (l_2.length : Int))) [0, 1, 2, 3, 4, 5, 6] (vcons rfl (vcons rfl (vcons rfl (vcons rfl (vcons rfl (vcons rfl (vnil))))))) (by decide) rfl (by rw [hg15]; simp)
 rintro _ rfl
 refine ops_nil ?_
 refine goes_code ?_
 refine run_cond (b5 || decide (20 < (l_2.length : Int))) rfl (fun hc16 => ?_) (fun hc16 => ?_)
 ·replace h := cond_t h hc16
  refine run_seq ?_
  refine run_region' ?_
  obtain ⟨r17, hr18, h⟩ := obind_some h
  refine ot rfl rfl (t_callx (vs := []) (cs := []) [] rfl Try.call8 rfl (law42_sanity_ok n   hr18) showsX_nil rfl (.inl rfl)) ?_
  rintro _ _ ⟨_, ⟨rfl, rfl⟩, rfl⟩
  refine oy rfl rfl (y_assign rfl) ?_
  refine ops_nil ?_
  refine goes_code ?_
  refine run_ret ?_
  obtain rfl := some_eq h
  refine fin_slots [10] [.bool r17] [] [] Try.results3 rfl (by decide) rfl ?_
  exact ⟨rfl, rfl⟩
 ·replace h := cond_f h hc16
  refine run_skip ?_
  refine goes_code ?_
  obtain ⟨o19, h, ho20⟩ := bindJ_some h
  refine run_cut ((Unit) × (Unit)) (fun σ => [(2, l_2v), (3, .int .i64 site_3), (4, .bool up_4), (5, boxP b1 0), (6, boxP b2 0)]) (fun σ => [ro l_2v 1 (l_2.map eStr), box b1 [a_0_Hubsv, a_0_Routesv], ro a_0_Hubsv 3 (a_0.Hubs.map S_api_Hub.enc), nro a_0_Routesv NC_api_Route_82 a_0.Routes, box b2 [b_1_Hubsv, b_1_Routesv], ro b_1_Hubsv 3 (b_1.Hubs.map S_api_Hub.enc), nro b_1_Routesv NC_api_Route_82 b_1.Routes]) (fun σ => o19 = .go σ.1) (fun L22 hL21 => ?_) ?_
  ·
   refine run_seq ?_
   refine run_region' ?_
   refine oy rfl rfl (y_assign rfl) ?_
   refine ops_nil ?_
   refine goes_code ?_
   refine run_block ?_
   refine run_iter (step := law42_TopoRoutesAsSpecified_L1 n a_0 l_2) (n := n) (s0 := 0) h (G := Unit) () (fun σ γ => [(2, l_2v), (3, .int .i64 site_3), (4, .bool up_4), (5, boxP b1 0), (6, boxP b2 0), (11, .int .i64 σ)]) (fun σ γ => [ro l_2v 1 (l_2.map eStr), box b1 [a_0_Hubsv, a_0_Routesv], ro a_0_Hubsv 3 (a_0.Hubs.map S_api_Hub.enc), nro a_0_Routesv NC_api_Route_82 a_0.Routes, box b2 [b_1_Hubsv, b_1_Routesv], ro b_1_Hubsv 3 (b_1.Hubs.map S_api_Hub.enc), nro b_1_Routesv NC_api_Route_82 b_1.Routes]) [4, 5, 0, 1, 6, 2, 3] (vcons rfl (vcons rfl (vcons rfl (vcons rfl (vcons rfl (vcons rfl (vnil))))))) (by decide) rfl ?_
   rintro i_23 _ o24 h L27 hgo25 hstop26
   change Run _ _ _ (VF.of [(2, l_2v), (3, .int .i64 site_3), (4, .bool up_4), (5, boxP b1 0), (6, boxP b2 0), (11, .int .i64 i_23)]) [ro l_2v 1 (l_2.map eStr), box b1 [a_0_Hubsv, a_0_Routesv], ro a_0_Hubsv 3 (a_0.Hubs.map S_api_Hub.enc), nro a_0_Routesv NC_api_Route_82 a_0.Routes, box b2 [b_1_Hubsv, b_1_Routesv], ro b_1_Hubsv 3 (b_1.Hubs.map S_api_Hub.enc), nro b_1_Routesv NC_api_Route_82 b_1.Routes]
   refine run_seq ?_
   refine run_seq ?_
   refine run_region' ?_
   refine oy rfl rfl (y_move rfl) ?_
   refine oy rfl rfl (y_move rfl) ?_
   refine oy rfl rfl ((y_len 0 rfl Try.runUnderlying26 rfl rfl reads_ro).to (v_len eStr _)) ?_
   refine oy rfl rfl (y_lss rfl rfl) ?_
   refine ops_nil ?_
   refine goes_code ?_
   refine run_cond (decide (i_23 < (l_2.length : Int))) rfl (fun hc28 => ?_) (fun hc28 => ?_)
   ·replace h := cond_t h hc28
    refine run_skip ?_
    refine goes_code ?_
    refine run_seq ?_
    refine run_block ?_
    refine run_seq ?_
    refine run_drawany [ro l_2v 1 (l_2.map eStr), box b1 [a_0_Hubsv, a_0_Routesv], ro a_0_Hubsv 3 (a_0.Hubs.map S_api_Hub.enc), nro a_0_Routesv NC_api_Route_82 a_0.Routes, box b2 [b_1_Hubsv, b_1_Routesv], ro b_1_Hubsv 3 (b_1.Hubs.map S_api_Hub.enc), nro b_1_Routesv NC_api_Route_82 b_1.Routes] (by kernel_rfl) ?_
    refine any_y 0 rfl (by kernel_rfl) (by kernel_rfl) (by kernel_rfl) (ss (ss (ss (ss (ss (ss (ss (sn)))))))) (wn rfl) rfl (y_load_boxagg (c := [a_0_Hubsv, a_0_Routesv]) 1 Try.isAgg25 Try.sizeOf25 rfl rfl rfl) ?_
    refine any_y 1 rfl (by kernel_rfl) (by kernel_rfl) (by kernel_rfl) (ss (ss (ss (ss (ss (ss (ss (sn)))))))) (wn rfl) rfl (y_move rfl) ?_
    refine any_y 2 rfl (by kernel_rfl) (by kernel_rfl) (by kernel_rfl) (ss (ss (ss (ss (ss (ss (ss (sn)))))))) (wn rfl) rfl (y_move rfl) ?_
    obtain ⟨x29, hzx29, hlx29, hxx29, h⟩ := idx_some h
    refine any_y 3 rfl (by kernel_rfl) (by kernel_rfl) (by kernel_rfl) (ss (ss (ss (ss (ss (ss (ss (sn)))))))) (wn rfl) rfl (y_indexAddrI (kd := .i64) (i := i_23) 0 Try.runUnderlying26 Try.sizeOf9 rfl rfl rfl reads_ro hzx29 (map_lt hlx29)) ?_
    refine any_y 4 rfl (by kernel_rfl) (by kernel_rfl) (by kernel_rfl) (ss (ss (ss (ss (ss (ss (ss (sn)))))))) (wn rfl) rfl (y_load_elem (i := i_23.toNat) 0 Try.isAgg9 rfl rfl reads_ro (map_get hxx29)) ?_
    refine any_all [5] (by kernel_rfl) rfl (anyo_cons ?_ anyo_nil)
    obtain ⟨r30, hr31, h⟩ := obind_some h
    refine any_t rfl (wn rfl) rfl (t_callx (vs := [.agg #[a_0_Hubsv, a_0_Routesv], .string (bs x29)]) (cs := []) [(2, 0), (3, 0)] rfl Try.call9 rfl (topo_Entry_ok n a_0 x29 a_0_Hubsv a_0_Routesv hr31) (showsX_view 2 rfl views_ro (showsX_view 3 rfl views_nro showsX_nil)) rfl (.inl rfl)) ?_
    rintro _ _ ⟨_, ⟨rfl, rfl⟩, rfl⟩
    refine ⟨(ss (ss (ss (ss (ss (ss (ss (sn)))))))), ?_⟩
    refine any_y 6 rfl (by kernel_rfl) (by kernel_rfl) (by kernel_rfl) (ss (ss (ss (ss (ss (ss (ss (sn)))))))) (wn rfl) rfl (y_move rfl) ?_
    refine any_y 7 rfl (by kernel_rfl) (by kernel_rfl) (by kernel_rfl) (ss (ss (ss (ss (ss (ss (ss (sn)))))))) (wn rfl) rfl (y_extract rfl rfl) ?_
    refine any_y 8 rfl (by kernel_rfl) (by kernel_rfl) (by kernel_rfl) (ss (ss (ss (ss (ss (ss (ss (sn)))))))) (wn rfl) rfl (y_extract rfl rfl) ?_
    refine any_y 9 rfl (by kernel_rfl) (by kernel_rfl) (by kernel_rfl) (ss (ss (ss (ss (ss (ss (ss (sn)))))))) (wn rfl) rfl (y_assign rfl) ?_
    refine any_y 10 rfl (by kernel_rfl) (by kernel_rfl) (by kernel_rfl) (ss (ss (ss (ss (ss (ss (ss (sn)))))))) (wn rfl) rfl (y_assign rfl) ?_
    refine any_nil (by kernel_rfl) ?_
    refine goes_code ?_
    refine run_seq ?_
    refine run_weak [(2, l_2v), (3, .int .i64 site_3), (4, .bool up_4), (5, boxP b1 0), (6, boxP b2 0), (11, .int .i64 i_23), (12, .int .i64 r30.1), (13, .int .i64 r30.2)] [0, 1, 2, 3, 4, 5, 6] [ro l_2v 1 (l_2.map eStr), box b1 [a_0_Hubsv, a_0_Routesv], ro a_0_Hubsv 3 (a_0.Hubs.map S_api_Hub.enc), nro a_0_Routesv NC_api_Route_82 a_0.Routes, box b2 [b_1_Hubsv, b_1_Routesv], ro b_1_Hubsv 3 (b_1.Hubs.map S_api_Hub.enc), nro b_1_Routesv NC_api_Route_82 b_1.Routes] (vcons rfl (vcons rfl (vcons rfl (vcons rfl (vcons rfl (vcons rfl (vcons rfl (vcons rfl (vnil))))))))) (by decide) rfl ?_
    obtain ⟨r32, hr33, h⟩ := obind_some h
    refine run_drawany [ro l_2v 1 (l_2.map eStr), box b1 [a_0_Hubsv, a_0_Routesv], ro a_0_Hubsv 3 (a_0.Hubs.map S_api_Hub.enc), nro a_0_Routesv NC_api_Route_82 a_0.Routes, box b2 [b_1_Hubsv, b_1_Routesv], ro b_1_Hubsv 3 (b_1.Hubs.map S_api_Hub.enc), nro b_1_Routesv NC_api_Route_82 b_1.Routes] (by kernel_rfl) ?_
    refine any_y 0 rfl (by kernel_rfl) (by kernel_rfl) (by kernel_rfl) (ss (ss (ss (ss (ss (ss (ss (sn)))))))) (wn rfl) rfl (y_load_boxagg (c := [a_0_Hubsv, a_0_Routesv]) 1 Try.isAgg25 Try.sizeOf25 rfl rfl rfl) ?_
    refine any_y 1 rfl (by kernel_rfl) (by kernel_rfl) (by kernel_rfl) (ss (ss (ss (ss (ss (ss (ss (sn)))))))) (wn rfl) rfl (y_move rfl) ?_
    refine any_y 2 rfl (by kernel_rfl) (by kernel_rfl) (by kernel_rfl) (ss (ss (ss (ss (ss (ss (ss (sn)))))))) (wn rfl) rfl (y_move rfl) ?_
    refine any_y 3 rfl (by kernel_rfl) (by kernel_rfl) (by kernel_rfl) (ss (ss (ss (ss (ss (ss (ss (sn)))))))) (wn rfl) rfl (y_indexAddrI (kd := .i64) (i := i_23) 0 Try.runUnderlying26 Try.sizeOf9 rfl rfl rfl reads_ro hzx29 (map_lt hlx29)) ?_
    refine any_y 4 rfl (by kernel_rfl) (by kernel_rfl) (by kernel_rfl) (ss (ss (ss (ss (ss (ss (ss (sn)))))))) (wn rfl) rfl (y_load_elem (i := i_23.toNat) 0 Try.isAgg9 rfl rfl reads_ro (map_get hxx29)) ?_
    refine any_cut2 #[true, true, true, true, true, true, true, true] 0 (Nat) (fun σ => [(2, l_2v), (3, .int .i64 site_3), (4, .bool up_4), (5, boxP b1 0), (6, boxP b2 0), (11, .int .i64 i_23), (12, .int .i64 r30.1), (13, .int .i64 r30.2), (14, boxP σ 0)]) (fun σ => [ro l_2v 1 (l_2.map eStr), box b1 [a_0_Hubsv, a_0_Routesv], ro a_0_Hubsv 3 (a_0.Hubs.map S_api_Hub.enc), nro a_0_Routesv NC_api_Route_82 a_0.Routes, box b2 [b_1_Hubsv, b_1_Routesv], ro b_1_Hubsv 3 (b_1.Hubs.map S_api_Hub.enc), nro b_1_Routesv NC_api_Route_82 b_1.Routes, box σ [.int .i64 r32.N, .int .i64 r32.E]]) ?_ (fun hK37 => ?_)
    ·rintro b36
     change AnyL _ _ _ _ _ (VF.of [(2, l_2v), (3, .int .i64 site_3), (4, .bool up_4), (5, boxP b1 0), (6, boxP b2 0), (11, .int .i64 i_23), (12, .int .i64 r30.1), (13, .int .i64 r30.2), (14, boxP b36 0)]) [ro l_2v 1 (l_2.map eStr), box b1 [a_0_Hubsv, a_0_Routesv], ro a_0_Hubsv 3 (a_0.Hubs.map S_api_Hub.enc), nro a_0_Routesv NC_api_Route_82 a_0.Routes, box b2 [b_1_Hubsv, b_1_Routesv], ro b_1_Hubsv 3 (b_1.Hubs.map S_api_Hub.enc), nro b_1_Routesv NC_api_Route_82 b_1.Routes, box b36 [.int .i64 r32.N, .int .i64 r32.E]] _
     refine any_nil (by kernel_rfl) ?_
     refine goes_code ?_
     refine run_seq ?_
     refine run_region' ?_
     refine oy rfl rfl (y_move rfl) ?_
     refine oy rfl rfl (y_fieldAddr_box (sz := 0) Try.runUnderlying33 rfl Try.sizeOf3 rfl) ?_
     refine oy rfl rfl (y_load_box 7 Try.isAgg3 rfl rfl rfl) ?_
     refine oy rfl rfl (y_neq rfl rfl) ?_
     refine oy rfl rfl (y_move rfl) ?_
     refine ops_cut 5 (Bool) (fun σ => [(2, l_2v), (3, .int .i64 site_3), (4, .bool up_4), (5, boxP b1 0), (6, boxP b2 0), (11, .int .i64 i_23), (68, .bool σ)]) (fun σ => [ro l_2v 1 (l_2.map eStr), box b1 [a_0_Hubsv, a_0_Routesv], ro a_0_Hubsv 3 (a_0.Hubs.map S_api_Hub.enc), nro a_0_Routesv NC_api_Route_82 a_0.Routes, box b2 [b_1_Hubsv, b_1_Routesv], ro b_1_Hubsv 3 (b_1.Hubs.map S_api_Hub.enc), nro b_1_Routesv NC_api_Route_82 b_1.Routes]) (fun σ => σ = (decide (r30.1 ≠ r32.N) || decide (r30.2 ≠ r32.E))) (fun L38 hL39 => ?_) ?_
     ·refine ops_split 63 (decide (r30.1 ≠ r32.N)) rfl (fun hg40 => ?_) (fun hg40 => ?_)
      ·skip
       refine ops_no 4 false 63 rfl rfl rfl rfl rfl ?_
       refine ops_no 4 false 63 rfl rfl rfl rfl rfl ?_
       refine ops_no 4 false 63 rfl rfl rfl rfl rfl ?_
       refine ops_no 4 false 63 rfl rfl rfl rfl rfl ?_
       refine oy rfl rfl (y_pick (b := true) rfl rfl) ?_
       refine ops_nil ?_
       exact goes_cut hL39 true [0, 1, 2, 3, 4, 5, 6] (vcons rfl (vcons rfl (vcons rfl (vcons rfl (vcons rfl (vcons rfl (vcons rfl (vnil)))))))) (by decide) rfl (by rw [hg40]; simp)
      ·skip
       refine ops_y (wg 4 false 63 rfl rfl rfl rfl) rfl (y_move rfl) ?_
       refine ops_y (wg 4 false 63 rfl rfl rfl rfl) rfl (y_fieldAddr_box (sz := 0) Try.runUnderlying33 rfl Try.sizeOf29 rfl) ?_
       refine ops_y (wg 4 false 63 rfl rfl rfl rfl) rfl (y_load_box 7 Try.isAgg29 rfl rfl rfl) ?_
       refine ops_y (wg 4 false 63 rfl rfl rfl rfl) rfl (y_neq rfl rfl) ?_
       refine oy rfl rfl (y_pick (b := false) rfl rfl) ?_
       refine ops_nil ?_
       exact goes_cut hL39 (decide (r30.2 ≠ r32.E)) [0, 1, 2, 3, 4, 5, 6] (vcons rfl (vcons rfl (vcons rfl (vcons rfl (vcons rfl (vcons rfl (vcons rfl (vnil)))))))) (by decide) rfl (by rw [hg40]; simp)
     rintro _ rfl
     refine ops_nil ?_
     refine goes_code ?_
     refine run_cond (decide (r30.1 ≠ r32.N) || decide (r30.2 ≠ r32.E)) rfl (fun hc41 => ?_) (fun hc41 => ?_)
     ·replace h := cond_t h hc41
      refine run_seq ?_
      refine run_region' ?_
      refine oy rfl rfl (y_assign rfl) ?_
      refine ops_nil ?_
      refine goes_code ?_
      refine run_ret ?_
      obtain rfl := some_eq h
      obtain rfl := hstop26 _ rfl
      skip
      obtain rfl := after_stop ho20
      refine fin_slots [10] [.bool false] [] [] Try.results3 rfl (by decide) rfl ?_
      exact ⟨rfl, rfl⟩
     ·replace h := cond_f h hc41
      refine run_skip ?_
      refine goes_blk ?_
      refine goes_code ?_
      refine run_region' ?_
      refine oy rfl rfl (y_move rfl) ?_
      refine oy rfl rfl (y_add rfl rfl) ?_
      refine oy rfl rfl (y_assign rfl) ?_
      refine ops_nil ?_
      obtain rfl := some_eq h
      exact goes_iter hgo25 (IntKind.i64.wrap (i_23 + 1)) () [0, 1, 2, 3, 4, 5, 6] rfl (vcons rfl (vcons rfl (vcons rfl (vcons rfl (vcons rfl (vcons rfl (vnil))))))) (by decide) rfl
    refine any_cut2 #[true, true, true, true, true, true, true, false] 1 (Nat) (fun σ => [(2, l_2v), (3, .int .i64 site_3), (4, .bool up_4), (5, boxP b1 0), (6, boxP b2 0), (11, .int .i64 i_23), (12, .int .i64 r30.1), (13, .int .i64 r30.2), (58, .agg #[.int .i64 r32.N, .int .i64 r32.E]), (14, boxP σ 0)]) (fun σ => [ro l_2v 1 (l_2.map eStr), box b1 [a_0_Hubsv, a_0_Routesv], ro a_0_Hubsv 3 (a_0.Hubs.map S_api_Hub.enc), nro a_0_Routesv NC_api_Route_82 a_0.Routes, box b2 [b_1_Hubsv, b_1_Routesv], ro b_1_Hubsv 3 (b_1.Hubs.map S_api_Hub.enc), nro b_1_Routesv NC_api_Route_82 b_1.Routes, box σ [.int .i64 0, .int .i64 0]]) ?_ (fun hK42 => ?_)
    ·rintro b36
     change AnyL _ _ _ _ _ (VF.of [(2, l_2v), (3, .int .i64 site_3), (4, .bool up_4), (5, boxP b1 0), (6, boxP b2 0), (11, .int .i64 i_23), (12, .int .i64 r30.1), (13, .int .i64 r30.2), (58, .agg #[.int .i64 r32.N, .int .i64 r32.E]), (14, boxP b36 0)]) [ro l_2v 1 (l_2.map eStr), box b1 [a_0_Hubsv, a_0_Routesv], ro a_0_Hubsv 3 (a_0.Hubs.map S_api_Hub.enc), nro a_0_Routesv NC_api_Route_82 a_0.Routes, box b2 [b_1_Hubsv, b_1_Routesv], ro b_1_Hubsv 3 (b_1.Hubs.map S_api_Hub.enc), nro b_1_Routesv NC_api_Route_82 b_1.Routes, box b36 [.int .i64 0, .int .i64 0]] _
     refine any_all [7] (by kernel_rfl) rfl ?_
     refine anyo_cons ?_ ?_
     ·
      refine any_t rfl (wn rfl) rfl (t_store 7 Try.sizeOf33 rfl rfl rfl rfl (by simp [Value.cells, boxP]) (by simp [Value.cells, Value.oneCell', boxP])) ?_
      rintro _ _ ⟨rfl, rfl⟩
      refine ⟨(ss (ss (ss (ss (ss (ss (ss (sn)))))))), ?_⟩
      refine any_turn (retell 7 (g := box b36 [.int .i64 r32.N, .int .i64 r32.E]) rfl rfl) ?_
      exact any_weak2 (hK37 b36) [0, 1, 2, 3, 4, 5, 6, 7] (by kernel_rfl) (vcons rfl (vcons rfl (vcons rfl (vcons rfl (vcons rfl (vcons rfl (vcons rfl (vcons rfl (vcons rfl (vnil)))))))))) (by decide) rfl
     exact anyo_nil
    refine any_cut2 #[true, true, true, true, true, true, false, false] 2 (Unit) (fun σ => [(2, l_2v), (3, .int .i64 site_3), (4, .bool up_4), (5, boxP b1 0), (6, boxP b2 0), (11, .int .i64 i_23), (12, .int .i64 r30.1), (13, .int .i64 r30.2), (58, .agg #[.int .i64 r32.N, .int .i64 r32.E])]) (fun σ => [ro l_2v 1 (l_2.map eStr), box b1 [a_0_Hubsv, a_0_Routesv], ro a_0_Hubsv 3 (a_0.Hubs.map S_api_Hub.enc), nro a_0_Routesv NC_api_Route_82 a_0.Routes, box b2 [b_1_Hubsv, b_1_Routesv], ro b_1_Hubsv 3 (b_1.Hubs.map S_api_Hub.enc), nro b_1_Routesv NC_api_Route_82 b_1.Routes]) ?_ (fun hK43 => ?_)
    ·rintro _
     change AnyL _ _ _ _ _ (VF.of [(2, l_2v), (3, .int .i64 site_3), (4, .bool up_4), (5, boxP b1 0), (6, boxP b2 0), (11, .int .i64 i_23), (12, .int .i64 r30.1), (13, .int .i64 r30.2), (58, .agg #[.int .i64 r32.N, .int .i64 r32.E])]) [ro l_2v 1 (l_2.map eStr), box b1 [a_0_Hubsv, a_0_Routesv], ro a_0_Hubsv 3 (a_0.Hubs.map S_api_Hub.enc), nro a_0_Routesv NC_api_Route_82 a_0.Routes, box b2 [b_1_Hubsv, b_1_Routesv], ro b_1_Hubsv 3 (b_1.Hubs.map S_api_Hub.enc), nro b_1_Routesv NC_api_Route_82 b_1.Routes] _
     refine any_all [6] (by kernel_rfl) rfl ?_
     refine anyo_cons ?_ ?_
     ·
      refine any_t rfl (wn rfl) rfl (t_alloc Try.zeroValue33) ?_
      rintro _ _ ⟨b44, rfl, rfl⟩
      refine ⟨(ss (ss (ss (ss (ss (ss (ss (sn)))))))), ?_⟩
      exact any_weak2 (hK42 b44) [0, 1, 2, 3, 4, 5, 6, 7] (by kernel_rfl) (vcons rfl (vcons rfl (vcons rfl (vcons rfl (vcons rfl (vcons rfl (vcons rfl (vcons rfl (vcons rfl (vcons rfl (vnil))))))))))) (by decide) rfl
     exact anyo_nil
    refine any_cut2 #[true, true, true, true, true, false, true, false] 2 (Nat) (fun σ => [(2, l_2v), (3, .int .i64 site_3), (4, .bool up_4), (5, boxP b1 0), (6, boxP b2 0), (11, .int .i64 i_23), (12, .int .i64 r30.1), (13, .int .i64 r30.2), (53, .agg #[a_0_Hubsv, a_0_Routesv]), (57, .string (bs x29)), (14, boxP σ 0)]) (fun σ => [ro l_2v 1 (l_2.map eStr), box b1 [a_0_Hubsv, a_0_Routesv], ro a_0_Hubsv 3 (a_0.Hubs.map S_api_Hub.enc), nro a_0_Routesv NC_api_Route_82 a_0.Routes, box b2 [b_1_Hubsv, b_1_Routesv], ro b_1_Hubsv 3 (b_1.Hubs.map S_api_Hub.enc), nro b_1_Routesv NC_api_Route_82 b_1.Routes, box σ [.int .i64 0, .int .i64 0]]) ?_ (fun hK45 => ?_)
    ·rintro b35
     change AnyL _ _ _ _ _ (VF.of [(2, l_2v), (3, .int .i64 site_3), (4, .bool up_4), (5, boxP b1 0), (6, boxP b2 0), (11, .int .i64 i_23), (12, .int .i64 r30.1), (13, .int .i64 r30.2), (53, .agg #[a_0_Hubsv, a_0_Routesv]), (57, .string (bs x29)), (14, boxP b35 0)]) [ro l_2v 1 (l_2.map eStr), box b1 [a_0_Hubsv, a_0_Routesv], ro a_0_Hubsv 3 (a_0.Hubs.map S_api_Hub.enc), nro a_0_Routesv NC_api_Route_82 a_0.Routes, box b2 [b_1_Hubsv, b_1_Routesv], ro b_1_Hubsv 3 (b_1.Hubs.map S_api_Hub.enc), nro b_1_Routesv NC_api_Route_82 b_1.Routes, box b35 [.int .i64 0, .int .i64 0]] _
     refine any_all [5] (by kernel_rfl) rfl ?_
     refine anyo_cons ?_ ?_
     ·
      refine any_t rfl (wn rfl) rfl (t_callx (vs := [.agg #[a_0_Hubsv, a_0_Routesv], .string (bs x29)]) (cs := []) [(2, 0), (3, 0)] rfl Try.call10 rfl (ref42_Entry_ok n a_0 x29 a_0_Hubsv a_0_Routesv hr33) (showsX_view 2 rfl views_ro (showsX_view 3 rfl views_nro showsX_nil)) rfl (.inl rfl)) ?_
      rintro _ _ ⟨_, ⟨rfl, rfl⟩, rfl⟩
      refine ⟨(ss (ss (ss (ss (ss (ss (ss (sn)))))))), ?_⟩
      exact any_weak2 (hK42 b35) [0, 1, 2, 3, 4, 5, 6, 7] (by kernel_rfl) (vcons rfl (vcons rfl (vcons rfl (vcons rfl (vcons rfl (vcons rfl (vcons rfl (vcons rfl (vcons rfl (vcons rfl (vnil))))))))))) (by decide) rfl
     exact anyo_nil
    refine any_all [5, 6] (by kernel_rfl) rfl ?_
    refine anyo_cons ?_ ?_
    ·
     refine any_t rfl (wn rfl) rfl (t_callx (vs := [.agg #[a_0_Hubsv, a_0_Routesv], .string (bs x29)]) (cs := []) [(2, 0), (3, 0)] rfl Try.call10 rfl (ref42_Entry_ok n a_0 x29 a_0_Hubsv a_0_Routesv hr33) (showsX_view 2 rfl views_ro (showsX_view 3 rfl views_nro showsX_nil)) rfl (.inl rfl)) ?_
     rintro _ _ ⟨_, ⟨rfl, rfl⟩, rfl⟩
     refine ⟨(ss (ss (ss (ss (ss (ss (ss (sn)))))))), ?_⟩
     exact any_weak2 (hK43 ()) [0, 1, 2, 3, 4, 5, 6] (by kernel_rfl) (vcons rfl (vcons rfl (vcons rfl (vcons rfl (vcons rfl (vcons rfl (vcons rfl (vcons rfl (vcons rfl (vnil)))))))))) (by decide) rfl
    refine anyo_cons ?_ ?_
    ·
     refine any_t rfl (wn rfl) rfl (t_alloc Try.zeroValue33) ?_
     rintro _ _ ⟨b46, rfl, rfl⟩
     refine ⟨(ss (ss (ss (ss (ss (ss (ss (sn)))))))), ?_⟩
     exact any_weak2 (hK45 b46) [0, 1, 2, 3, 4, 5, 6, 7] (by kernel_rfl) (vcons rfl (vcons rfl (vcons rfl (vcons rfl (vcons rfl (vcons rfl (vcons rfl (vcons rfl (vcons rfl (vcons rfl (vcons rfl (vnil)))))))))))) (by decide) rfl
    exact anyo_nil
   ·replace h := cond_f h hc28
    refine run_exit _ rfl ?_
    obtain rfl := some_eq h
    obtain rfl := hstop26 _ rfl
    exact goes_cut hL21 ((), ()) [0, 1, 2, 3, 4, 5, 6] (vcons rfl (vcons rfl (vcons rfl (vcons rfl (vcons rfl (vnil)))))) (by decide) rfl rfl
  rintro ⟨_, _⟩ hj
  obtain rfl : o19 = _ := hj
  replace h := after_go ho20
  clear ho20
  change Run _ _ _ (VF.of [(2, l_2v), (3, .int .i64 site_3), (4, .bool up_4), (5, boxP b1 0), (6, boxP b2 0)]) [ro l_2v 1 (l_2.map eStr), box b1 [a_0_Hubsv, a_0_Routesv], ro a_0_Hubsv 3 (a_0.Hubs.map S_api_Hub.enc), nro a_0_Routesv NC_api_Route_82 a_0.Routes, box b2 [b_1_Hubsv, b_1_Routesv], ro b_1_Hubsv 3 (b_1.Hubs.map S_api_Hub.enc), nro b_1_Routesv NC_api_Route_82 b_1.Routes]
  refine run_seq ?_
  refine run_region' ?_
  refine oy rfl rfl (y_load_boxagg (c := [a_0_Hubsv, a_0_Routesv]) 1 Try.isAgg25 Try.sizeOf25 rfl rfl rfl) ?_
  refine oy rfl rfl (y_move rfl) ?_
  obtain ⟨r47, hr48, h⟩ := obind_some h
  refine ot rfl rfl (t_callx (vs := [.agg #[a_0_Hubsv, a_0_Routesv], .int .i64 site_3]) (cs := []) [(2, 0), (3, 0)] rfl Try.call11 rfl (topo_Climb_ok n a_0 site_3 a_0_Hubsv a_0_Routesv hr48) (showsX_view 2 rfl views_ro (showsX_view 3 rfl views_nro showsX_nil)) rfl (.inl rfl)) ?_
  rintro _ _ ⟨_, ⟨v49, rfl, rfl⟩, rfl⟩
  refine oy rfl rfl (y_move rfl) ?_
  refine oy rfl rfl (y_extract rfl rfl) ?_
  refine oy rfl rfl (y_extract rfl rfl) ?_
  refine oy rfl rfl (y_assign rfl) ?_
  refine oy rfl rfl (y_assign rfl) ?_
  refine ops_nil ?_
  refine goes_code ?_
  refine run_seq ?_
  refine run_weak [(2, l_2v), (3, .int .i64 site_3), (4, .bool up_4), (5, boxP b1 0), (6, boxP b2 0), (15, v49), (16, .int .i64 r47.2)] [0, 1, 2, 3, 4, 5, 6, 7] [ro l_2v 1 (l_2.map eStr), box b1 [a_0_Hubsv, a_0_Routesv], ro a_0_Hubsv 3 (a_0.Hubs.map S_api_Hub.enc), nro a_0_Routesv NC_api_Route_82 a_0.Routes, box b2 [b_1_Hubsv, b_1_Routesv], ro b_1_Hubsv 3 (b_1.Hubs.map S_api_Hub.enc), nro b_1_Routesv NC_api_Route_82 b_1.Routes, row v49 1 (r47.1.map (eInt .i64))] (vcons rfl (vcons rfl (vcons rfl (vcons rfl (vcons rfl (vcons rfl (vcons rfl (vnil)))))))) (by decide) rfl ?_
  refine run_region' ?_
  refine oy rfl rfl (y_load_boxagg (c := [a_0_Hubsv, a_0_Routesv]) 1 Try.isAgg25 Try.sizeOf25 rfl rfl rfl) ?_
  refine oy rfl rfl (y_move rfl) ?_
  refine oy rfl rfl (y_move rfl) ?_
  obtain ⟨r50, hr51, h⟩ := obind_some h
  refine ot rfl rfl (t_callx (vs := [.agg #[a_0_Hubsv, a_0_Routesv], .int .i64 site_3, .bool up_4]) (cs := []) [(2, 0), (3, 0)] rfl Try.call12 rfl (topo_Turn_ok n a_0 site_3 up_4 a_0_Hubsv a_0_Routesv hr51) (showsX_view 2 rfl views_ro (showsX_view 3 rfl views_nro showsX_nil)) rfl (.inl rfl)) ?_
  rintro _ _ ⟨_, ⟨v52, v53, rfl, rfl⟩, rfl⟩
  refine oy rfl rfl (y_move rfl) ?_
  refine oy rfl rfl (y_extract rfl rfl) ?_
  refine oy rfl rfl (y_extract rfl rfl) ?_
  refine ot rfl rfl (t_alloc Try.zeroValue25) ?_
  rintro _ _ ⟨b54, rfl, rfl⟩
  refine ops_slc 8 rfl reads_row (fun hs55 hs55o => ?_)
  refine ops_slcN 9 rfl readsN_ro (fun hs56 hs56o => ?_)
  refine ot rfl rfl (t_store 10 Try.sizeOf25 rfl rfl rfl rfl (by simp [Value.cells, boxP]) (allL_cons hs55o (allL_cons hs56o (allL_nil)))) ?_
  rintro _ _ ⟨rfl, rfl⟩
  refine ops_turn (retell 10 (g := box b54 [v52, v53]) rfl rfl) ?_
  refine oy rfl rfl (y_assign rfl) ?_
  refine ops_nil ?_
  refine goes_code ?_
  refine run_seq ?_
  refine run_weak [(2, l_2v), (3, .int .i64 site_3), (4, .bool up_4), (5, boxP b1 0), (6, boxP b2 0), (15, v49), (16, .int .i64 r47.2), (17, boxP b54 0), (18, .int .i64 r50.2)] [0, 1, 2, 3, 4, 5, 6, 7, 8, 9, 10] [ro l_2v 1 (l_2.map eStr), box b1 [a_0_Hubsv, a_0_Routesv], ro a_0_Hubsv 3 (a_0.Hubs.map S_api_Hub.enc), nro a_0_Routesv NC_api_Route_82 a_0.Routes, box b2 [b_1_Hubsv, b_1_Routesv], ro b_1_Hubsv 3 (b_1.Hubs.map S_api_Hub.enc), nro b_1_Routesv NC_api_Route_82 b_1.Routes, row v49 1 (r47.1.map (eInt .i64)), row v52 3 (r50.1.Hubs.map S_api_Hub.enc), nro v53 NC_api_Route_82 r50.1.Routes, box b54 [v52, v53]] (vcons rfl (vcons rfl (vcons rfl (vcons rfl (vcons rfl (vcons rfl (vcons rfl (vcons rfl (vcons rfl (vnil)))))))))) (by decide) rfl ?_
  refine run_region' ?_
  refine oy rfl rfl (y_load_boxagg (c := [a_0_Hubsv, a_0_Routesv]) 1 Try.isAgg25 Try.sizeOf25 rfl rfl rfl) ?_
  refine oy rfl rfl (y_load_boxagg (c := [b_1_Hubsv, b_1_Routesv]) 4 Try.isAgg25 Try.sizeOf25 rfl rfl rfl) ?_
  refine oy rfl rfl (y_move rfl) ?_
  obtain ⟨r57, hr58, h⟩ := obind_some h
  refine ot rfl rfl (t_callx (vs := [.agg #[a_0_Hubsv, a_0_Routesv], .agg #[b_1_Hubsv, b_1_Routesv], l_2v]) (cs := []) [(2, 0), (3, 0), (5, 0), (6, 0), (0, 0)] rfl Try.call13 rfl (topo_Moved_ok n a_0 b_1 l_2 a_0_Hubsv a_0_Routesv b_1_Hubsv b_1_Routesv l_2v hr58) (showsX_view 2 rfl views_ro (showsX_view 3 rfl views_nro (showsX_view 5 rfl views_ro (showsX_view 6 rfl views_nro (showsX_view 0 rfl views_ro showsX_nil))))) rfl (.inl rfl)) ?_
  rintro v59 _ ⟨_, ⟨_, rfl, rfl⟩, rfl⟩
  refine oy rfl rfl (y_assign rfl) ?_
  refine ops_nil ?_
  refine goes_code ?_
  refine run_seq ?_
  refine run_region' ?_
  refine oy rfl rfl (y_load_boxagg (c := [a_0_Hubsv, a_0_Routesv]) 1 Try.isAgg25 Try.sizeOf25 rfl rfl rfl) ?_
  refine oy rfl rfl (y_move rfl) ?_
  obtain ⟨r60, hr61, h⟩ := obind_some h
  refine ot rfl rfl (t_callx (vs := [.agg #[a_0_Hubsv, a_0_Routesv], .int .i64 site_3]) (cs := []) [(2, 0), (3, 0)] rfl Try.call14 rfl (ref42_Climb_ok n a_0 site_3 a_0_Hubsv a_0_Routesv hr61) (showsX_view 2 rfl views_ro (showsX_view 3 rfl views_nro showsX_nil)) rfl (.inl rfl)) ?_
  rintro _ _ ⟨_, ⟨v62, rfl, rfl⟩, rfl⟩
  refine ot rfl rfl (t_alloc Try.zeroValue42) ?_
  rintro _ _ ⟨b63, rfl, rfl⟩
  refine ops_slc 12 rfl reads_row (fun hs64 hs64o => ?_)
  refine ot rfl rfl (t_store 13 Try.sizeOf42 rfl rfl rfl rfl (by simp [Value.cells, boxP]) (allL_cons hs64o (allL_cons rfl (allL_nil)))) ?_
  rintro _ _ ⟨rfl, rfl⟩
  refine ops_turn (retell 13 (g := box b63 [v62, .int .i64 r60.E]) rfl rfl) ?_
  refine ops_nil ?_
  refine goes_code ?_
  refine run_seq ?_
  refine run_weak [(2, l_2v), (3, .int .i64 site_3), (4, .bool up_4), (5, boxP b1 0), (6, boxP b2 0), (15, v49), (16, .int .i64 r47.2), (17, boxP b54 0), (18, .int .i64 r50.2), (19, v59), (20, boxP b63 0)] [0, 1, 2, 3, 4, 5, 6, 7, 8, 9, 10, 11, 12, 13] [ro l_2v 1 (l_2.map eStr), box b1 [a_0_Hubsv, a_0_Routesv], ro a_0_Hubsv 3 (a_0.Hubs.map S_api_Hub.enc), nro a_0_Routesv NC_api_Route_82 a_0.Routes, box b2 [b_1_Hubsv, b_1_Routesv], ro b_1_Hubsv 3 (b_1.Hubs.map S_api_Hub.enc), nro b_1_Routesv NC_api_Route_82 b_1.Routes, row v49 1 (r47.1.map (eInt .i64)), row v52 3 (r50.1.Hubs.map S_api_Hub.enc), nro v53 NC_api_Route_82 r50.1.Routes, box b54 [v52, v53], row v59 1 (r57.map eStr), row v62 1 (r60.L.map (eInt .i64)), box b63 [v62, .int .i64 r60.E]] (vcons rfl (vcons rfl (vcons rfl (vcons rfl (vcons rfl (vcons rfl (vcons rfl (vcons rfl (vcons rfl (vcons rfl (vcons rfl (vnil)))))))))))) (by decide) rfl ?_
  refine run_region' ?_
  refine oy rfl rfl (y_load_boxagg (c := [a_0_Hubsv, a_0_Routesv]) 1 Try.isAgg25 Try.sizeOf25 rfl rfl rfl) ?_
  refine oy rfl rfl (y_move rfl) ?_
  refine oy rfl rfl (y_move rfl) ?_
  obtain ⟨r65, hr66, h⟩ := obind_some h
  refine ot rfl rfl (t_callx (vs := [.agg #[a_0_Hubsv, a_0_Routesv], .int .i64 site_3, .bool up_4]) (cs := []) [(2, 0), (3, 0)] rfl Try.call15 rfl (ref42_Turn_ok n a_0 site_3 up_4 a_0_Hubsv a_0_Routesv hr66) (showsX_view 2 rfl views_ro (showsX_view 3 rfl views_nro showsX_nil)) rfl (.inl rfl)) ?_
  rintro _ _ ⟨_, ⟨v67, v68, rfl, rfl⟩, rfl⟩
  refine ot rfl rfl (t_alloc Try.zeroValue45) ?_
  rintro _ _ ⟨b69, rfl, rfl⟩
  refine ops_slc 14 rfl reads_row (fun hs70 hs70o => ?_)
  refine ops_slcN 15 rfl readsN_ro (fun hs71 hs71o => ?_)
  refine ot rfl rfl (t_store 16 Try.sizeOf45 rfl rfl rfl rfl (by simp [Value.cells, boxP]) (allL_cons hs70o (allL_cons hs71o (allL_cons rfl (allL_nil))))) ?_
  rintro _ _ ⟨rfl, rfl⟩
  refine ops_turn (retell 16 (g := box b69 [v67, v68, .int .i64 r65.E]) rfl rfl) ?_
  refine ops_nil ?_
  refine goes_code ?_
  refine run_seq ?_
  refine run_region' ?_
  refine oy rfl rfl (y_load_boxagg (c := [a_0_Hubsv, a_0_Routesv]) 1 Try.isAgg25 Try.sizeOf25 rfl rfl rfl) ?_
  refine oy rfl rfl (y_load_boxagg (c := [b_1_Hubsv, b_1_Routesv]) 4 Try.isAgg25 Try.sizeOf25 rfl rfl rfl) ?_
  refine oy rfl rfl (y_move rfl) ?_
  obtain ⟨r72, hr73, h⟩ := obind_some h
  refine ot rfl rfl (t_callx (vs := [.agg #[a_0_Hubsv, a_0_Routesv], .agg #[b_1_Hubsv, b_1_Routesv], l_2v]) (cs := []) [(2, 0), (3, 0), (5, 0), (6, 0), (0, 0)] rfl Try.call16 rfl (ref42_Moved_ok n a_0 b_1 l_2 a_0_Hubsv a_0_Routesv b_1_Hubsv b_1_Routesv l_2v hr73) (showsX_view 2 rfl views_ro (showsX_view 3 rfl views_nro (showsX_view 5 rfl views_ro (showsX_view 6 rfl views_nro (showsX_view 0 rfl views_ro showsX_nil))))) rfl (.inl rfl)) ?_
  rintro v74 _ ⟨_, ⟨_, rfl, rfl⟩, rfl⟩
  refine oy rfl rfl (y_assign rfl) ?_
  refine ops_nil ?_
  refine goes_code ?_
  refine run_seq ?_
  refine run_seq ?_
  refine run_weak [(5, boxP b1 0), (15, v49), (16, .int .i64 r47.2), (17, boxP b54 0), (18, .int .i64 r50.2), (19, v59), (20, boxP b63 0), (21, boxP b69 0), (22, v74)] [1, 2, 3, 7, 8, 9, 10, 11, 12, 13, 14, 15, 16, 17] [box b1 [a_0_Hubsv, a_0_Routesv], ro a_0_Hubsv 3 (a_0.Hubs.map S_api_Hub.enc), nro a_0_Routesv NC_api_Route_82 a_0.Routes, row v49 1 (r47.1.map (eInt .i64)), row v52 3 (r50.1.Hubs.map S_api_Hub.enc), nro v53 NC_api_Route_82 r50.1.Routes, box b54 [v52, v53], row v59 1 (r57.map eStr), row v62 1 (r60.L.map (eInt .i64)), box b63 [v62, .int .i64 r60.E], row v67 3 (r65.M.Hubs.map S_api_Hub.enc), nro v68 NC_api_Route_82 r65.M.Routes, box b69 [v67, v68, .int .i64 r65.E], row v74 1 (r72.map eStr)] (vcons rfl (vcons rfl (vcons rfl (vcons rfl (vcons rfl (vcons rfl (vcons rfl (vcons rfl (vcons rfl (vnil)))))))))) (by decide) rfl ?_
  refine run_region' ?_
  refine oy rfl rfl (y_move rfl) ?_
  refine oy rfl rfl ((y_len 7 rfl Try.runUnderlying26 rfl rfl reads_row).to (v_len eStr _)) ?_
  refine oy rfl rfl (y_move rfl) ?_
  refine oy rfl rfl ((y_len 13 rfl Try.runUnderlying26 rfl rfl reads_row).to (v_len eStr _)) ?_
  refine oy rfl rfl (y_neq rfl rfl) ?_
  refine ops_nil ?_
  refine goes_code ?_
  refine run_cond (decide ((r57.length : Int) ≠ (r72.length : Int))) rfl (fun hc75 => ?_) (fun hc75 => ?_)
  ·replace h := cond_t h hc75
   refine run_seq ?_
   refine run_region' ?_
   refine oy rfl rfl (y_assign rfl) ?_
   refine ops_nil ?_
   refine goes_code ?_
   refine run_ret ?_
   obtain rfl := some_eq h
   refine fin_slots [10] [.bool false] [] [] Try.results3 rfl (by decide) rfl ?_
   exact ⟨rfl, rfl⟩
  ·replace h := cond_f h hc75
   refine run_skip ?_
   refine goes_code ?_
   obtain ⟨o76, h, ho77⟩ := bindJ_some h
   refine run_cut ((Unit) × (Unit)) (fun σ => [(5, boxP b1 0), (15, v49), (16, .int .i64 r47.2), (17, boxP b54 0), (18, .int .i64 r50.2), (20, boxP b63 0), (21, boxP b69 0)]) (fun σ => [box b1 [a_0_Hubsv, a_0_Routesv], ro a_0_Hubsv 3 (a_0.Hubs.map S_api_Hub.enc), nro a_0_Routesv NC_api_Route_82 a_0.Routes, row v49 1 (r47.1.map (eInt .i64)), box b54 [v52, v53], row v52 3 (r50.1.Hubs.map S_api_Hub.enc), nro v53 NC_api_Route_82 r50.1.Routes, box b63 [v62, .int .i64 r60.E], row v62 1 (r60.L.map (eInt .i64)), box b69 [v67, v68, .int .i64 r65.E], row v67 3 (r65.M.Hubs.map S_api_Hub.enc), nro v68 NC_api_Route_82 r65.M.Routes]) (fun σ => o76 = .go σ.1) (fun L79 hL78 => ?_) ?_
   ·
    refine run_seq ?_
    refine run_region' ?_
    refine oy rfl rfl (y_assign rfl) ?_
    refine ops_nil ?_
    refine goes_code ?_
    refine run_block ?_
    refine run_iter (step := law42_TopoRoutesAsSpecified_L2 r57 r72) (n := n) (s0 := 0) h (G := Unit) () (fun σ γ => [(5, boxP b1 0), (15, v49), (16, .int .i64 r47.2), (17, boxP b54 0), (18, .int .i64 r50.2), (19, v59), (20, boxP b63 0), (21, boxP b69 0), (22, v74), (23, .int .i64 σ)]) (fun σ γ => [box b1 [a_0_Hubsv, a_0_Routesv], ro a_0_Hubsv 3 (a_0.Hubs.map S_api_Hub.enc), nro a_0_Routesv NC_api_Route_82 a_0.Routes, row v49 1 (r47.1.map (eInt .i64)), box b54 [v52, v53], row v52 3 (r50.1.Hubs.map S_api_Hub.enc), nro v53 NC_api_Route_82 r50.1.Routes, row v59 1 (r57.map eStr), box b63 [v62, .int .i64 r60.E], row v62 1 (r60.L.map (eInt .i64)), box b69 [v67, v68, .int .i64 r65.E], row v67 3 (r65.M.Hubs.map S_api_Hub.enc), nro v68 NC_api_Route_82 r65.M.Routes, row v74 1 (r72.map eStr)]) [0, 1, 2, 3, 6, 4, 5, 7, 9, 8, 12, 10, 11, 13] (vcons rfl (vcons rfl (vcons rfl (vcons rfl (vcons rfl (vcons rfl (vcons rfl (vcons rfl (vcons rfl (vcons rfl (vnil))))))))))) (by decide) rfl ?_
    rintro i_80 _ o81 h L84 hgo82 hstop83
    change Run _ _ _ (VF.of [(5, boxP b1 0), (15, v49), (16, .int .i64 r47.2), (17, boxP b54 0), (18, .int .i64 r50.2), (19, v59), (20, boxP b63 0), (21, boxP b69 0), (22, v74), (23, .int .i64 i_80)]) [box b1 [a_0_Hubsv, a_0_Routesv], ro a_0_Hubsv 3 (a_0.Hubs.map S_api_Hub.enc), nro a_0_Routesv NC_api_Route_82 a_0.Routes, row v49 1 (r47.1.map (eInt .i64)), box b54 [v52, v53], row v52 3 (r50.1.Hubs.map S_api_Hub.enc), nro v53 NC_api_Route_82 r50.1.Routes, row v59 1 (r57.map eStr), box b63 [v62, .int .i64 r60.E], row v62 1 (r60.L.map (eInt .i64)), box b69 [v67, v68, .int .i64 r65.E], row v67 3 (r65.M.Hubs.map S_api_Hub.enc), nro v68 NC_api_Route_82 r65.M.Routes, row v74 1 (r72.map eStr)]
    refine run_seq ?_
    refine run_seq ?_
    refine run_region' ?_
    refine oy rfl rfl (y_move rfl) ?_
    refine oy rfl rfl (y_move rfl) ?_
    refine oy rfl rfl ((y_len 7 rfl Try.runUnderlying26 rfl rfl reads_row).to (v_len eStr _)) ?_
    refine oy rfl rfl (y_lss rfl rfl) ?_
    refine ops_nil ?_
    refine goes_code ?_
    refine run_cond (decide (i_80 < (r57.length : Int))) rfl (fun hc85 => ?_) (fun hc85 => ?_)
    ·replace h := cond_t h hc85
     refine run_skip ?_
     refine goes_code ?_
     refine run_seq ?_
     refine run_block ?_
     refine run_seq ?_
     refine run_draw (by kernel_rfl) (by kernel_rfl) ?_
     refine sy rfl rfl (y_move rfl) ?_
     refine sy rfl rfl (y_move rfl) ?_
     obtain ⟨x86, hzx86, hlx86, hxx86, h⟩ := idx_some h
     refine sy rfl rfl (y_indexAddrI (kd := .i64) (i := i_80) 7 Try.runUnderlying26 Try.sizeOf9 rfl rfl rfl reads_row hzx86 (map_lt hlx86)) ?_
     refine sy rfl rfl (y_load_elem (i := i_80.toNat) 7 Try.isAgg9 rfl rfl reads_row (map_get hxx86)) ?_
     refine sy rfl rfl (y_move rfl) ?_
     refine sy rfl rfl (y_move rfl) ?_
     obtain ⟨x87, hzx87, hlx87, hxx87, h⟩ := idx_some h
     refine sy rfl rfl (y_indexAddrI (kd := .i64) (i := i_80) 13 Try.runUnderlying26 Try.sizeOf9 rfl rfl rfl reads_row hzx87 (map_lt hlx87)) ?_
     refine sy rfl rfl (y_load_elem (i := i_80.toNat) 13 Try.isAgg9 rfl rfl reads_row (map_get hxx87)) ?_
     refine sy rfl rfl (y_sneq rfl rfl) ?_
     refine still_nil ?_
     refine goes_code ?_
     refine run_cond (!decide (x86 = x87)) rfl (fun hc88 => ?_) (fun hc88 => ?_)
     ·replace h := cond_t h hc88
      refine run_seq ?_
      refine run_weak [] [] [] vnil (by decide) rfl ?_
      refine run_region' ?_
      refine oy rfl rfl (y_assign rfl) ?_
      refine ops_nil ?_
      refine goes_code ?_
      refine run_ret ?_
      obtain rfl := some_eq h
      obtain rfl := hstop83 _ rfl
      skip
      obtain rfl := after_stop ho77
      refine fin_slots [10] [.bool false] [] [] Try.results3 rfl (by decide) rfl ?_
      exact ⟨rfl, rfl⟩
     ·replace h := cond_f h hc88
      refine run_skip ?_
      refine goes_blk ?_
      refine goes_code ?_
      refine run_weak [(5, boxP b1 0), (15, v49), (16, .int .i64 r47.2), (17, boxP b54 0), (18, .int .i64 r50.2), (19, v59), (20, boxP b63 0), (21, boxP b69 0), (22, v74), (23, .int .i64 i_80)] [0, 1, 2, 3, 4, 5, 6, 7, 8, 9, 10, 11, 12, 13] [box b1 [a_0_Hubsv, a_0_Routesv], ro a_0_Hubsv 3 (a_0.Hubs.map S_api_Hub.enc), nro a_0_Routesv NC_api_Route_82 a_0.Routes, row v49 1 (r47.1.map (eInt .i64)), box b54 [v52, v53], row v52 3 (r50.1.Hubs.map S_api_Hub.enc), nro v53 NC_api_Route_82 r50.1.Routes, row v59 1 (r57.map eStr), box b63 [v62, .int .i64 r60.E], row v62 1 (r60.L.map (eInt .i64)), box b69 [v67, v68, .int .i64 r65.E], row v67 3 (r65.M.Hubs.map S_api_Hub.enc), nro v68 NC_api_Route_82 r65.M.Routes, row v74 1 (r72.map eStr)] (vcons rfl (vcons rfl (vcons rfl (vcons rfl (vcons rfl (vcons rfl (vcons rfl (vcons rfl (vcons rfl (vcons rfl (vnil))))))))))) (by decide) rfl ?_
      refine run_region' ?_
      refine oy rfl rfl (y_move rfl) ?_
      refine oy rfl rfl (y_add rfl rfl) ?_
      refine oy rfl rfl (y_assign rfl) ?_
      refine ops_nil ?_
      obtain rfl := some_eq h
      exact goes_iter hgo82 (IntKind.i64.wrap (i_80 + 1)) () [0, 1, 2, 3, 4, 5, 6, 7, 8, 9, 10, 11, 12, 13] rfl (vcons rfl (vcons rfl (vcons rfl (vcons rfl (vcons rfl (vcons rfl (vcons rfl (vcons rfl (vcons rfl (vcons rfl (vnil))))))))))) (by decide) rfl
    ·replace h := cond_f h hc85
     refine run_exit _ rfl ?_
     obtain rfl := some_eq h
     obtain rfl := hstop83 _ rfl
     exact goes_cut hL78 ((), ()) [0, 1, 2, 3, 4, 5, 6, 8, 9, 10, 11, 12] (vcons rfl (vcons rfl (vcons rfl (vcons rfl (vcons rfl (vcons rfl (vcons rfl (vnil)))))))) (by decide) rfl rfl
   rintro ⟨_, _⟩ hj
   obtain rfl : o76 = _ := hj
   replace h := after_go ho77
   clear ho77
   change Run _ _ _ (VF.of [(5, boxP b1 0), (15, v49), (16, .int .i64 r47.2), (17, boxP b54 0), (18, .int .i64 r50.2), (20, boxP b63 0), (21, boxP b69 0)]) [box b1 [a_0_Hubsv, a_0_Routesv], ro a_0_Hubsv 3 (a_0.Hubs.map S_api_Hub.enc), nro a_0_Routesv NC_api_Route_82 a_0.Routes, row v49 1 (r47.1.map (eInt .i64)), box b54 [v52, v53], row v52 3 (r50.1.Hubs.map S_api_Hub.enc), nro v53 NC_api_Route_82 r50.1.Routes, box b63 [v62, .int .i64 r60.E], row v62 1 (r60.L.map (eInt .i64)), box b69 [v67, v68, .int .i64 r65.E], row v67 3 (r65.M.Hubs.map S_api_Hub.enc), nro v68 NC_api_Route_82 r65.M.Routes]
   refine run_seq ?_
   refine run_drawany [box b1 [a_0_Hubsv, a_0_Routesv], ro a_0_Hubsv 3 (a_0.Hubs.map S_api_Hub.enc), nro a_0_Routesv NC_api_Route_82 a_0.Routes, row v49 1 (r47.1.map (eInt .i64)), box b54 [v52, v53], row v52 3 (r50.1.Hubs.map S_api_Hub.enc), nro v53 NC_api_Route_82 r50.1.Routes, box b63 [v62, .int .i64 r60.E], row v62 1 (r60.L.map (eInt .i64)), box b69 [v67, v68, .int .i64 r65.E], row v67 3 (r65.M.Hubs.map S_api_Hub.enc), nro v68 NC_api_Route_82 r65.M.Routes] (by kernel_rfl) ?_
   refine any_all [0] (by kernel_rfl) rfl (anyo_cons ?_ anyo_nil)
   obtain ⟨r89, hr90, h⟩ := obind_some h
   refine any_t rfl (wn rfl) rfl (t_callx (vs := []) (cs := []) [] rfl Try.call8 rfl (law42_sanity_ok n   hr90) showsX_nil rfl (.inl rfl)) ?_
   rintro _ _ ⟨_, ⟨rfl, rfl⟩, rfl⟩
   refine ⟨(ss (ss (ss (ss (ss (ss (ss (ss (ss (ss (ss (ss (sn))))))))))))), ?_⟩
   refine any_y 1 rfl (by kernel_rfl) (by kernel_rfl) (by kernel_rfl) (ss (ss (ss (ss (ss (ss (ss (ss (ss (ss (ss (ss (sn))))))))))))) (wn rfl) rfl (y_move rfl) ?_
   obtain ⟨o92, h, ho93⟩ := bindJ_some h
   refine any_cut #[true, true, true, true, true, true, true, true, false, false, false, false, false, false, false, false, false, false, false, false, false, false, false, false, false, false, false, false, false, false, false, false, false] 25 Bool (fun σ => [(15, v49), (16, .int .i64 r47.2), (17, boxP b54 0), (18, .int .i64 r50.2), (20, boxP b63 0), (21, boxP b69 0), (124, .bool σ)]) (fun σ => [box b1 [a_0_Hubsv, a_0_Routesv], ro a_0_Hubsv 3 (a_0.Hubs.map S_api_Hub.enc), nro a_0_Routesv NC_api_Route_82 a_0.Routes, row v49 1 (r47.1.map (eInt .i64)), box b54 [v52, v53], row v52 3 (r50.1.Hubs.map S_api_Hub.enc), nro v53 NC_api_Route_82 r50.1.Routes, box b63 [v62, .int .i64 r60.E], row v62 1 (r60.L.map (eInt .i64)), box b69 [v67, v68, .int .i64 r65.E], row v67 3 (r65.M.Hubs.map S_api_Hub.enc), nro v68 NC_api_Route_82 r65.M.Routes]) (fun σ => o92 = .go σ) (fun hL95 => ?_) ?_
   ·refine any_split 118 r89 rfl (fun hg96 => ?_) (fun hg96 => ?_)
    ·replace h := cond_t h hg96
     refine any_y 2 rfl (by kernel_rfl) (by kernel_rfl) (by kernel_rfl) (ss (ss (ss (ss (ss (ss (ss (ss (ss (ss (ss (ss (sn))))))))))))) (wg 1 true 118 rfl rfl rfl rfl) rfl (y_load_boxagg (c := [a_0_Hubsv, a_0_Routesv]) 0 Try.isAgg25 Try.sizeOf25 rfl rfl rfl) ?_
     refine any_y 4 rfl (by kernel_rfl) (by kernel_rfl) (by kernel_rfl) (ss (ss (ss (ss (ss (ss (ss (ss (ss (ss (ss (ss (sn))))))))))))) (wg 1 true 118 rfl rfl rfl rfl) rfl (y_load_boxagg (c := [a_0_Hubsv, a_0_Routesv]) 0 Try.isAgg25 Try.sizeOf25 rfl rfl rfl) ?_
     refine any_all [3] (by kernel_rfl) rfl (anyo_cons ?_ anyo_nil)
     obtain ⟨r97, hr98, h⟩ := obind_some h
     refine any_t rfl (wg 1 true 118 rfl rfl rfl rfl) rfl (t_callx (vs := [.agg #[a_0_Hubsv, a_0_Routesv]]) (cs := []) [(1, 0), (2, 0)] rfl Try.call17 rfl (topo_ValidMap_ok n a_0 a_0_Hubsv a_0_Routesv hr98) (showsX_view 1 rfl views_ro (showsX_view 2 rfl views_nro showsX_nil)) rfl (.inl rfl)) ?_
     rintro _ _ ⟨_, ⟨rfl, rfl⟩, rfl⟩
     refine ⟨(ss (ss (ss (ss (ss (ss (ss (ss (ss (ss (ss (ss (sn))))))))))))), ?_⟩
     refine any_all [5] (by kernel_rfl) rfl (anyo_cons ?_ anyo_nil)
     obtain ⟨r99, hr100, h⟩ := obind_some h
     refine any_t rfl (wg 1 true 118 rfl rfl rfl rfl) rfl (t_callx (vs := [.agg #[a_0_Hubsv, a_0_Routesv]]) (cs := []) [(1, 0), (2, 0)] rfl Try.call18 rfl (ref42_ValidMap_ok n a_0 a_0_Hubsv a_0_Routesv hr100) (showsX_view 1 rfl views_ro (showsX_view 2 rfl views_nro showsX_nil)) rfl (.inl rfl)) ?_
     rintro _ _ ⟨_, ⟨rfl, rfl⟩, rfl⟩
     refine ⟨(ss (ss (ss (ss (ss (ss (ss (ss (ss (ss (ss (ss (sn))))))))))))), ?_⟩
     refine any_y 6 rfl (by kernel_rfl) (by kernel_rfl) (by kernel_rfl) (ss (ss (ss (ss (ss (ss (ss (ss (ss (ss (ss (ss (sn))))))))))))) (wg 1 true 118 rfl rfl rfl rfl) rfl (y_beql Try.runUnderlying4 rfl rfl) ?_
     refine any_y 7 rfl (by kernel_rfl) (by kernel_rfl) (by kernel_rfl) (ss (ss (ss (ss (ss (ss (ss (ss (ss (ss (ss (ss (sn))))))))))))) (wn rfl) rfl (y_pick (b := true) rfl rfl) ?_
     obtain rfl := some_eq h
     exact any_weak [(15, v49), (16, .int .i64 r47.2), (17, boxP b54 0), (18, .int .i64 r50.2), (20, boxP b63 0), (21, boxP b69 0), (124, .bool (r97 == r99))] [0, 1, 2, 3, 4, 5, 6, 7, 8, 9, 10, 11] [box b1 [a_0_Hubsv, a_0_Routesv], ro a_0_Hubsv 3 (a_0.Hubs.map S_api_Hub.enc), nro a_0_Routesv NC_api_Route_82 a_0.Routes, row v49 1 (r47.1.map (eInt .i64)), box b54 [v52, v53], row v52 3 (r50.1.Hubs.map S_api_Hub.enc), nro v53 NC_api_Route_82 r50.1.Routes, box b63 [v62, .int .i64 r60.E], row v62 1 (r60.L.map (eInt .i64)), box b69 [v67, v68, .int .i64 r65.E], row v67 3 (r65.M.Hubs.map S_api_Hub.enc), nro v68 NC_api_Route_82 r65.M.Routes] (by kernel_rfl) (vcons rfl (vcons rfl (vcons rfl (vcons rfl (vcons rfl (vcons rfl (vcons rfl (vnil)))))))) (by decide) rfl (hL95 (r97 == r99) rfl)
    ·replace h := cond_f h hg96
     refine any_no 2 rfl (by kernel_rfl) (by kernel_rfl) (by kernel_rfl) (ss (ss (ss (ss (ss (ss (ss (ss (ss (ss (ss (ss (sn))))))))))))) 1 true 118 rfl rfl rfl rfl rfl ?_
     refine any_no 4 rfl (by kernel_rfl) (by kernel_rfl) (by kernel_rfl) (ss (ss (ss (ss (ss (ss (ss (ss (ss (ss (ss (ss (sn))))))))))))) 1 true 118 rfl rfl rfl rfl rfl ?_
     refine any_no 3 rfl (by kernel_rfl) (by kernel_rfl) (by kernel_rfl) (ss (ss (ss (ss (ss (ss (ss (ss (ss (ss (ss (ss (sn))))))))))))) 1 true 118 rfl rfl rfl rfl rfl ?_
     refine any_no 5 rfl (by kernel_rfl) (by kernel_rfl) (by kernel_rfl) (ss (ss (ss (ss (ss (ss (ss (ss (ss (ss (ss (ss (sn))))))))))))) 1 true 118 rfl rfl rfl rfl rfl ?_
     refine any_no 6 rfl (by kernel_rfl) (by kernel_rfl) (by kernel_rfl) (ss (ss (ss (ss (ss (ss (ss (ss (ss (ss (ss (ss (sn))))))))))))) 1 true 118 rfl rfl rfl rfl rfl ?_
     refine any_y 7 rfl (by kernel_rfl) (by kernel_rfl) (by kernel_rfl) (ss (ss (ss (ss (ss (ss (ss (ss (ss (ss (ss (ss (sn))))))))))))) (wn rfl) rfl (y_pick (b := false) rfl rfl) ?_
     obtain rfl := some_eq h
     exact any_weak [(15, v49), (16, .int .i64 r47.2), (17, boxP b54 0), (18, .int .i64 r50.2), (20, boxP b63 0), (21, boxP b69 0), (124, .bool false)] [0, 1, 2, 3, 4, 5, 6, 7, 8, 9, 10, 11] [box b1 [a_0_Hubsv, a_0_Routesv], ro a_0_Hubsv 3 (a_0.Hubs.map S_api_Hub.enc), nro a_0_Routesv NC_api_Route_82 a_0.Routes, row v49 1 (r47.1.map (eInt .i64)), box b54 [v52, v53], row v52 3 (r50.1.Hubs.map S_api_Hub.enc), nro v53 NC_api_Route_82 r50.1.Routes, box b63 [v62, .int .i64 r60.E], row v62 1 (r60.L.map (eInt .i64)), box b69 [v67, v68, .int .i64 r65.E], row v67 3 (r65.M.Hubs.map S_api_Hub.enc), nro v68 NC_api_Route_82 r65.M.Routes] (by kernel_rfl) (vcons rfl (vcons rfl (vcons rfl (vcons rfl (vcons rfl (vcons rfl (vcons rfl (vnil)))))))) (by decide) rfl (hL95 false rfl)
   rintro b91 hj
   obtain rfl : o92 = _ := hj
   replace h := after_go ho93
   clear ho93
   refine any_y 8 rfl (by kernel_rfl) (by kernel_rfl) (by kernel_rfl) (ss (ss (ss (ss (ss (ss (ss (ss (ss (ss (ss (ss (sn))))))))))))) (wn rfl) rfl (y_move rfl) ?_
   obtain ⟨o102, h, ho103⟩ := bindJ_some h
   refine any_cut #[true, true, true, true, true, true, true, true, true, true, true, true, true, true, false, false, false, false, false, false, false, false, false, false, false, false, false, false, false, false, false, false, false] 19 Bool (fun σ => [(16, .int .i64 r47.2), (17, boxP b54 0), (18, .int .i64 r50.2), (20, boxP b63 0), (21, boxP b69 0), (130, .bool σ)]) (fun σ => [box b1 [a_0_Hubsv, a_0_Routesv], ro a_0_Hubsv 3 (a_0.Hubs.map S_api_Hub.enc), nro a_0_Routesv NC_api_Route_82 a_0.Routes, row v49 1 (r47.1.map (eInt .i64)), box b54 [v52, v53], row v52 3 (r50.1.Hubs.map S_api_Hub.enc), nro v53 NC_api_Route_82 r50.1.Routes, box b63 [v62, .int .i64 r60.E], row v62 1 (r60.L.map (eInt .i64)), box b69 [v67, v68, .int .i64 r65.E], row v67 3 (r65.M.Hubs.map S_api_Hub.enc), nro v68 NC_api_Route_82 r65.M.Routes]) (fun σ => o102 = .go σ) (fun hL105 => ?_) ?_
   ·refine any_split 125 b91 rfl (fun hg106 => ?_) (fun hg106 => ?_)
    ·replace h := cond_t h hg106
     refine any_y 9 rfl (by kernel_rfl) (by kernel_rfl) (by kernel_rfl) (ss (ss (ss (ss (ss (ss (ss (ss (ss (ss (ss (ss (sn))))))))))))) (wg 8 true 125 rfl rfl rfl rfl) rfl (y_move rfl) ?_
     refine any_y 10 rfl (by kernel_rfl) (by kernel_rfl) (by kernel_rfl) (ss (ss (ss (ss (ss (ss (ss (ss (ss (ss (ss (ss (sn))))))))))))) (wg 8 true 125 rfl rfl rfl rfl) rfl (y_fieldAddr_box (sz := 0) Try.runUnderlying42 rfl Try.sizeOf35 rfl) ?_
     refine any_y 11 rfl (by kernel_rfl) (by kernel_rfl) (by kernel_rfl) (ss (ss (ss (ss (ss (ss (ss (ss (ss (ss (ss (ss (sn))))))))))))) (wg 8 true 125 rfl rfl rfl rfl) rfl (y_load_box 7 Try.isAgg35 rfl rfl rfl) ?_
     refine any_all [12] (by kernel_rfl) rfl (anyo_cons ?_ anyo_nil)
     obtain ⟨r107, hr108, h⟩ := obind_some h
     refine any_t rfl (wg 8 true 125 rfl rfl rfl rfl) rfl (t_callx (vs := [v49, v62]) (cs := []) [(3, 1), (8, 1)] rfl Try.call19 rfl (ref42_SameList_ok n r47.1 r60.L v49 v62 hr108) (showsX_look 3 rfl views_row (showsX_look 8 rfl views_row showsX_nil)) rfl (.inr (by rintro _ _ ⟨rfl, rfl⟩ g hg; first | (cases hg; done) | (simp only [List.mem_cons, List.not_mem_nil, or_false] at hg; first | (subst hg; first | exact strict_row | exact strict_box) | (rcases hg with rfl | rfl <;> first | exact strict_row | exact strict_box) | (rcases hg with rfl | rfl | rfl <;> first | exact strict_row | exact strict_box))))) ?_
     rintro _ _ ⟨_, ⟨rfl, rfl⟩, rfl⟩
     refine ⟨(ss (ss (ss (ss (ss (ss (ss (ss (ss (ss (ss (ss (sn))))))))))))), ?_⟩
     refine any_y 13 rfl (by kernel_rfl) (by kernel_rfl) (by kernel_rfl) (ss (ss (ss (ss (ss (ss (ss (ss (ss (ss (ss (ss (sn))))))))))))) (wn rfl) rfl (y_pick (b := true) rfl rfl) ?_
     obtain rfl := some_eq h
     exact any_weak [(16, .int .i64 r47.2), (17, boxP b54 0), (18, .int .i64 r50.2), (20, boxP b63 0), (21, boxP b69 0), (130, .bool r107)] [0, 1, 2, 3, 4, 5, 6, 7, 8, 9, 10, 11] [box b1 [a_0_Hubsv, a_0_Routesv], ro a_0_Hubsv 3 (a_0.Hubs.map S_api_Hub.enc), nro a_0_Routesv NC_api_Route_82 a_0.Routes, row v49 1 (r47.1.map (eInt .i64)), box b54 [v52, v53], row v52 3 (r50.1.Hubs.map S_api_Hub.enc), nro v53 NC_api_Route_82 r50.1.Routes, box b63 [v62, .int .i64 r60.E], row v62 1 (r60.L.map (eInt .i64)), box b69 [v67, v68, .int .i64 r65.E], row v67 3 (r65.M.Hubs.map S_api_Hub.enc), nro v68 NC_api_Route_82 r65.M.Routes] (by kernel_rfl) (vcons rfl (vcons rfl (vcons rfl (vcons rfl (vcons rfl (vcons rfl (vnil))))))) (by decide) rfl (hL105 r107 rfl)
    ·replace h := cond_f h hg106
     refine any_no 9 rfl (by kernel_rfl) (by kernel_rfl) (by kernel_rfl) (ss (ss (ss (ss (ss (ss (ss (ss (ss (ss (ss (ss (sn))))))))))))) 8 true 125 rfl rfl rfl rfl rfl ?_
     refine any_no 10 rfl (by kernel_rfl) (by kernel_rfl) (by kernel_rfl) (ss (ss (ss (ss (ss (ss (ss (ss (ss (ss (ss (ss (sn))))))))))))) 8 true 125 rfl rfl rfl rfl rfl ?_
     refine any_no 11 rfl (by kernel_rfl) (by kernel_rfl) (by kernel_rfl) (ss (ss (ss (ss (ss (ss (ss (ss (ss (ss (ss (ss (sn))))))))))))) 8 true 125 rfl rfl rfl rfl rfl ?_
     refine any_no 12 rfl (by kernel_rfl) (by kernel_rfl) (by kernel_rfl) (ss (ss (ss (ss (ss (ss (ss (ss (ss (ss (ss (ss (sn))))))))))))) 8 true 125 rfl rfl rfl rfl rfl ?_
     refine any_y 13 rfl (by kernel_rfl) (by kernel_rfl) (by kernel_rfl) (ss (ss (ss (ss (ss (ss (ss (ss (ss (ss (ss (ss (sn))))))))))))) (wn rfl) rfl (y_pick (b := false) rfl rfl) ?_
     obtain rfl := some_eq h
     exact any_weak [(16, .int .i64 r47.2), (17, boxP b54 0), (18, .int .i64 r50.2), (20, boxP b63 0), (21, boxP b69 0), (130, .bool false)] [0, 1, 2, 3, 4, 5, 6, 7, 8, 9, 10, 11] [box b1 [a_0_Hubsv, a_0_Routesv], ro a_0_Hubsv 3 (a_0.Hubs.map S_api_Hub.enc), nro a_0_Routesv NC_api_Route_82 a_0.Routes, row v49 1 (r47.1.map (eInt .i64)), box b54 [v52, v53], row v52 3 (r50.1.Hubs.map S_api_Hub.enc), nro v53 NC_api_Route_82 r50.1.Routes, box b63 [v62, .int .i64 r60.E], row v62 1 (r60.L.map (eInt .i64)), box b69 [v67, v68, .int .i64 r65.E], row v67 3 (r65.M.Hubs.map S_api_Hub.enc), nro v68 NC_api_Route_82 r65.M.Routes] (by kernel_rfl) (vcons rfl (vcons rfl (vcons rfl (vcons rfl (vcons rfl (vcons rfl (vnil))))))) (by decide) rfl (hL105 false rfl)
   rintro b101 hj
   obtain rfl : o102 = _ := hj
   replace h := after_go ho103
   clear ho103
   refine any_y 14 rfl (by kernel_rfl) (by kernel_rfl) (by kernel_rfl) (ss (ss (ss (ss (ss (ss (ss (ss (ss (ss (ss (ss (sn))))))))))))) (wn rfl) rfl (y_move rfl) ?_
   refine any_cut #[true, true, true, true, true, true, true, true, true, true, true, true, true, true, true, true, true, true, true, true, false, false, false, false, false, false, false, false, false, false, false, false, false] 13 Bool (fun σ => [(17, boxP b54 0), (18, .int .i64 r50.2), (21, boxP b69 0), (136, .bool σ)]) (fun σ => [box b1 [a_0_Hubsv, a_0_Routesv], ro a_0_Hubsv 3 (a_0.Hubs.map S_api_Hub.enc), nro a_0_Routesv NC_api_Route_82 a_0.Routes, row v49 1 (r47.1.map (eInt .i64)), box b54 [v52, v53], row v52 3 (r50.1.Hubs.map S_api_Hub.enc), nro v53 NC_api_Route_82 r50.1.Routes, box b63 [v62, .int .i64 r60.E], row v62 1 (r60.L.map (eInt .i64)), box b69 [v67, v68, .int .i64 r65.E], row v67 3 (r65.M.Hubs.map S_api_Hub.enc), nro v68 NC_api_Route_82 r65.M.Routes]) (fun σ => σ = (b101 && decide (r47.2 = r60.E))) (fun hL110 => ?_) ?_
   ·refine any_split 131 b101 rfl (fun hg111 => ?_) (fun hg111 => ?_)
    ·skip
     refine any_y 15 rfl (by kernel_rfl) (by kernel_rfl) (by kernel_rfl) (ss (ss (ss (ss (ss (ss (ss (ss (ss (ss (ss (ss (sn))))))))))))) (wg 14 true 131 rfl rfl rfl rfl) rfl (y_move rfl) ?_
     refine any_y 16 rfl (by kernel_rfl) (by kernel_rfl) (by kernel_rfl) (ss (ss (ss (ss (ss (ss (ss (ss (ss (ss (ss (ss (sn))))))))))))) (wg 14 true 131 rfl rfl rfl rfl) rfl (y_fieldAddr_box (sz := 0) Try.runUnderlying42 rfl Try.sizeOf29 rfl) ?_
     refine any_y 17 rfl (by kernel_rfl) (by kernel_rfl) (by kernel_rfl) (ss (ss (ss (ss (ss (ss (ss (ss (ss (ss (ss (ss (sn))))))))))))) (wg 14 true 131 rfl rfl rfl rfl) rfl (y_load_box 7 Try.isAgg29 rfl rfl rfl) ?_
     refine any_y 18 rfl (by kernel_rfl) (by kernel_rfl) (by kernel_rfl) (ss (ss (ss (ss (ss (ss (ss (ss (ss (ss (ss (ss (sn))))))))))))) (wg 14 true 131 rfl rfl rfl rfl) rfl (y_eql rfl rfl) ?_
     refine any_y 19 rfl (by kernel_rfl) (by kernel_rfl) (by kernel_rfl) (ss (ss (ss (ss (ss (ss (ss (ss (ss (ss (ss (ss (sn))))))))))))) (wn rfl) rfl (y_pick (b := true) rfl rfl) ?_
     exact any_weak [(17, boxP b54 0), (18, .int .i64 r50.2), (21, boxP b69 0), (136, .bool (decide (r47.2 = r60.E)))] [0, 1, 2, 3, 4, 5, 6, 7, 8, 9, 10, 11] [box b1 [a_0_Hubsv, a_0_Routesv], ro a_0_Hubsv 3 (a_0.Hubs.map S_api_Hub.enc), nro a_0_Routesv NC_api_Route_82 a_0.Routes, row v49 1 (r47.1.map (eInt .i64)), box b54 [v52, v53], row v52 3 (r50.1.Hubs.map S_api_Hub.enc), nro v53 NC_api_Route_82 r50.1.Routes, box b63 [v62, .int .i64 r60.E], row v62 1 (r60.L.map (eInt .i64)), box b69 [v67, v68, .int .i64 r65.E], row v67 3 (r65.M.Hubs.map S_api_Hub.enc), nro v68 NC_api_Route_82 r65.M.Routes] (by kernel_rfl) (vcons rfl (vcons rfl (vcons rfl (vcons rfl (vnil))))) (by decide) rfl (hL110 (decide (r47.2 = r60.E)) (by rw [hg111]; simp))
    ·skip
     refine any_no 15 rfl (by kernel_rfl) (by kernel_rfl) (by kernel_rfl) (ss (ss (ss (ss (ss (ss (ss (ss (ss (ss (ss (ss (sn))))))))))))) 14 true 131 rfl rfl rfl rfl rfl ?_
     refine any_no 16 rfl (by kernel_rfl) (by kernel_rfl) (by kernel_rfl) (ss (ss (ss (ss (ss (ss (ss (ss (ss (ss (ss (ss (sn))))))))))))) 14 true 131 rfl rfl rfl rfl rfl ?_
     refine any_no 17 rfl (by kernel_rfl) (by kernel_rfl) (by kernel_rfl) (ss (ss (ss (ss (ss (ss (ss (ss (ss (ss (ss (ss (sn))))))))))))) 14 true 131 rfl rfl rfl rfl rfl ?_
     refine any_no 18 rfl (by kernel_rfl) (by kernel_rfl) (by kernel_rfl) (ss (ss (ss (ss (ss (ss (ss (ss (ss (ss (ss (ss (sn))))))))))))) 14 true 131 rfl rfl rfl rfl rfl ?_
     refine any_y 19 rfl (by kernel_rfl) (by kernel_rfl) (by kernel_rfl) (ss (ss (ss (ss (ss (ss (ss (ss (ss (ss (ss (ss (sn))))))))))))) (wn rfl) rfl (y_pick (b := false) rfl rfl) ?_
     exact any_weak [(17, boxP b54 0), (18, .int .i64 r50.2), (21, boxP b69 0), (136, .bool false)] [0, 1, 2, 3, 4, 5, 6, 7, 8, 9, 10, 11] [box b1 [a_0_Hubsv, a_0_Routesv], ro a_0_Hubsv 3 (a_0.Hubs.map S_api_Hub.enc), nro a_0_Routesv NC_api_Route_82 a_0.Routes, row v49 1 (r47.1.map (eInt .i64)), box b54 [v52, v53], row v52 3 (r50.1.Hubs.map S_api_Hub.enc), nro v53 NC_api_Route_82 r50.1.Routes, box b63 [v62, .int .i64 r60.E], row v62 1 (r60.L.map (eInt .i64)), box b69 [v67, v68, .int .i64 r65.E], row v67 3 (r65.M.Hubs.map S_api_Hub.enc), nro v68 NC_api_Route_82 r65.M.Routes] (by kernel_rfl) (vcons rfl (vcons rfl (vcons rfl (vcons rfl (vnil))))) (by decide) rfl (hL110 false (by rw [hg111]; simp))
   rintro _ rfl
   refine any_y 20 rfl (by kernel_rfl) (by kernel_rfl) (by kernel_rfl) (ss (ss (ss (ss (ss (ss (ss (ss (ss (ss (ss (ss (sn))))))))))))) (wn rfl) rfl (y_move rfl) ?_
   obtain ⟨o113, h, ho114⟩ := bindJ_some h
   refine any_cut #[true, true, true, true, true, true, true, true, true, true, true, true, true, true, true, true, true, true, true, true, true, true, true, true, true, true, false, false, false, false, false, false, false] 7 Bool (fun σ => [(18, .int .i64 r50.2), (21, boxP b69 0), (142, .bool σ)]) (fun σ => [box b1 [a_0_Hubsv, a_0_Routesv], ro a_0_Hubsv 3 (a_0.Hubs.map S_api_Hub.enc), nro a_0_Routesv NC_api_Route_82 a_0.Routes, row v49 1 (r47.1.map (eInt .i64)), box b54 [v52, v53], row v52 3 (r50.1.Hubs.map S_api_Hub.enc), nro v53 NC_api_Route_82 r50.1.Routes, box b63 [v62, .int .i64 r60.E], row v62 1 (r60.L.map (eInt .i64)), box b69 [v67, v68, .int .i64 r65.E], row v67 3 (r65.M.Hubs.map S_api_Hub.enc), nro v68 NC_api_Route_82 r65.M.Routes]) (fun σ => o113 = .go σ) (fun hL116 => ?_) ?_
   ·refine any_split 137 (b101 && decide (r47.2 = r60.E)) rfl (fun hg117 => ?_) (fun hg117 => ?_)
    ·replace h := cond_t h hg117
     refine any_y 21 rfl (by kernel_rfl) (by kernel_rfl) (by kernel_rfl) (ss (ss (ss (ss (ss (ss (ss (ss (ss (ss (ss (ss (sn))))))))))))) (wg 20 true 137 rfl rfl rfl rfl) rfl (y_load_boxagg (c := [v52, v53]) 4 Try.isAgg25 Try.sizeOf25 rfl rfl rfl) ?_
     refine any_y 22 rfl (by kernel_rfl) (by kernel_rfl) (by kernel_rfl) (ss (ss (ss (ss (ss (ss (ss (ss (ss (ss (ss (ss (sn))))))))))))) (wg 20 true 137 rfl rfl rfl rfl) rfl (y_fieldAddr_box (sz := 1) Try.runUnderlying45 rfl Try.sizeOf25 rfl) ?_
     refine any_y 23 rfl (by kernel_rfl) (by kernel_rfl) (by kernel_rfl) (ss (ss (ss (ss (ss (ss (ss (ss (ss (ss (ss (ss (sn))))))))))))) (wg 20 true 137 rfl rfl rfl rfl) rfl (y_load_boxagg (c := [v67, v68]) 9 Try.isAgg25 Try.sizeOf25 rfl rfl rfl) ?_
     refine any_all [24] (by kernel_rfl) rfl (anyo_cons ?_ anyo_nil)
     obtain ⟨r118, hr119, h⟩ := obind_some h
     refine any_t rfl (wg 20 true 137 rfl rfl rfl rfl) rfl (t_callx (vs := [.agg #[v52, v53], .agg #[v67, v68]]) (cs := []) [(5, 1), (6, 0), (10, 1), (11, 0)] rfl Try.call20 rfl (ref42_SameMap_ok n r50.1 r65.M v52 v53 v67 v68 hr119) (showsX_look 5 rfl views_row (showsX_view 6 rfl views_nro (showsX_look 10 rfl views_row (showsX_view 11 rfl views_nro showsX_nil)))) rfl (.inr (by rintro _ _ ⟨rfl, rfl⟩ g hg; first | (cases hg; done) | (simp only [List.mem_cons, List.not_mem_nil, or_false] at hg; first | (subst hg; first | exact strict_row | exact strict_box) | (rcases hg with rfl | rfl <;> first | exact strict_row | exact strict_box) | (rcases hg with rfl | rfl | rfl <;> first | exact strict_row | exact strict_box))))) ?_
     rintro _ _ ⟨_, ⟨rfl, rfl⟩, rfl⟩
     refine ⟨(ss (ss (ss (ss (ss (ss (ss (ss (ss (ss (ss (ss (sn))))))))))))), ?_⟩
     refine any_y 25 rfl (by kernel_rfl) (by kernel_rfl) (by kernel_rfl) (ss (ss (ss (ss (ss (ss (ss (ss (ss (ss (ss (ss (sn))))))))))))) (wn rfl) rfl (y_pick (b := true) rfl rfl) ?_
     obtain rfl := some_eq h
     exact any_weak [(18, .int .i64 r50.2), (21, boxP b69 0), (142, .bool r118)] [0, 1, 2, 3, 4, 5, 6, 7, 8, 9, 10, 11] [box b1 [a_0_Hubsv, a_0_Routesv], ro a_0_Hubsv 3 (a_0.Hubs.map S_api_Hub.enc), nro a_0_Routesv NC_api_Route_82 a_0.Routes, row v49 1 (r47.1.map (eInt .i64)), box b54 [v52, v53], row v52 3 (r50.1.Hubs.map S_api_Hub.enc), nro v53 NC_api_Route_82 r50.1.Routes, box b63 [v62, .int .i64 r60.E], row v62 1 (r60.L.map (eInt .i64)), box b69 [v67, v68, .int .i64 r65.E], row v67 3 (r65.M.Hubs.map S_api_Hub.enc), nro v68 NC_api_Route_82 r65.M.Routes] (by kernel_rfl) (vcons rfl (vcons rfl (vcons rfl (vnil)))) (by decide) rfl (hL116 r118 rfl)
    ·replace h := cond_f h hg117
     refine any_no 21 rfl (by kernel_rfl) (by kernel_rfl) (by kernel_rfl) (ss (ss (ss (ss (ss (ss (ss (ss (ss (ss (ss (ss (sn))))))))))))) 20 true 137 rfl rfl rfl rfl rfl ?_
     refine any_no 22 rfl (by kernel_rfl) (by kernel_rfl) (by kernel_rfl) (ss (ss (ss (ss (ss (ss (ss (ss (ss (ss (ss (ss (sn))))))))))))) 20 true 137 rfl rfl rfl rfl rfl ?_
     refine any_no 23 rfl (by kernel_rfl) (by kernel_rfl) (by kernel_rfl) (ss (ss (ss (ss (ss (ss (ss (ss (ss (ss (ss (ss (sn))))))))))))) 20 true 137 rfl rfl rfl rfl rfl ?_
     refine any_no 24 rfl (by kernel_rfl) (by kernel_rfl) (by kernel_rfl) (ss (ss (ss (ss (ss (ss (ss (ss (ss (ss (ss (ss (sn))))))))))))) 20 true 137 rfl rfl rfl rfl rfl ?_
     refine any_y 25 rfl (by kernel_rfl) (by kernel_rfl) (by kernel_rfl) (ss (ss (ss (ss (ss (ss (ss (ss (ss (ss (ss (ss (sn))))))))))))) (wn rfl) rfl (y_pick (b := false) rfl rfl) ?_
     obtain rfl := some_eq h
     exact any_weak [(18, .int .i64 r50.2), (21, boxP b69 0), (142, .bool false)] [0, 1, 2, 3, 4, 5, 6, 7, 8, 9, 10, 11] [box b1 [a_0_Hubsv, a_0_Routesv], ro a_0_Hubsv 3 (a_0.Hubs.map S_api_Hub.enc), nro a_0_Routesv NC_api_Route_82 a_0.Routes, row v49 1 (r47.1.map (eInt .i64)), box b54 [v52, v53], row v52 3 (r50.1.Hubs.map S_api_Hub.enc), nro v53 NC_api_Route_82 r50.1.Routes, box b63 [v62, .int .i64 r60.E], row v62 1 (r60.L.map (eInt .i64)), box b69 [v67, v68, .int .i64 r65.E], row v67 3 (r65.M.Hubs.map S_api_Hub.enc), nro v68 NC_api_Route_82 r65.M.Routes] (by kernel_rfl) (vcons rfl (vcons rfl (vcons rfl (vnil)))) (by decide) rfl (hL116 false rfl)
   rintro b112 hj
   obtain rfl : o113 = _ := hj
   replace h := after_go ho114
   clear ho114
   refine any_y 26 rfl (by kernel_rfl) (by kernel_rfl) (by kernel_rfl) (ss (ss (ss (ss (ss (ss (ss (ss (ss (ss (ss (ss (sn))))))))))))) (wn rfl) rfl (y_move rfl) ?_
   refine any_cut #[true, true, true, true, true, true, true, true, true, true, true, true, true, true, true, true, true, true, true, true, true, true, true, true, true, true, true, true, true, true, true, true, false] 1 Bool (fun σ => [(148, .bool σ)]) (fun σ => [box b1 [a_0_Hubsv, a_0_Routesv], ro a_0_Hubsv 3 (a_0.Hubs.map S_api_Hub.enc), nro a_0_Routesv NC_api_Route_82 a_0.Routes, row v49 1 (r47.1.map (eInt .i64)), box b54 [v52, v53], row v52 3 (r50.1.Hubs.map S_api_Hub.enc), nro v53 NC_api_Route_82 r50.1.Routes, box b63 [v62, .int .i64 r60.E], row v62 1 (r60.L.map (eInt .i64)), box b69 [v67, v68, .int .i64 r65.E], row v67 3 (r65.M.Hubs.map S_api_Hub.enc), nro v68 NC_api_Route_82 r65.M.Routes]) (fun σ => σ = (b112 && decide (r50.2 = r65.E))) (fun hL121 => ?_) ?_
   ·refine any_split 143 b112 rfl (fun hg122 => ?_) (fun hg122 => ?_)
    ·skip
     refine any_y 27 rfl (by kernel_rfl) (by kernel_rfl) (by kernel_rfl) (ss (ss (ss (ss (ss (ss (ss (ss (ss (ss (ss (ss (sn))))))))))))) (wg 26 true 143 rfl rfl rfl rfl) rfl (y_move rfl) ?_
     refine any_y 28 rfl (by kernel_rfl) (by kernel_rfl) (by kernel_rfl) (ss (ss (ss (ss (ss (ss (ss (ss (ss (ss (ss (ss (sn))))))))))))) (wg 26 true 143 rfl rfl rfl rfl) rfl (y_fieldAddr_box (sz := 0) Try.runUnderlying45 rfl Try.sizeOf29 rfl) ?_
     refine any_y 29 rfl (by kernel_rfl) (by kernel_rfl) (by kernel_rfl) (ss (ss (ss (ss (ss (ss (ss (ss (ss (ss (ss (ss (sn))))))))))))) (wg 26 true 143 rfl rfl rfl rfl) rfl (y_load_box 9 Try.isAgg29 rfl rfl rfl) ?_
     refine any_y 30 rfl (by kernel_rfl) (by kernel_rfl) (by kernel_rfl) (ss (ss (ss (ss (ss (ss (ss (ss (ss (ss (ss (ss (sn))))))))))))) (wg 26 true 143 rfl rfl rfl rfl) rfl (y_eql rfl rfl) ?_
     refine any_y 31 rfl (by kernel_rfl) (by kernel_rfl) (by kernel_rfl) (ss (ss (ss (ss (ss (ss (ss (ss (ss (ss (ss (ss (sn))))))))))))) (wn rfl) rfl (y_pick (b := true) rfl rfl) ?_
     exact any_weak [(148, .bool (decide (r50.2 = r65.E)))] [0, 1, 2, 3, 4, 5, 6, 7, 8, 9, 10, 11] [box b1 [a_0_Hubsv, a_0_Routesv], ro a_0_Hubsv 3 (a_0.Hubs.map S_api_Hub.enc), nro a_0_Routesv NC_api_Route_82 a_0.Routes, row v49 1 (r47.1.map (eInt .i64)), box b54 [v52, v53], row v52 3 (r50.1.Hubs.map S_api_Hub.enc), nro v53 NC_api_Route_82 r50.1.Routes, box b63 [v62, .int .i64 r60.E], row v62 1 (r60.L.map (eInt .i64)), box b69 [v67, v68, .int .i64 r65.E], row v67 3 (r65.M.Hubs.map S_api_Hub.enc), nro v68 NC_api_Route_82 r65.M.Routes] (by kernel_rfl) (vcons rfl (vnil)) (by decide) rfl (hL121 (decide (r50.2 = r65.E)) (by rw [hg122]; simp))
    ·skip
     refine any_no 27 rfl (by kernel_rfl) (by kernel_rfl) (by kernel_rfl) (ss (ss (ss (ss (ss (ss (ss (ss (ss (ss (ss (ss (sn))))))))))))) 26 true 143 rfl rfl rfl rfl rfl ?_
     refine any_no 28 rfl (by kernel_rfl) (by kernel_rfl) (by kernel_rfl) (ss (ss (ss (ss (ss (ss (ss (ss (ss (ss (ss (ss (sn))))))))))))) 26 true 143 rfl rfl rfl rfl rfl ?_
     refine any_no 29 rfl (by kernel_rfl) (by kernel_rfl) (by kernel_rfl) (ss (ss (ss (ss (ss (ss (ss (ss (ss (ss (ss (ss (sn))))))))))))) 26 true 143 rfl rfl rfl rfl rfl ?_
     refine any_no 30 rfl (by kernel_rfl) (by kernel_rfl) (by kernel_rfl) (ss (ss (ss (ss (ss (ss (ss (ss (ss (ss (ss (ss (sn))))))))))))) 26 true 143 rfl rfl rfl rfl rfl ?_
     refine any_y 31 rfl (by kernel_rfl) (by kernel_rfl) (by kernel_rfl) (ss (ss (ss (ss (ss (ss (ss (ss (ss (ss (ss (ss (sn))))))))))))) (wn rfl) rfl (y_pick (b := false) rfl rfl) ?_
     exact any_weak [(148, .bool false)] [0, 1, 2, 3, 4, 5, 6, 7, 8, 9, 10, 11] [box b1 [a_0_Hubsv, a_0_Routesv], ro a_0_Hubsv 3 (a_0.Hubs.map S_api_Hub.enc), nro a_0_Routesv NC_api_Route_82 a_0.Routes, row v49 1 (r47.1.map (eInt .i64)), box b54 [v52, v53], row v52 3 (r50.1.Hubs.map S_api_Hub.enc), nro v53 NC_api_Route_82 r50.1.Routes, box b63 [v62, .int .i64 r60.E], row v62 1 (r60.L.map (eInt .i64)), box b69 [v67, v68, .int .i64 r65.E], row v67 3 (r65.M.Hubs.map S_api_Hub.enc), nro v68 NC_api_Route_82 r65.M.Routes] (by kernel_rfl) (vcons rfl (vnil)) (by decide) rfl (hL121 false (by rw [hg122]; simp))
   rintro _ rfl
   refine any_y 32 rfl (by kernel_rfl) (by kernel_rfl) (by kernel_rfl) (ss (ss (ss (ss (ss (ss (ss (ss (ss (ss (ss (ss (sn))))))))))))) (wn rfl) rfl (y_assign rfl) ?_
   refine any_nil (by kernel_rfl) ?_
   refine goes_code ?_
   refine run_ret ?_
   obtain rfl := some_eq h
   refine fin_slots [10] [.bool (b112 && decide (r50.2 = r65.E))] [] [] Try.results3 rfl (by decide) rfl ?_
   exact ⟨rfl, rfl⟩

end Go.Proofs.Ytigiikkenamneaa
