/-
  The law TopoEntriesAreUp, lifted.
-/
import Derived.Test.YtigiikkenamneaaG4a
namespace Go.Proofs.Ytigiikkenamneaa
open Go.Abs
set_option linter.unusedVariables false
set_option linter.unusedSimpArgs false
set_option maxRecDepth 20000
set_option maxHeartbeats 4000000


def law42_TopoEntriesAreUp_L1 (m_0 : S_api_Map) : (Int × (List Bool) × (List Int)) → Option (Lp (Int × (List Bool) × (List Int)) (Lp ((List Bool) × (List Int)) (Bool))) :=
 fun (i_25, x_26, x_27) =>
  cond (decide (i_25 < (m_0.Hubs.length : Int)))
   (idx m_0.Hubs i_25 fun x33 =>
   idx x_26 x33.Site fun x34 =>
   idx x_27 x33.Site fun x36 =>
   some (.go ((IntKind.i64.wrap (i_25 + 1)), (x_26.set ((x33.Site).toNat) x33.Up), (x_27.set ((x33.Site).toNat) x33.Parent))))
   (some (.stop (.go (x_26, x_27))))
def law42_TopoEntriesAreUp_L2 (x_19 : (List Bool)) (x_20 : (List Int)) (r70 : (List Int) × Int) : (Int × Int) → Option (Lp (Int × Int) (Lp (Int) (Bool))) :=
 fun (at_79, k_80) =>
  cond (decide (0 ≤ at_79))
   (bindJ (S := Int)
    (idx x_19 at_79 fun x91 =>
    cond x91
     (bindJ (S := Bool)
      (cond (decide ((r70.1.length : Int) ≤ k_80))
       (some (.go true))
       (idx r70.1 k_80 fun x99 =>
       some (.go (decide (x99 ≠ at_79)))))
     (fun b93 =>
      cond b93
       (some (.stop (.stop (.stop false))))
       (some (.go (IntKind.i64.wrap (k_80 + 1))))))
     (some (.go k_80)))
   (fun k_86 =>
    idx x_20 at_79 fun x101 =>
    some (.go (x101, k_86))))
   (some (.stop (.go k_80)))
def law42_TopoEntriesAreUp (n : Nat) (m_0 : S_api_Map) (country_1 : (List UInt8)) (n_2 : Int) : Option (Bool) :=
 obind (ref42_Few n m_0) fun r2 =>
 bindJ (S := Bool)
  (cond (!r2)
   (some (.go true))
   (obind (topo_ValidMap n m_0) fun r10 =>
   some (.go (!r10))))
 (fun b4 =>
  cond b4
   (obind (law42_sanity n) fun r13 =>
   some r13)
   (need (0 ≤ (64 : Int) ∧ (64 : Int) ≤ 4294967296) (
   need (0 ≤ (64 : Int) ∧ (64 : Int) ≤ 4294967296) (
   bindJ (S := (List Bool) × (List Int))
    (iter (law42_TopoEntriesAreUp_L1 m_0) n (0, (List.replicate (64 : Int).toNat (false : Bool)), (List.replicate (64 : Int).toNat (0 : Int))))
   (fun (x_19, x_20) =>
    obind (topo_Entry n m_0 country_1) fun r38 =>
    bindJ (S := Bool)
     (cond (decide (r38.2 = 0))
      (bindJ (S := Bool)
       (cond (decide (r38.1 < 0) || decide (64 ≤ r38.1))
        (some (.go true))
        (idx x_19 r38.1 fun x55 =>
        some (.go (!x55))))
      (fun b49 =>
       some (.go b49)))
      (some (.go false)))
    (fun b40 =>
     cond b40
      (some false)
      (obind (topo_Turn n m_0 n_2 false) fun r57 =>
      cond (decide (r57.2 ≠ 0))
       (obind (law42_sanity n) fun r65 =>
       some (r65 && decide (r57.2 = 5)))
       (obind (topo_Climb n m_0 n_2) fun r70 =>
       cond (decide (r70.2 ≠ 0))
        (some false)
        (bindJ (S := Int)
         (iter (law42_TopoEntriesAreUp_L2 x_19 x_20 r70) n (n_2, 0))
        (fun k_74 =>
         cond (decide (k_74 ≠ (r70.1.length : Int)))
          (some false)
          (obind (topo_Moved n m_0 r57.1 ([country_1] : List (List UInt8))) fun r104 =>
          cond ((decide (0 < (r104.length : Int)) && (decide (r38.2 ≠ 0) || decide (r38.1 ≠ n_2))) || ((decide ((r104.length : Int) = 0) && decide (r38.2 = 0)) && decide (r38.1 = n_2)))
           (some false)
           (idx x_19 n_2 fun x123 =>
           obind (topo_Turn n r57.1 n_2 x123) fun r124 =>
           obind (law42_sanity n) fun r138 =>
           bindJ (S := Bool)
            (cond (r138 && decide (r124.2 = 0))
             (obind (ref42_SameMap n r124.1 m_0) fun r149 =>
             some (.go r149))
             (some (.go false)))
           (fun b143 =>
            some b143)))))))))))))
theorem law42_TopoEntriesAreUp_ok (n : Nat) (m_0 : S_api_Map) (country_1 : (List UInt8)) (n_2 : Int) (m_0_Hubsv : Value) (m_0_Routesv : Value) {r : Bool} (h : law42_TopoEntriesAreUp n m_0 country_1 n_2 = some r) :
  Meets Try.prog 4 [.agg #[m_0_Hubsv, m_0_Routesv], .string (bs country_1), .int .i64 n_2] [ro m_0_Hubsv 3 (m_0.Hubs.map S_api_Hub.enc), nro m_0_Routesv NC_api_Route_82 m_0.Routes] (fun v G => v = .bool r ∧ G = []) := by
 refine fn_of_run Try.func4 rfl Try.ntmps4 rfl (fun w0 o0 => ?_)
 refine run_seq ?_
 refine run_region' ?_
 refine ot rfl rfl (t_box rfl) ?_
 rintro _ _ ⟨b1, rfl, rfl⟩
 refine oy rfl rfl (y_assign rfl) ?_
 refine ops_nil ?_
 refine goes_code ?_
 refine run_seq ?_
 refine run_seq ?_
 refine run_region' ?_
 refine oy rfl rfl (y_load_boxagg (c := [m_0_Hubsv, m_0_Routesv]) 2 Try.isAgg25 Try.sizeOf25 rfl rfl rfl) ?_
 obtain ⟨r2, hr3, h⟩ := obind_some h
 refine ot rfl rfl (t_callx (vs := [.agg #[m_0_Hubsv, m_0_Routesv]]) (cs := []) [(0, 0), (1, 0)] rfl Try.call7 rfl (ref42_Few_ok n m_0 m_0_Hubsv m_0_Routesv hr3) (showsX_view 0 rfl views_ro (showsX_view 1 rfl views_nro showsX_nil)) rfl (.inl rfl)) ?_
 rintro _ _ ⟨_, ⟨rfl, rfl⟩, rfl⟩
 refine oy rfl rfl (y_not rfl) ?_
 refine oy rfl rfl (y_move rfl) ?_
 obtain ⟨o5, h, ho6⟩ := bindJ_some h
 refine ops_cut 4 (Bool) (fun σ => [(1, .string (bs country_1)), (2, .int .i64 n_2), (3, boxP b1 0), (28, .bool σ)]) (fun σ => [ro m_0_Hubsv 3 (m_0.Hubs.map S_api_Hub.enc), nro m_0_Routesv NC_api_Route_82 m_0.Routes, box b1 [m_0_Hubsv, m_0_Routesv]]) (fun σ => o5 = .go σ) (fun L7 hL8 => ?_) ?_
 ·refine ops_split 24 (!r2) rfl (fun hg9 => ?_) (fun hg9 => ?_)
  ·replace h := cond_t h hg9
   refine ops_no 3 false 24 rfl rfl rfl rfl rfl ?_
   refine ops_no 3 false 24 rfl rfl rfl rfl rfl ?_
   refine ops_no 3 false 24 rfl rfl rfl rfl rfl ?_
   refine oy rfl rfl (y_pick (b := true) rfl rfl) ?_
   refine ops_nil ?_
   obtain rfl := some_eq h
   exact goes_cut hL8 true [0, 1, 2] (vcons rfl (vcons rfl (vcons rfl (vcons rfl (vnil))))) (by decide) rfl rfl
  ·replace h := cond_f h hg9
   refine ops_y (wg 3 false 24 rfl rfl rfl rfl) rfl (y_load_boxagg (c := [m_0_Hubsv, m_0_Routesv]) 2 Try.isAgg25 Try.sizeOf25 rfl rfl rfl) ?_
   obtain ⟨r10, hr11, h⟩ := obind_some h
   refine ops_t (wg 3 false 24 rfl rfl rfl rfl) rfl (t_callx (vs := [.agg #[m_0_Hubsv, m_0_Routesv]]) (cs := []) [(0, 0), (1, 0)] rfl Try.call17 rfl (topo_ValidMap_ok n m_0 m_0_Hubsv m_0_Routesv hr11) (showsX_view 0 rfl views_ro (showsX_view 1 rfl views_nro showsX_nil)) rfl (.inl rfl)) ?_
   rintro _ _ ⟨_, ⟨rfl, rfl⟩, rfl⟩
   refine ops_y (wg 3 false 24 rfl rfl rfl rfl) rfl (y_not rfl) ?_
   refine oy rfl rfl (y_pick (b := false) rfl rfl) ?_
   refine ops_nil ?_
   obtain rfl := some_eq h
   exact goes_cut hL8 (!r10) [0, 1, 2] (vcons rfl (vcons rfl (vcons rfl (vcons rfl (vnil))))) (by decide) rfl rfl
 rintro b4 hj
 obtain rfl : o5 = _ := hj
 replace h := after_go ho6
 clear ho6
 refine ops_nil ?_
 refine goes_code ?_
 refine run_cond b4 rfl (fun hc12 => ?_) (fun hc12 => ?_)
 ·replace h := cond_t h hc12
  refine run_seq ?_
  refine run_region' ?_
  obtain ⟨r13, hr14, h⟩ := obind_some h
  refine ot rfl rfl (t_callx (vs := []) (cs := []) [] rfl Try.call8 rfl (law42_sanity_ok n   hr14) showsX_nil rfl (.inl rfl)) ?_
  rintro _ _ ⟨_, ⟨rfl, rfl⟩, rfl⟩
  refine oy rfl rfl (y_assign rfl) ?_
  refine ops_nil ?_
  refine goes_code ?_
  refine run_ret ?_
  obtain rfl := some_eq h
  refine fin_slots [6] [.bool r13] [] [] Try.results4 rfl (by decide) rfl ?_
  exact ⟨rfl, rfl⟩
 ·replace h := cond_f h hc12
  refine run_skip ?_
  refine goes_code ?_
  refine run_seq ?_
  refine run_region' ?_
  obtain ⟨hm16, h⟩ := need_some h
  refine ot rfl rfl (t_makeSlice (es := 1) Try.runUnderlying50 Try.typeInfo4 rfl Try.zeroValue4 rfl (by decide) rfl rfl hm16.1 hm16.2 (by decide)) ?_
  rintro v15 _ rfl
  refine ops_turn (retell 3 (g := row v15 1 ((List.replicate (64 : Int).toNat (false : Bool)).map eBool)) rfl (congrArg (row _ _) (map_rep rfl))) ?_
  refine oy rfl rfl (y_assign rfl) ?_
  refine ops_nil ?_
  refine goes_code ?_
  refine run_seq ?_
  refine run_region' ?_
  obtain ⟨hm18, h⟩ := need_some h
  refine ot rfl rfl (t_makeSlice (es := 1) Try.runUnderlying35 Try.typeInfo3 rfl Try.zeroValue3 rfl (by decide) rfl rfl hm18.1 hm18.2 (by decide)) ?_
  rintro v17 _ rfl
  refine ops_turn (retell 4 (g := row v17 1 ((List.replicate (64 : Int).toNat (0 : Int)).map (eInt .i64))) rfl (congrArg (row _ _) (map_rep rfl))) ?_
  refine oy rfl rfl (y_assign rfl) ?_
  refine ops_nil ?_
  refine goes_code ?_
  obtain ⟨o21, h, ho22⟩ := bindJ_some h
  refine run_cut (((List Bool) × (List Int)) × (Unit)) (fun σ => [(1, .string (bs country_1)), (2, .int .i64 n_2), (3, boxP b1 0), (7, v15), (8, v17)]) (fun σ => [box b1 [m_0_Hubsv, m_0_Routesv], ro m_0_Hubsv 3 (m_0.Hubs.map S_api_Hub.enc), nro m_0_Routesv NC_api_Route_82 m_0.Routes, row v15 1 (σ.1.1.map eBool), row v17 1 (σ.1.2.map (eInt .i64))]) (fun σ => o21 = .go σ.1) (fun L24 hL23 => ?_) ?_
  ·
   refine run_seq ?_
   refine run_region' ?_
   refine oy rfl rfl (y_assign rfl) ?_
   refine ops_nil ?_
   refine goes_code ?_
   refine run_block ?_
   refine run_iter (step := law42_TopoEntriesAreUp_L1 m_0) (n := n) (s0 := (0, (List.replicate (64 : Int).toNat (false : Bool)), (List.replicate (64 : Int).toNat (0 : Int)))) h (G := Unit) () (fun σ γ => [(1, .string (bs country_1)), (2, .int .i64 n_2), (3, boxP b1 0), (7, v15), (8, v17), (9, .int .i64 σ.1)]) (fun σ γ => [box b1 [m_0_Hubsv, m_0_Routesv], ro m_0_Hubsv 3 (m_0.Hubs.map S_api_Hub.enc), nro m_0_Routesv NC_api_Route_82 m_0.Routes, row v15 1 (σ.2.1.map eBool), row v17 1 (σ.2.2.map (eInt .i64))]) [2, 0, 1, 3, 4] (vcons rfl (vcons rfl (vcons rfl (vcons rfl (vcons rfl (vcons rfl (vnil))))))) (by decide) rfl ?_
   rintro ⟨i_25, x_26, x_27⟩ _ o28 h L31 hgo29 hstop30
   change Run _ _ _ (VF.of [(1, .string (bs country_1)), (2, .int .i64 n_2), (3, boxP b1 0), (7, v15), (8, v17), (9, .int .i64 i_25)]) [box b1 [m_0_Hubsv, m_0_Routesv], ro m_0_Hubsv 3 (m_0.Hubs.map S_api_Hub.enc), nro m_0_Routesv NC_api_Route_82 m_0.Routes, row v15 1 (x_26.map eBool), row v17 1 (x_27.map (eInt .i64))]
   refine run_seq ?_
   refine run_seq ?_
   refine run_region' ?_
   refine oy rfl rfl (y_move rfl) ?_
   refine oy rfl rfl (y_fieldAddr_box (sz := 0) Try.runUnderlying25 rfl Try.sizeOf22 rfl) ?_
   refine oy rfl rfl (y_load_box 0 Try.isAgg22 rfl rfl rfl) ?_
   refine oy rfl rfl ((y_len 1 rfl Try.runUnderlying22 rfl rfl reads_ro).to (v_len S_api_Hub.enc _)) ?_
   refine oy rfl rfl (y_lss rfl rfl) ?_
   refine ops_nil ?_
   refine goes_code ?_
   refine run_cond (decide (i_25 < (m_0.Hubs.length : Int))) rfl (fun hc32 => ?_) (fun hc32 => ?_)
   ·replace h := cond_t h hc32
    refine run_skip ?_
    refine goes_code ?_
    refine run_seq ?_
    refine run_block ?_
    refine run_seq ?_
    refine run_drawany [box b1 [m_0_Hubsv, m_0_Routesv], ro m_0_Hubsv 3 (m_0.Hubs.map S_api_Hub.enc), nro m_0_Routesv NC_api_Route_82 m_0.Routes, HA.emp, row v17 1 (x_27.map (eInt .i64))] (by kernel_rfl) ?_
    refine any_y 0 rfl (by kernel_rfl) (by kernel_rfl) (by kernel_rfl) (ss (ss (ss (se (ss (sn)))))) (wn rfl) rfl (y_move rfl) ?_
    refine any_y 1 rfl (by kernel_rfl) (by kernel_rfl) (by kernel_rfl) (ss (ss (ss (se (ss (sn)))))) (wn rfl) rfl (y_fieldAddr_box (sz := 0) Try.runUnderlying25 rfl Try.sizeOf22 rfl) ?_
    refine any_y 2 rfl (by kernel_rfl) (by kernel_rfl) (by kernel_rfl) (ss (ss (ss (se (ss (sn)))))) (wn rfl) rfl (y_load_box 0 Try.isAgg22 rfl rfl rfl) ?_
    refine any_y 3 rfl (by kernel_rfl) (by kernel_rfl) (by kernel_rfl) (ss (ss (ss (se (ss (sn)))))) (wn rfl) rfl (y_move rfl) ?_
    obtain ⟨x33, hzx33, hlx33, hxx33, h⟩ := idx_some h
    refine any_y 4 rfl (by kernel_rfl) (by kernel_rfl) (by kernel_rfl) (ss (ss (ss (se (ss (sn)))))) (wn rfl) rfl (y_indexAddrI (kd := .i64) (i := i_25) 1 Try.runUnderlying22 Try.sizeOf52 rfl rfl rfl reads_ro hzx33 (map_lt hlx33)) ?_
    refine any_y 5 rfl (by kernel_rfl) (by kernel_rfl) (by kernel_rfl) (ss (ss (ss (se (ss (sn)))))) (wn rfl) rfl (y_fieldAddr_elem (sz := 0) Try.runUnderlying52 rfl Try.sizeOf3 rfl) ?_
    refine any_y 6 rfl (by kernel_rfl) (by kernel_rfl) (by kernel_rfl) (ss (ss (ss (se (ss (sn)))))) (wn rfl) rfl (y_load_field (i := i_25.toNat) (j := 0) 1 Try.isAgg3 rfl rfl reads_ro (map_get hxx33) rfl) ?_
    refine any_y 7 rfl (by kernel_rfl) (by kernel_rfl) (by kernel_rfl) (ss (ss (ss (se (ss (sn)))))) (wn rfl) rfl (y_fieldAddr_box (sz := 0) Try.runUnderlying25 rfl Try.sizeOf22 rfl) ?_
    refine any_y 8 rfl (by kernel_rfl) (by kernel_rfl) (by kernel_rfl) (ss (ss (ss (se (ss (sn)))))) (wn rfl) rfl (y_load_box 0 Try.isAgg22 rfl rfl rfl) ?_
    refine any_y 9 rfl (by kernel_rfl) (by kernel_rfl) (by kernel_rfl) (ss (ss (ss (se (ss (sn)))))) (wn rfl) rfl (y_move rfl) ?_
    refine any_y 10 rfl (by kernel_rfl) (by kernel_rfl) (by kernel_rfl) (ss (ss (ss (se (ss (sn)))))) (wn rfl) rfl (y_indexAddrI (kd := .i64) (i := i_25) 1 Try.runUnderlying22 Try.sizeOf52 rfl rfl rfl reads_ro hzx33 (map_lt hlx33)) ?_
    refine any_y 11 rfl (by kernel_rfl) (by kernel_rfl) (by kernel_rfl) (ss (ss (ss (se (ss (sn)))))) (wn rfl) rfl (y_fieldAddr_elem (sz := 0) Try.runUnderlying52 rfl Try.sizeOf4 rfl) ?_
    refine any_y 12 rfl (by kernel_rfl) (by kernel_rfl) (by kernel_rfl) (ss (ss (ss (se (ss (sn)))))) (wn rfl) rfl (y_load_field (i := i_25.toNat) (j := 2) 1 Try.isAgg4 rfl rfl reads_ro (map_get hxx33) rfl) ?_
    refine any_all [13] (by kernel_rfl) rfl (anyo_cons ?_ anyo_nil)
    obtain ⟨x34, hzx34, hlx34, hxx34, h⟩ := idx_some h
    refine any_ty rfl (wn rfl) rfl (y_indexAddrI (kd := .i64) (i := x33.Site) 3 Try.runUnderlying50 Try.sizeOf4 rfl rfl rfl reads_row hzx34 (map_lt hlx34)) ⟨(ss (ss (ss (se (ss (sn)))))), ?_⟩
    refine any_all [14] (by kernel_rfl) rfl (anyo_cons ?_ anyo_nil)
    refine any_t rfl (wn rfl) rfl (t_store_row (i := (x33.Site).toNat) (j := 0) (c := eBool x34) 3 Try.sizeOf4 rfl rfl rfl rfl (map_get hxx34) (by decide) (by simp [Value.cells, Value.oneCell', boxP])) ?_
    rintro _ _ ⟨rfl, rfl⟩
    refine ⟨(ss (ss (ss (se (ss (sn)))))), ?_⟩
    obtain hxx35 : ((x_26.set ((x33.Site).toNat) x33.Up) : List Bool)[(x33.Site).toNat]? = some x33.Up := set_at hlx34
    obtain hlx35 : (x33.Site).toNat < ((x_26.set ((x33.Site).toNat) x33.Up) : List Bool).length := set_lt hlx34
    obtain hzx35 : (0 : Int) ≤ x33.Site := id hzx34
    refine any_turn (retell 3 (g := row v15 1 ((x_26.set ((x33.Site).toNat) x33.Up).map eBool)) rfl (congrArg (row _ _) (map_set_at rfl))) ?_
    refine any_nil (by kernel_rfl) ?_
    refine goes_code ?_
    refine run_weak [(1, .string (bs country_1)), (2, .int .i64 n_2), (3, boxP b1 0), (7, v15), (8, v17), (9, .int .i64 i_25)] [0, 1, 2, 3, 4] [box b1 [m_0_Hubsv, m_0_Routesv], ro m_0_Hubsv 3 (m_0.Hubs.map S_api_Hub.enc), nro m_0_Routesv NC_api_Route_82 m_0.Routes, row v15 1 ((x_26.set ((x33.Site).toNat) x33.Up).map eBool), row v17 1 (x_27.map (eInt .i64))] (vcons rfl (vcons rfl (vcons rfl (vcons rfl (vcons rfl (vcons rfl (vnil))))))) (by decide) rfl ?_
    refine run_drawany [box b1 [m_0_Hubsv, m_0_Routesv], ro m_0_Hubsv 3 (m_0.Hubs.map S_api_Hub.enc), nro m_0_Routesv NC_api_Route_82 m_0.Routes, row v15 1 ((x_26.set ((x33.Site).toNat) x33.Up).map eBool), HA.emp] (by kernel_rfl) ?_
    refine any_y 0 rfl (by kernel_rfl) (by kernel_rfl) (by kernel_rfl) (ss (ss (ss (ss (se (sn)))))) (wn rfl) rfl (y_move rfl) ?_
    refine any_y 1 rfl (by kernel_rfl) (by kernel_rfl) (by kernel_rfl) (ss (ss (ss (ss (se (sn)))))) (wn rfl) rfl (y_fieldAddr_box (sz := 0) Try.runUnderlying25 rfl Try.sizeOf22 rfl) ?_
    refine any_y 2 rfl (by kernel_rfl) (by kernel_rfl) (by kernel_rfl) (ss (ss (ss (ss (se (sn)))))) (wn rfl) rfl (y_load_box 0 Try.isAgg22 rfl rfl rfl) ?_
    refine any_y 3 rfl (by kernel_rfl) (by kernel_rfl) (by kernel_rfl) (ss (ss (ss (ss (se (sn)))))) (wn rfl) rfl (y_move rfl) ?_
    refine any_y 4 rfl (by kernel_rfl) (by kernel_rfl) (by kernel_rfl) (ss (ss (ss (ss (se (sn)))))) (wn rfl) rfl (y_indexAddrI (kd := .i64) (i := i_25) 1 Try.runUnderlying22 Try.sizeOf52 rfl rfl rfl reads_ro hzx33 (map_lt hlx33)) ?_
    refine any_y 5 rfl (by kernel_rfl) (by kernel_rfl) (by kernel_rfl) (ss (ss (ss (ss (se (sn)))))) (wn rfl) rfl (y_fieldAddr_elem (sz := 0) Try.runUnderlying52 rfl Try.sizeOf3 rfl) ?_
    refine any_y 6 rfl (by kernel_rfl) (by kernel_rfl) (by kernel_rfl) (ss (ss (ss (ss (se (sn)))))) (wn rfl) rfl (y_load_field (i := i_25.toNat) (j := 0) 1 Try.isAgg3 rfl rfl reads_ro (map_get hxx33) rfl) ?_
    refine any_y 7 rfl (by kernel_rfl) (by kernel_rfl) (by kernel_rfl) (ss (ss (ss (ss (se (sn)))))) (wn rfl) rfl (y_fieldAddr_box (sz := 0) Try.runUnderlying25 rfl Try.sizeOf22 rfl) ?_
    refine any_y 8 rfl (by kernel_rfl) (by kernel_rfl) (by kernel_rfl) (ss (ss (ss (ss (se (sn)))))) (wn rfl) rfl (y_load_box 0 Try.isAgg22 rfl rfl rfl) ?_
    refine any_y 9 rfl (by kernel_rfl) (by kernel_rfl) (by kernel_rfl) (ss (ss (ss (ss (se (sn)))))) (wn rfl) rfl (y_move rfl) ?_
    refine any_y 10 rfl (by kernel_rfl) (by kernel_rfl) (by kernel_rfl) (ss (ss (ss (ss (se (sn)))))) (wn rfl) rfl (y_indexAddrI (kd := .i64) (i := i_25) 1 Try.runUnderlying22 Try.sizeOf52 rfl rfl rfl reads_ro hzx33 (map_lt hlx33)) ?_
    refine any_y 11 rfl (by kernel_rfl) (by kernel_rfl) (by kernel_rfl) (ss (ss (ss (ss (se (sn)))))) (wn rfl) rfl (y_fieldAddr_elem (sz := 0) Try.runUnderlying52 rfl Try.sizeOf3 rfl) ?_
    refine any_y 12 rfl (by kernel_rfl) (by kernel_rfl) (by kernel_rfl) (ss (ss (ss (ss (se (sn)))))) (wn rfl) rfl (y_load_field (i := i_25.toNat) (j := 1) 1 Try.isAgg3 rfl rfl reads_ro (map_get hxx33) rfl) ?_
    refine any_all [13] (by kernel_rfl) rfl (anyo_cons ?_ anyo_nil)
    obtain ⟨x36, hzx36, hlx36, hxx36, h⟩ := idx_some h
    refine any_ty rfl (wn rfl) rfl (y_indexAddrI (kd := .i64) (i := x33.Site) 4 Try.runUnderlying35 Try.sizeOf3 rfl rfl rfl reads_row hzx36 (map_lt hlx36)) ⟨(ss (ss (ss (ss (se (sn)))))), ?_⟩
    refine any_all [14] (by kernel_rfl) rfl (anyo_cons ?_ anyo_nil)
    refine any_t rfl (wn rfl) rfl (t_store_row (i := (x33.Site).toNat) (j := 0) (c := (eInt .i64) x36) 4 Try.sizeOf3 rfl rfl rfl rfl (map_get hxx36) (by decide) (by simp [Value.cells, Value.oneCell', boxP])) ?_
    rintro _ _ ⟨rfl, rfl⟩
    refine ⟨(ss (ss (ss (ss (se (sn)))))), ?_⟩
    obtain hxx37 : ((x_27.set ((x33.Site).toNat) x33.Parent) : List Int)[(x33.Site).toNat]? = some x33.Parent := set_at hlx36
    obtain hlx37 : (x33.Site).toNat < ((x_27.set ((x33.Site).toNat) x33.Parent) : List Int).length := set_lt hlx36
    obtain hzx37 : (0 : Int) ≤ x33.Site := id hzx36
    refine any_turn (retell 4 (g := row v17 1 ((x_27.set ((x33.Site).toNat) x33.Parent).map (eInt .i64))) rfl (congrArg (row _ _) (map_set_at rfl))) ?_
    refine any_nil (by kernel_rfl) ?_
    refine goes_blk ?_
    refine goes_code ?_
    refine run_weak [(1, .string (bs country_1)), (2, .int .i64 n_2), (3, boxP b1 0), (7, v15), (8, v17), (9, .int .i64 i_25)] [0, 1, 2, 3, 4] [box b1 [m_0_Hubsv, m_0_Routesv], ro m_0_Hubsv 3 (m_0.Hubs.map S_api_Hub.enc), nro m_0_Routesv NC_api_Route_82 m_0.Routes, row v15 1 ((x_26.set ((x33.Site).toNat) x33.Up).map eBool), row v17 1 ((x_27.set ((x33.Site).toNat) x33.Parent).map (eInt .i64))] (vcons rfl (vcons rfl (vcons rfl (vcons rfl (vcons rfl (vcons rfl (vnil))))))) (by decide) rfl ?_
    refine run_region' ?_
    refine oy rfl rfl (y_move rfl) ?_
    refine oy rfl rfl (y_add rfl rfl) ?_
    refine oy rfl rfl (y_assign rfl) ?_
    refine ops_nil ?_
    obtain rfl := some_eq h
    exact goes_iter hgo29 ((IntKind.i64.wrap (i_25 + 1)), (x_26.set ((x33.Site).toNat) x33.Up), (x_27.set ((x33.Site).toNat) x33.Parent)) () [0, 1, 2, 3, 4] rfl (vcons rfl (vcons rfl (vcons rfl (vcons rfl (vcons rfl (vcons rfl (vnil))))))) (by decide) rfl
   ·replace h := cond_f h hc32
    refine run_exit _ rfl ?_
    obtain rfl := some_eq h
    obtain rfl := hstop30 _ rfl
    exact goes_cut hL23 ((x_26, x_27), ()) [0, 1, 2, 3, 4] (vcons rfl (vcons rfl (vcons rfl (vcons rfl (vcons rfl (vnil)))))) (by decide) rfl rfl
  rintro ⟨⟨x_19, x_20⟩, _⟩ hj
  obtain rfl : o21 = _ := hj
  replace h := after_go ho22
  clear ho22
  change Run _ _ _ (VF.of [(1, .string (bs country_1)), (2, .int .i64 n_2), (3, boxP b1 0), (7, v15), (8, v17)]) [box b1 [m_0_Hubsv, m_0_Routesv], ro m_0_Hubsv 3 (m_0.Hubs.map S_api_Hub.enc), nro m_0_Routesv NC_api_Route_82 m_0.Routes, row v15 1 (x_19.map eBool), row v17 1 (x_20.map (eInt .i64))]
  refine run_seq ?_
  refine run_region' ?_
  refine oy rfl rfl (y_load_boxagg (c := [m_0_Hubsv, m_0_Routesv]) 0 Try.isAgg25 Try.sizeOf25 rfl rfl rfl) ?_
  refine oy rfl rfl (y_move rfl) ?_
  obtain ⟨r38, hr39, h⟩ := obind_some h
  refine ot rfl rfl (t_callx (vs := [.agg #[m_0_Hubsv, m_0_Routesv], .string (bs country_1)]) (cs := []) [(1, 0), (2, 0)] rfl Try.call9 rfl (topo_Entry_ok n m_0 country_1 m_0_Hubsv m_0_Routesv hr39) (showsX_view 1 rfl views_ro (showsX_view 2 rfl views_nro showsX_nil)) rfl (.inl rfl)) ?_
  rintro _ _ ⟨_, ⟨rfl, rfl⟩, rfl⟩
  refine oy rfl rfl (y_move rfl) ?_
  refine oy rfl rfl (y_extract rfl rfl) ?_
  refine oy rfl rfl (y_extract rfl rfl) ?_
  refine oy rfl rfl (y_assign rfl) ?_
  refine oy rfl rfl (y_assign rfl) ?_
  refine ops_nil ?_
  refine goes_code ?_
  refine run_seq ?_
  refine run_seq ?_
  refine run_weak [(1, .string (bs country_1)), (2, .int .i64 n_2), (3, boxP b1 0), (7, v15), (8, v17), (10, .int .i64 r38.1), (11, .int .i64 r38.2)] [0, 1, 2, 3, 4] [box b1 [m_0_Hubsv, m_0_Routesv], ro m_0_Hubsv 3 (m_0.Hubs.map S_api_Hub.enc), nro m_0_Routesv NC_api_Route_82 m_0.Routes, row v15 1 (x_19.map eBool), row v17 1 (x_20.map (eInt .i64))] (vcons rfl (vcons rfl (vcons rfl (vcons rfl (vcons rfl (vcons rfl (vcons rfl (vnil)))))))) (by decide) rfl ?_
  refine run_region' ?_
  refine oy rfl rfl (y_move rfl) ?_
  refine oy rfl rfl (y_eql rfl rfl) ?_
  refine oy rfl rfl (y_move rfl) ?_
  obtain ⟨o41, h, ho42⟩ := bindJ_some h
  refine ops_cut 14 (Bool) (fun σ => [(1, .string (bs country_1)), (2, .int .i64 n_2), (3, boxP b1 0), (7, v15), (8, v17), (10, .int .i64 r38.1), (11, .int .i64 r38.2), (89, .bool σ)]) (fun σ => [box b1 [m_0_Hubsv, m_0_Routesv], ro m_0_Hubsv 3 (m_0.Hubs.map S_api_Hub.enc), nro m_0_Routesv NC_api_Route_82 m_0.Routes, row v15 1 (x_19.map eBool), row v17 1 (x_20.map (eInt .i64))]) (fun σ => o41 = .go σ) (fun L43 hL44 => ?_) ?_
  ·refine ops_split 75 (decide (r38.2 = 0)) rfl (fun hg45 => ?_) (fun hg45 => ?_)
   ·replace h := cond_t h hg45
    refine ops_y (wg 2 true 75 rfl rfl rfl rfl) rfl (y_move rfl) ?_
    refine ops_y (wg 2 true 75 rfl rfl rfl rfl) rfl (y_lss rfl rfl) ?_
    refine ops_y (wg 2 true 75 rfl rfl rfl rfl) rfl (y_move rfl) ?_
    refine ops_cut 3 (Bool) (fun σ => [(1, .string (bs country_1)), (2, .int .i64 n_2), (3, boxP b1 0), (7, v15), (8, v17), (10, .int .i64 r38.1), (11, .int .i64 r38.2), (75, .bool true), (81, .bool σ)]) (fun σ => [box b1 [m_0_Hubsv, m_0_Routesv], ro m_0_Hubsv 3 (m_0.Hubs.map S_api_Hub.enc), nro m_0_Routesv NC_api_Route_82 m_0.Routes, row v15 1 (x_19.map eBool), row v17 1 (x_20.map (eInt .i64))]) (fun σ => σ = (decide (r38.1 < 0) || decide (64 ≤ r38.1))) (fun L46 hL47 => ?_) ?_
    ·refine ops_split 78 (decide (r38.1 < 0)) rfl (fun hg48 => ?_) (fun hg48 => ?_)
     ·skip
      refine ops_no 5 false 78 rfl rfl rfl rfl rfl ?_
      refine ops_no 5 false 78 rfl rfl rfl rfl rfl ?_
      refine ops_y (wg 2 true 75 rfl rfl rfl rfl) rfl (y_pick (b := true) rfl rfl) ?_
      refine ops_nil ?_
      exact goes_cut hL47 true [0, 1, 2, 3, 4] (vcons rfl (vcons rfl (vcons rfl (vcons rfl (vcons rfl (vcons rfl (vcons rfl (vcons rfl (vcons rfl (vnil)))))))))) (by decide) rfl (by rw [hg48]; simp)
     ·skip
      refine ops_y (wg 5 false 78 rfl rfl rfl rfl) rfl (y_move rfl) ?_
      refine ops_y (wg 5 false 78 rfl rfl rfl rfl) rfl (y_geq rfl rfl) ?_
      refine ops_y (wg 2 true 75 rfl rfl rfl rfl) rfl (y_pick (b := false) rfl rfl) ?_
      refine ops_nil ?_
      exact goes_cut hL47 (decide (64 ≤ r38.1)) [0, 1, 2, 3, 4] (vcons rfl (vcons rfl (vcons rfl (vcons rfl (vcons rfl (vcons rfl (vcons rfl (vcons rfl (vcons rfl (vnil)))))))))) (by decide) rfl (by rw [hg48]; simp)
    rintro _ rfl
    refine ops_y (wg 2 true 75 rfl rfl rfl rfl) rfl (y_move rfl) ?_
    obtain ⟨o50, h, ho51⟩ := bindJ_some h
    refine ops_cut 6 (Bool) (fun σ => [(1, .string (bs country_1)), (2, .int .i64 n_2), (3, boxP b1 0), (7, v15), (8, v17), (10, .int .i64 r38.1), (11, .int .i64 r38.2), (75, .bool true), (88, .bool σ)]) (fun σ => [box b1 [m_0_Hubsv, m_0_Routesv], ro m_0_Hubsv 3 (m_0.Hubs.map S_api_Hub.enc), nro m_0_Routesv NC_api_Route_82 m_0.Routes, row v15 1 (x_19.map eBool), row v17 1 (x_20.map (eInt .i64))]) (fun σ => o50 = .go σ) (fun L52 hL53 => ?_) ?_
    ·refine ops_split 82 (decide (r38.1 < 0) || decide (64 ≤ r38.1)) rfl (fun hg54 => ?_) (fun hg54 => ?_)
     ·replace h := cond_t h hg54
      refine ops_no 9 false 82 rfl rfl rfl rfl rfl ?_
      refine ops_no 9 false 82 rfl rfl rfl rfl rfl ?_
      refine ops_no 9 false 82 rfl rfl rfl rfl rfl ?_
      refine ops_no 9 false 82 rfl rfl rfl rfl rfl ?_
      refine ops_no 9 false 82 rfl rfl rfl rfl rfl ?_
      refine ops_y (wg 2 true 75 rfl rfl rfl rfl) rfl (y_pick (b := true) rfl rfl) ?_
      refine ops_nil ?_
      obtain rfl := some_eq h
      exact goes_cut hL53 true [0, 1, 2, 3, 4] (vcons rfl (vcons rfl (vcons rfl (vcons rfl (vcons rfl (vcons rfl (vcons rfl (vcons rfl (vcons rfl (vnil)))))))))) (by decide) rfl rfl
     ·replace h := cond_f h hg54
      refine ops_y (wg 9 false 82 rfl rfl rfl rfl) rfl (y_move rfl) ?_
      refine ops_y (wg 9 false 82 rfl rfl rfl rfl) rfl (y_move rfl) ?_
      obtain ⟨x55, hzx55, hlx55, hxx55, h⟩ := idx_some h
      refine ops_y (wg 9 false 82 rfl rfl rfl rfl) rfl (y_indexAddrI (kd := .i64) (i := r38.1) 3 Try.runUnderlying50 Try.sizeOf4 rfl rfl rfl reads_row hzx55 (map_lt hlx55)) ?_
      refine ops_y (wg 9 false 82 rfl rfl rfl rfl) rfl (y_load_elem (i := (r38.1).toNat) 3 Try.isAgg4 rfl rfl reads_row (map_get hxx55)) ?_
      refine ops_y (wg 9 false 82 rfl rfl rfl rfl) rfl (y_not rfl) ?_
      refine ops_y (wg 2 true 75 rfl rfl rfl rfl) rfl (y_pick (b := false) rfl rfl) ?_
      refine ops_nil ?_
      obtain rfl := some_eq h
      exact goes_cut hL53 (!x55) [0, 1, 2, 3, 4] (vcons rfl (vcons rfl (vcons rfl (vcons rfl (vcons rfl (vcons rfl (vcons rfl (vcons rfl (vcons rfl (vnil)))))))))) (by decide) rfl rfl
    rintro b49 hj
    obtain rfl : o50 = _ := hj
    replace h := after_go ho51
    clear ho51
    refine oy rfl rfl (y_pick (b := true) rfl rfl) ?_
    refine ops_nil ?_
    obtain rfl := some_eq h
    exact goes_cut hL44 b49 [0, 1, 2, 3, 4] (vcons rfl (vcons rfl (vcons rfl (vcons rfl (vcons rfl (vcons rfl (vcons rfl (vcons rfl (vnil))))))))) (by decide) rfl rfl
   ·replace h := cond_f h hg45
    refine ops_no 2 true 75 rfl rfl rfl rfl rfl ?_
    refine ops_no 2 true 75 rfl rfl rfl rfl rfl ?_
    refine ops_no 2 true 75 rfl rfl rfl rfl rfl ?_
    refine ops_un 5 false 78 rfl rfl rfl rfl rfl ?_
    refine ops_un 5 false 78 rfl rfl rfl rfl rfl ?_
    refine ops_no 2 true 75 rfl rfl rfl rfl rfl ?_
    refine ops_no 2 true 75 rfl rfl rfl rfl rfl ?_
    refine ops_un 9 false 82 rfl rfl rfl rfl rfl ?_
    refine ops_un 9 false 82 rfl rfl rfl rfl rfl ?_
    refine ops_un 9 false 82 rfl rfl rfl rfl rfl ?_
    refine ops_un 9 false 82 rfl rfl rfl rfl rfl ?_
    refine ops_un 9 false 82 rfl rfl rfl rfl rfl ?_
    refine ops_weak [(1, .string (bs country_1)), (2, .int .i64 n_2), (3, boxP b1 0), (7, v15), (8, v17), (10, .int .i64 r38.1), (11, .int .i64 r38.2), (75, .bool false), (82, undef), (87, undef)] [0, 1, 2, 3, 4] [box b1 [m_0_Hubsv, m_0_Routesv], ro m_0_Hubsv 3 (m_0.Hubs.map S_api_Hub.enc), nro m_0_Routesv NC_api_Route_82 m_0.Routes, row v15 1 (x_19.map eBool), row v17 1 (x_20.map (eInt .i64))] (vcons rfl (vcons rfl (vcons rfl (vcons rfl (vcons rfl (vcons rfl (vcons rfl (vcons rfl (vcons rfl (vcons rfl (vnil))))))))))) (by decide) rfl ?_
    refine ops_no 2 true 75 rfl rfl rfl rfl rfl ?_
    refine oy rfl rfl (y_pick (b := false) rfl rfl) ?_
    refine ops_nil ?_
    obtain rfl := some_eq h
    exact goes_cut hL44 false [0, 1, 2, 3, 4] (vcons rfl (vcons rfl (vcons rfl (vcons rfl (vcons rfl (vcons rfl (vcons rfl (vcons rfl (vnil))))))))) (by decide) rfl rfl
  rintro b40 hj
  obtain rfl : o41 = _ := hj
  replace h := after_go ho42
  clear ho42
  refine ops_nil ?_
  refine goes_code ?_
  refine run_cond b40 rfl (fun hc56 => ?_) (fun hc56 => ?_)
  ·replace h := cond_t h hc56
   refine run_seq ?_
   refine run_region' ?_
   refine oy rfl rfl (y_assign rfl) ?_
   refine ops_nil ?_
   refine goes_code ?_
   refine run_ret ?_
   obtain rfl := some_eq h
   refine fin_slots [6] [.bool false] [] [] Try.results4 rfl (by decide) rfl ?_
   exact ⟨rfl, rfl⟩
  ·replace h := cond_f h hc56
   refine run_skip ?_
   refine goes_code ?_
   refine run_seq ?_
   refine run_region' ?_
   refine oy rfl rfl (y_load_boxagg (c := [m_0_Hubsv, m_0_Routesv]) 0 Try.isAgg25 Try.sizeOf25 rfl rfl rfl) ?_
   refine oy rfl rfl (y_move rfl) ?_
   obtain ⟨r57, hr58, h⟩ := obind_some h
   refine ot rfl rfl (t_callx (vs := [.agg #[m_0_Hubsv, m_0_Routesv], .int .i64 n_2, .bool false]) (cs := []) [(1, 0), (2, 0)] rfl Try.call12 rfl (topo_Turn_ok n m_0 n_2 false m_0_Hubsv m_0_Routesv hr58) (showsX_view 1 rfl views_ro (showsX_view 2 rfl views_nro showsX_nil)) rfl (.inl rfl)) ?_
   rintro _ _ ⟨_, ⟨v59, v60, rfl, rfl⟩, rfl⟩
   refine oy rfl rfl (y_move rfl) ?_
   refine oy rfl rfl (y_extract rfl rfl) ?_
   refine oy rfl rfl (y_extract rfl rfl) ?_
   refine ot rfl rfl (t_alloc Try.zeroValue25) ?_
   rintro _ _ ⟨b61, rfl, rfl⟩
   refine ops_slc 5 rfl reads_row (fun hs62 hs62o => ?_)
   refine ops_slcN 6 rfl readsN_ro (fun hs63 hs63o => ?_)
   refine ot rfl rfl (t_store 7 Try.sizeOf25 rfl rfl rfl rfl (by simp [Value.cells, boxP]) (allL_cons hs62o (allL_cons hs63o (allL_nil)))) ?_
   rintro _ _ ⟨rfl, rfl⟩
   refine ops_turn (retell 7 (g := box b61 [v59, v60]) rfl rfl) ?_
   refine oy rfl rfl (y_assign rfl) ?_
   refine ops_nil ?_
   refine goes_code ?_
   refine run_seq ?_
   refine run_seq ?_
   refine run_weak [(1, .string (bs country_1)), (2, .int .i64 n_2), (3, boxP b1 0), (7, v15), (8, v17), (10, .int .i64 r38.1), (11, .int .i64 r38.2), (12, boxP b61 0), (13, .int .i64 r57.2)] [0, 1, 2, 3, 4, 5, 6, 7] [box b1 [m_0_Hubsv, m_0_Routesv], ro m_0_Hubsv 3 (m_0.Hubs.map S_api_Hub.enc), nro m_0_Routesv NC_api_Route_82 m_0.Routes, row v15 1 (x_19.map eBool), row v17 1 (x_20.map (eInt .i64)), row v59 3 (r57.1.Hubs.map S_api_Hub.enc), nro v60 NC_api_Route_82 r57.1.Routes, box b61 [v59, v60]] (vcons rfl (vcons rfl (vcons rfl (vcons rfl (vcons rfl (vcons rfl (vcons rfl (vcons rfl (vcons rfl (vnil)))))))))) (by decide) rfl ?_
   refine run_region' ?_
   refine oy rfl rfl (y_move rfl) ?_
   refine oy rfl rfl (y_neq rfl rfl) ?_
   refine ops_nil ?_
   refine goes_code ?_
   refine run_cond (decide (r57.2 ≠ 0)) rfl (fun hc64 => ?_) (fun hc64 => ?_)
   ·replace h := cond_t h hc64
    refine run_seq ?_
    refine run_region' ?_
    obtain ⟨r65, hr66, h⟩ := obind_some h
    refine ot rfl rfl (t_callx (vs := []) (cs := []) [] rfl Try.call8 rfl (law42_sanity_ok n   hr66) showsX_nil rfl (.inl rfl)) ?_
    rintro _ _ ⟨_, ⟨rfl, rfl⟩, rfl⟩
    refine oy rfl rfl (y_move rfl) ?_
    refine ops_cut 3 (Bool) (fun σ => [(102, .bool σ)]) (fun σ => []) (fun σ => σ = (r65 && decide (r57.2 = 5))) (fun L67 hL68 => ?_) ?_
    ·refine ops_split 99 r65 rfl (fun hg69 => ?_) (fun hg69 => ?_)
     ·skip
      refine ops_y (wg 1 true 99 rfl rfl rfl rfl) rfl (y_move rfl) ?_
      refine ops_y (wg 1 true 99 rfl rfl rfl rfl) rfl (y_eql rfl rfl) ?_
      refine oy rfl rfl (y_pick (b := true) rfl rfl) ?_
      refine ops_nil ?_
      exact goes_cut hL68 (decide (r57.2 = 5)) [] (vcons rfl (vnil)) (by decide) rfl (by rw [hg69]; simp)
     ·skip
      refine ops_no 1 true 99 rfl rfl rfl rfl rfl ?_
      refine ops_no 1 true 99 rfl rfl rfl rfl rfl ?_
      refine oy rfl rfl (y_pick (b := false) rfl rfl) ?_
      refine ops_nil ?_
      exact goes_cut hL68 false [] (vcons rfl (vnil)) (by decide) rfl (by rw [hg69]; simp)
    rintro _ rfl
    refine oy rfl rfl (y_assign rfl) ?_
    refine ops_nil ?_
    refine goes_code ?_
    refine run_ret ?_
    obtain rfl := some_eq h
    refine fin_slots [6] [.bool (r65 && decide (r57.2 = 5))] [] [] Try.results4 rfl (by decide) rfl ?_
    exact ⟨rfl, rfl⟩
   ·replace h := cond_f h hc64
    refine run_skip ?_
    refine goes_code ?_
    refine run_seq ?_
    refine run_region' ?_
    refine oy rfl rfl (y_load_boxagg (c := [m_0_Hubsv, m_0_Routesv]) 0 Try.isAgg25 Try.sizeOf25 rfl rfl rfl) ?_
    refine oy rfl rfl (y_move rfl) ?_
    obtain ⟨r70, hr71, h⟩ := obind_some h
    refine ot rfl rfl (t_callx (vs := [.agg #[m_0_Hubsv, m_0_Routesv], .int .i64 n_2]) (cs := []) [(1, 0), (2, 0)] rfl Try.call11 rfl (topo_Climb_ok n m_0 n_2 m_0_Hubsv m_0_Routesv hr71) (showsX_view 1 rfl views_ro (showsX_view 2 rfl views_nro showsX_nil)) rfl (.inl rfl)) ?_
    rintro _ _ ⟨_, ⟨v72, rfl, rfl⟩, rfl⟩
    refine oy rfl rfl (y_move rfl) ?_
    refine oy rfl rfl (y_extract rfl rfl) ?_
    refine oy rfl rfl (y_extract rfl rfl) ?_
    refine oy rfl rfl (y_assign rfl) ?_
    refine oy rfl rfl (y_assign rfl) ?_
    refine ops_nil ?_
    refine goes_code ?_
    refine run_seq ?_
    refine run_seq ?_
    refine run_weak [(1, .string (bs country_1)), (2, .int .i64 n_2), (3, boxP b1 0), (7, v15), (8, v17), (10, .int .i64 r38.1), (11, .int .i64 r38.2), (12, boxP b61 0), (14, v72), (15, .int .i64 r70.2)] [0, 1, 2, 3, 4, 5, 6, 7, 8] [box b1 [m_0_Hubsv, m_0_Routesv], ro m_0_Hubsv 3 (m_0.Hubs.map S_api_Hub.enc), nro m_0_Routesv NC_api_Route_82 m_0.Routes, row v15 1 (x_19.map eBool), row v17 1 (x_20.map (eInt .i64)), row v59 3 (r57.1.Hubs.map S_api_Hub.enc), nro v60 NC_api_Route_82 r57.1.Routes, box b61 [v59, v60], row v72 1 (r70.1.map (eInt .i64))] (vcons rfl (vcons rfl (vcons rfl (vcons rfl (vcons rfl (vcons rfl (vcons rfl (vcons rfl (vcons rfl (vcons rfl (vnil))))))))))) (by decide) rfl ?_
    refine run_region' ?_
    refine oy rfl rfl (y_move rfl) ?_
    refine oy rfl rfl (y_neq rfl rfl) ?_
    refine ops_nil ?_
    refine goes_code ?_
    refine run_cond (decide (r70.2 ≠ 0)) rfl (fun hc73 => ?_) (fun hc73 => ?_)
    ·replace h := cond_t h hc73
     refine run_seq ?_
     refine run_region' ?_
     refine oy rfl rfl (y_assign rfl) ?_
     refine ops_nil ?_
     refine goes_code ?_
     refine run_ret ?_
     obtain rfl := some_eq h
     refine fin_slots [6] [.bool false] [] [] Try.results4 rfl (by decide) rfl ?_
     exact ⟨rfl, rfl⟩
    ·replace h := cond_f h hc73
     refine run_skip ?_
     refine goes_code ?_
     refine run_seq ?_
     refine run_region' ?_
     refine oy rfl rfl (y_move rfl) ?_
     refine oy rfl rfl (y_assign rfl) ?_
     refine ops_nil ?_
     refine goes_code ?_
     refine run_seq ?_
     refine run_region' ?_
     refine oy rfl rfl (y_assign rfl) ?_
     refine ops_nil ?_
     refine goes_code ?_
     obtain ⟨o75, h, ho76⟩ := bindJ_some h
     refine run_cut ((Int) × (Unit)) (fun σ => [(1, .string (bs country_1)), (2, .int .i64 n_2), (3, boxP b1 0), (7, v15), (10, .int .i64 r38.1), (11, .int .i64 r38.2), (12, boxP b61 0), (14, v72), (17, .int .i64 σ.1)]) (fun σ => [box b1 [m_0_Hubsv, m_0_Routesv], ro m_0_Hubsv 3 (m_0.Hubs.map S_api_Hub.enc), nro m_0_Routesv NC_api_Route_82 m_0.Routes, row v15 1 (x_19.map eBool), box b61 [v59, v60], row v59 3 (r57.1.Hubs.map S_api_Hub.enc), nro v60 NC_api_Route_82 r57.1.Routes, row v72 1 (r70.1.map (eInt .i64))]) (fun σ => o75 = .go σ.1) (fun L78 hL77 => ?_) ?_
     ·
      refine run_block ?_
      refine run_iter (step := law42_TopoEntriesAreUp_L2 x_19 x_20 r70) (n := n) (s0 := (n_2, 0)) h (G := Unit) () (fun σ γ => [(1, .string (bs country_1)), (2, .int .i64 n_2), (3, boxP b1 0), (7, v15), (8, v17), (10, .int .i64 r38.1), (11, .int .i64 r38.2), (12, boxP b61 0), (14, v72), (16, .int .i64 σ.1), (17, .int .i64 σ.2)]) (fun σ γ => [box b1 [m_0_Hubsv, m_0_Routesv], ro m_0_Hubsv 3 (m_0.Hubs.map S_api_Hub.enc), nro m_0_Routesv NC_api_Route_82 m_0.Routes, row v15 1 (x_19.map eBool), row v17 1 (x_20.map (eInt .i64)), box b61 [v59, v60], row v59 3 (r57.1.Hubs.map S_api_Hub.enc), nro v60 NC_api_Route_82 r57.1.Routes, row v72 1 (r70.1.map (eInt .i64))]) [0, 1, 2, 3, 4, 7, 5, 6, 8] (vcons rfl (vcons rfl (vcons rfl (vcons rfl (vcons rfl (vcons rfl (vcons rfl (vcons rfl (vcons rfl (vcons rfl (vcons rfl (vnil)))))))))))) (by decide) rfl ?_
      rintro ⟨at_79, k_80⟩ _ o81 h L84 hgo82 hstop83
      change Run _ _ _ (VF.of [(1, .string (bs country_1)), (2, .int .i64 n_2), (3, boxP b1 0), (7, v15), (8, v17), (10, .int .i64 r38.1), (11, .int .i64 r38.2), (12, boxP b61 0), (14, v72), (16, .int .i64 at_79), (17, .int .i64 k_80)]) [box b1 [m_0_Hubsv, m_0_Routesv], ro m_0_Hubsv 3 (m_0.Hubs.map S_api_Hub.enc), nro m_0_Routesv NC_api_Route_82 m_0.Routes, row v15 1 (x_19.map eBool), row v17 1 (x_20.map (eInt .i64)), box b61 [v59, v60], row v59 3 (r57.1.Hubs.map S_api_Hub.enc), nro v60 NC_api_Route_82 r57.1.Routes, row v72 1 (r70.1.map (eInt .i64))]
      refine run_seq ?_
      refine run_seq ?_
      refine run_region' ?_
      refine oy rfl rfl (y_move rfl) ?_
      refine oy rfl rfl (y_geq rfl rfl) ?_
      refine ops_nil ?_
      refine goes_code ?_
      refine run_cond (decide (0 ≤ at_79)) rfl (fun hc85 => ?_) (fun hc85 => ?_)
      ·replace h := cond_t h hc85
       refine run_skip ?_
       refine goes_code ?_
       refine run_block ?_
       obtain ⟨o87, h, ho88⟩ := bindJ_some h
       refine run_cut ((Int) × (Unit)) (fun σ => [(1, .string (bs country_1)), (2, .int .i64 n_2), (3, boxP b1 0), (7, v15), (8, v17), (10, .int .i64 r38.1), (11, .int .i64 r38.2), (12, boxP b61 0), (14, v72), (16, .int .i64 at_79), (17, .int .i64 σ.1)]) (fun σ => [box b1 [m_0_Hubsv, m_0_Routesv], ro m_0_Hubsv 3 (m_0.Hubs.map S_api_Hub.enc), nro m_0_Routesv NC_api_Route_82 m_0.Routes, row v15 1 (x_19.map eBool), row v17 1 (x_20.map (eInt .i64)), box b61 [v59, v60], row v59 3 (r57.1.Hubs.map S_api_Hub.enc), nro v60 NC_api_Route_82 r57.1.Routes, row v72 1 (r70.1.map (eInt .i64))]) (fun σ => o87 = .go σ.1) (fun L90 hL89 => ?_) ?_
       ·
        refine run_seq ?_
        refine run_region' ?_
        refine oy rfl rfl (y_move rfl) ?_
        refine oy rfl rfl (y_move rfl) ?_
        obtain ⟨x91, hzx91, hlx91, hxx91, h⟩ := idx_some h
        refine oy rfl rfl (y_indexAddrI (kd := .i64) (i := at_79) 3 Try.runUnderlying50 Try.sizeOf4 rfl rfl rfl reads_row hzx91 (map_lt hlx91)) ?_
        refine oy rfl rfl (y_load_elem (i := at_79.toNat) 3 Try.isAgg4 rfl rfl reads_row (map_get hxx91)) ?_
        refine ops_nil ?_
        refine goes_code ?_
        refine run_cond x91 rfl (fun hc92 => ?_) (fun hc92 => ?_)
        ·replace h := cond_t h hc92
         refine run_seq ?_
         refine run_seq ?_
         refine run_region' ?_
         refine oy rfl rfl (y_move rfl) ?_
         refine oy rfl rfl (y_move rfl) ?_
         refine oy rfl rfl ((y_len 8 rfl Try.runUnderlying35 rfl rfl reads_row).to (v_len (eInt .i64) _)) ?_
         refine oy rfl rfl (y_geq rfl rfl) ?_
         refine oy rfl rfl (y_move rfl) ?_
         obtain ⟨o94, h, ho95⟩ := bindJ_some h
         refine ops_cut 7 (Bool) (fun σ => [(1, .string (bs country_1)), (2, .int .i64 n_2), (3, boxP b1 0), (7, v15), (8, v17), (10, .int .i64 r38.1), (11, .int .i64 r38.2), (12, boxP b61 0), (14, v72), (16, .int .i64 at_79), (17, .int .i64 k_80), (129, .bool σ)]) (fun σ => [box b1 [m_0_Hubsv, m_0_Routesv], ro m_0_Hubsv 3 (m_0.Hubs.map S_api_Hub.enc), nro m_0_Routesv NC_api_Route_82 m_0.Routes, row v15 1 (x_19.map eBool), row v17 1 (x_20.map (eInt .i64)), box b61 [v59, v60], row v59 3 (r57.1.Hubs.map S_api_Hub.enc), nro v60 NC_api_Route_82 r57.1.Routes, row v72 1 (r70.1.map (eInt .i64))]) (fun σ => o94 = .go σ) (fun L96 hL97 => ?_) ?_
         ·refine ops_split 122 (decide ((r70.1.length : Int) ≤ k_80)) rfl (fun hg98 => ?_) (fun hg98 => ?_)
          ·replace h := cond_t h hg98
           refine ops_no 4 false 122 rfl rfl rfl rfl rfl ?_
           refine ops_no 4 false 122 rfl rfl rfl rfl rfl ?_
           refine ops_no 4 false 122 rfl rfl rfl rfl rfl ?_
           refine ops_no 4 false 122 rfl rfl rfl rfl rfl ?_
           refine ops_weak [(1, .string (bs country_1)), (2, .int .i64 n_2), (3, boxP b1 0), (7, v15), (8, v17), (10, .int .i64 r38.1), (11, .int .i64 r38.2), (12, boxP b61 0), (14, v72), (16, .int .i64 at_79), (17, .int .i64 k_80), (122, .bool true), (126, undef)] [0, 1, 2, 3, 4, 5, 6, 7, 8] [box b1 [m_0_Hubsv, m_0_Routesv], ro m_0_Hubsv 3 (m_0.Hubs.map S_api_Hub.enc), nro m_0_Routesv NC_api_Route_82 m_0.Routes, row v15 1 (x_19.map eBool), row v17 1 (x_20.map (eInt .i64)), box b61 [v59, v60], row v59 3 (r57.1.Hubs.map S_api_Hub.enc), nro v60 NC_api_Route_82 r57.1.Routes, row v72 1 (r70.1.map (eInt .i64))] (vcons rfl (vcons rfl (vcons rfl (vcons rfl (vcons rfl (vcons rfl (vcons rfl (vcons rfl (vcons rfl (vcons rfl (vcons rfl (vcons rfl (vcons rfl (vnil)))))))))))))) (by decide) rfl ?_
           refine ops_no 4 false 122 rfl rfl rfl rfl rfl ?_
           refine ops_no 4 false 122 rfl rfl rfl rfl rfl ?_
           refine oy rfl rfl (y_pick (b := true) rfl rfl) ?_
           refine ops_nil ?_
           obtain rfl := some_eq h
           exact goes_cut hL97 true [0, 1, 2, 3, 4, 5, 6, 7, 8] (vcons rfl (vcons rfl (vcons rfl (vcons rfl (vcons rfl (vcons rfl (vcons rfl (vcons rfl (vcons rfl (vcons rfl (vcons rfl (vcons rfl (vnil))))))))))))) (by decide) rfl rfl
          ·replace h := cond_f h hg98
           refine ops_y (wg 4 false 122 rfl rfl rfl rfl) rfl (y_move rfl) ?_
           refine ops_y (wg 4 false 122 rfl rfl rfl rfl) rfl (y_move rfl) ?_
           obtain ⟨x99, hzx99, hlx99, hxx99, h⟩ := idx_some h
           refine ops_y (wg 4 false 122 rfl rfl rfl rfl) rfl (y_indexAddrI (kd := .i64) (i := k_80) 8 Try.runUnderlying35 Try.sizeOf3 rfl rfl rfl reads_row hzx99 (map_lt hlx99)) ?_
           refine ops_y (wg 4 false 122 rfl rfl rfl rfl) rfl (y_load_elem (i := k_80.toNat) 8 Try.isAgg3 rfl rfl reads_row (map_get hxx99)) ?_
           refine ops_weak [(1, .string (bs country_1)), (2, .int .i64 n_2), (3, boxP b1 0), (7, v15), (8, v17), (10, .int .i64 r38.1), (11, .int .i64 r38.2), (12, boxP b61 0), (14, v72), (16, .int .i64 at_79), (17, .int .i64 k_80), (122, .bool false), (126, .int .i64 x99)] [0, 1, 2, 3, 4, 5, 6, 7, 8] [box b1 [m_0_Hubsv, m_0_Routesv], ro m_0_Hubsv 3 (m_0.Hubs.map S_api_Hub.enc), nro m_0_Routesv NC_api_Route_82 m_0.Routes, row v15 1 (x_19.map eBool), row v17 1 (x_20.map (eInt .i64)), box b61 [v59, v60], row v59 3 (r57.1.Hubs.map S_api_Hub.enc), nro v60 NC_api_Route_82 r57.1.Routes, row v72 1 (r70.1.map (eInt .i64))] (vcons rfl (vcons rfl (vcons rfl (vcons rfl (vcons rfl (vcons rfl (vcons rfl (vcons rfl (vcons rfl (vcons rfl (vcons rfl (vcons rfl (vcons rfl (vnil)))))))))))))) (by decide) rfl ?_
           refine ops_y (wg 4 false 122 rfl rfl rfl rfl) rfl (y_move rfl) ?_
           refine ops_y (wg 4 false 122 rfl rfl rfl rfl) rfl (y_neq rfl rfl) ?_
           refine oy rfl rfl (y_pick (b := false) rfl rfl) ?_
           refine ops_nil ?_
           obtain rfl := some_eq h
           exact goes_cut hL97 (decide (x99 ≠ at_79)) [0, 1, 2, 3, 4, 5, 6, 7, 8] (vcons rfl (vcons rfl (vcons rfl (vcons rfl (vcons rfl (vcons rfl (vcons rfl (vcons rfl (vcons rfl (vcons rfl (vcons rfl (vcons rfl (vnil))))))))))))) (by decide) rfl rfl
         rintro b93 hj
         obtain rfl : o94 = _ := hj
         replace h := after_go ho95
         clear ho95
         refine ops_nil ?_
         refine goes_code ?_
         refine run_cond b93 rfl (fun hc100 => ?_) (fun hc100 => ?_)
         ·replace h := cond_t h hc100
          refine run_seq ?_
          refine run_region' ?_
          refine oy rfl rfl (y_assign rfl) ?_
          refine ops_nil ?_
          refine goes_code ?_
          refine run_ret ?_
          obtain rfl := some_eq h
          obtain rfl := after_stop ho88
          skip
          obtain rfl := hstop83 _ rfl
          skip
          obtain rfl := after_stop ho76
          refine fin_slots [6] [.bool false] [] [] Try.results4 rfl (by decide) rfl ?_
          exact ⟨rfl, rfl⟩
         ·replace h := cond_f h hc100
          refine run_skip ?_
          refine goes_code ?_
          refine run_region' ?_
          refine oy rfl rfl (y_move rfl) ?_
          refine oy rfl rfl (y_add rfl rfl) ?_
          refine oy rfl rfl (y_assign rfl) ?_
          refine ops_nil ?_
          obtain rfl := some_eq h
          exact goes_cut hL89 ((IntKind.i64.wrap (k_80 + 1)), ()) [0, 1, 2, 3, 4, 5, 6, 7, 8] (vcons rfl (vcons rfl (vcons rfl (vcons rfl (vcons rfl (vcons rfl (vcons rfl (vcons rfl (vcons rfl (vcons rfl (vcons rfl (vnil)))))))))))) (by decide) rfl rfl
        ·replace h := cond_f h hc92
         refine run_skip ?_
         obtain rfl := some_eq h
         exact goes_cut hL89 (k_80, ()) [0, 1, 2, 3, 4, 5, 6, 7, 8] (vcons rfl (vcons rfl (vcons rfl (vcons rfl (vcons rfl (vcons rfl (vcons rfl (vcons rfl (vcons rfl (vcons rfl (vcons rfl (vnil)))))))))))) (by decide) rfl rfl
       rintro ⟨k_86, _⟩ hj
       obtain rfl : o87 = _ := hj
       replace h := after_go ho88
       clear ho88
       change Run _ _ _ (VF.of [(1, .string (bs country_1)), (2, .int .i64 n_2), (3, boxP b1 0), (7, v15), (8, v17), (10, .int .i64 r38.1), (11, .int .i64 r38.2), (12, boxP b61 0), (14, v72), (16, .int .i64 at_79), (17, .int .i64 k_86)]) [box b1 [m_0_Hubsv, m_0_Routesv], ro m_0_Hubsv 3 (m_0.Hubs.map S_api_Hub.enc), nro m_0_Routesv NC_api_Route_82 m_0.Routes, row v15 1 (x_19.map eBool), row v17 1 (x_20.map (eInt .i64)), box b61 [v59, v60], row v59 3 (r57.1.Hubs.map S_api_Hub.enc), nro v60 NC_api_Route_82 r57.1.Routes, row v72 1 (r70.1.map (eInt .i64))]
       refine run_region' ?_
       refine oy rfl rfl (y_move rfl) ?_
       refine oy rfl rfl (y_move rfl) ?_
       obtain ⟨x101, hzx101, hlx101, hxx101, h⟩ := idx_some h
       refine oy rfl rfl (y_indexAddrI (kd := .i64) (i := at_79) 4 Try.runUnderlying35 Try.sizeOf3 rfl rfl rfl reads_row hzx101 (map_lt hlx101)) ?_
       refine oy rfl rfl (y_load_elem (i := at_79.toNat) 4 Try.isAgg3 rfl rfl reads_row (map_get hxx101)) ?_
       refine oy rfl rfl (y_assign rfl) ?_
       refine ops_nil ?_
       refine goes_blk ?_
       obtain rfl := some_eq h
       exact goes_iter hgo82 (x101, k_86) () [0, 1, 2, 3, 4, 5, 6, 7, 8] rfl (vcons rfl (vcons rfl (vcons rfl (vcons rfl (vcons rfl (vcons rfl (vcons rfl (vcons rfl (vcons rfl (vcons rfl (vcons rfl (vnil)))))))))))) (by decide) rfl
      ·replace h := cond_f h hc85
       refine run_exit _ rfl ?_
       obtain rfl := some_eq h
       obtain rfl := hstop83 _ rfl
       exact goes_cut hL77 (k_80, ()) [0, 1, 2, 3, 5, 6, 7, 8] (vcons rfl (vcons rfl (vcons rfl (vcons rfl (vcons rfl (vcons rfl (vcons rfl (vcons rfl (vcons rfl (vnil)))))))))) (by decide) rfl rfl
     rintro ⟨k_74, _⟩ hj
     obtain rfl : o75 = _ := hj
     replace h := after_go ho76
     clear ho76
     change Run _ _ _ (VF.of [(1, .string (bs country_1)), (2, .int .i64 n_2), (3, boxP b1 0), (7, v15), (10, .int .i64 r38.1), (11, .int .i64 r38.2), (12, boxP b61 0), (14, v72), (17, .int .i64 k_74)]) [box b1 [m_0_Hubsv, m_0_Routesv], ro m_0_Hubsv 3 (m_0.Hubs.map S_api_Hub.enc), nro m_0_Routesv NC_api_Route_82 m_0.Routes, row v15 1 (x_19.map eBool), box b61 [v59, v60], row v59 3 (r57.1.Hubs.map S_api_Hub.enc), nro v60 NC_api_Route_82 r57.1.Routes, row v72 1 (r70.1.map (eInt .i64))]
     refine run_seq ?_
     refine run_seq ?_
     refine run_region' ?_
     refine oy rfl rfl (y_move rfl) ?_
     refine oy rfl rfl (y_move rfl) ?_
     refine oy rfl rfl ((y_len 7 rfl Try.runUnderlying35 rfl rfl reads_row).to (v_len (eInt .i64) _)) ?_
     refine oy rfl rfl (y_neq rfl rfl) ?_
     refine ops_nil ?_
     refine goes_code ?_
     refine run_cond (decide (k_74 ≠ (r70.1.length : Int))) rfl (fun hc102 => ?_) (fun hc102 => ?_)
     ·replace h := cond_t h hc102
      refine run_seq ?_
      refine run_region' ?_
      refine oy rfl rfl (y_assign rfl) ?_
      refine ops_nil ?_
      refine goes_code ?_
      refine run_ret ?_
      obtain rfl := some_eq h
      refine fin_slots [6] [.bool false] [] [] Try.results4 rfl (by decide) rfl ?_
      exact ⟨rfl, rfl⟩
     ·replace h := cond_f h hc102
      refine run_skip ?_
      refine goes_code ?_
      refine run_seq ?_
      refine run_region' ?_
      refine oy rfl rfl (y_load_boxagg (c := [m_0_Hubsv, m_0_Routesv]) 0 Try.isAgg25 Try.sizeOf25 rfl rfl rfl) ?_
      refine oy rfl rfl (y_load_boxagg (c := [v59, v60]) 4 Try.isAgg25 Try.sizeOf25 rfl rfl rfl) ?_
      refine oy rfl rfl (y_move rfl) ?_
      refine ot rfl rfl (t_lit [.string (bs country_1)] Try.runUnderlying26 Try.sizeOf9 Try.zeroValue9 rfl (by decide) (by decide) rfl (by simp [Value.cells, boxP])) ?_
      rintro v103 _ ⟨rfl, _⟩
      refine ops_turn (retell 8 (g := row v103 1 (([country_1] : List (List UInt8)).map eStr)) rfl rfl) ?_
      obtain ⟨r104, hr105, h⟩ := obind_some h
      refine ot rfl rfl (t_callx (vs := [.agg #[m_0_Hubsv, m_0_Routesv], .agg #[v59, v60], v103]) (cs := []) [(1, 0), (2, 0), (5, 1), (6, 0), (8, 1)] rfl Try.call13 rfl (topo_Moved_ok n m_0 r57.1 ([country_1] : List (List UInt8)) m_0_Hubsv m_0_Routesv v59 v60 v103 hr105) (showsX_view 1 rfl views_ro (showsX_view 2 rfl views_nro (showsX_look 5 rfl views_row (showsX_view 6 rfl views_nro (showsX_look 8 rfl views_row showsX_nil))))) rfl (.inr (by rintro _ _ ⟨_, rfl, rfl⟩ g hg; first | (cases hg; done) | (simp only [List.mem_cons, List.not_mem_nil, or_false] at hg; first | (subst hg; first | exact strict_row | exact strict_box) | (rcases hg with rfl | rfl <;> first | exact strict_row | exact strict_box) | (rcases hg with rfl | rfl | rfl <;> first | exact strict_row | exact strict_box))))) ?_
      rintro v106 _ ⟨_, ⟨_, rfl, rfl⟩, rfl⟩
      refine oy rfl rfl (y_assign rfl) ?_
      refine ops_nil ?_
      refine goes_code ?_
      refine run_seq ?_
      refine run_seq ?_
      refine run_weak [(2, .int .i64 n_2), (3, boxP b1 0), (7, v15), (10, .int .i64 r38.1), (11, .int .i64 r38.2), (12, boxP b61 0), (18, v106)] [0, 1, 2, 3, 4, 5, 6, 9] [box b1 [m_0_Hubsv, m_0_Routesv], ro m_0_Hubsv 3 (m_0.Hubs.map S_api_Hub.enc), nro m_0_Routesv NC_api_Route_82 m_0.Routes, row v15 1 (x_19.map eBool), box b61 [v59, v60], row v59 3 (r57.1.Hubs.map S_api_Hub.enc), nro v60 NC_api_Route_82 r57.1.Routes, row v106 1 (r104.map eStr)] (vcons rfl (vcons rfl (vcons rfl (vcons rfl (vcons rfl (vcons rfl (vcons rfl (vnil)))))))) (by decide) rfl ?_
      refine run_region' ?_
      refine oy rfl rfl (y_move rfl) ?_
      refine oy rfl rfl ((y_len 7 rfl Try.runUnderlying26 rfl rfl reads_row).to (v_len eStr _)) ?_
      refine oy rfl rfl (y_gtr rfl rfl) ?_
      refine oy rfl rfl (y_move rfl) ?_
      refine ops_cut 8 (Bool) (fun σ => [(2, .int .i64 n_2), (3, boxP b1 0), (7, v15), (10, .int .i64 r38.1), (11, .int .i64 r38.2), (12, boxP b61 0), (18, v106), (156, .bool σ)]) (fun σ => [box b1 [m_0_Hubsv, m_0_Routesv], ro m_0_Hubsv 3 (m_0.Hubs.map S_api_Hub.enc), nro m_0_Routesv NC_api_Route_82 m_0.Routes, row v15 1 (x_19.map eBool), box b61 [v59, v60], row v59 3 (r57.1.Hubs.map S_api_Hub.enc), nro v60 NC_api_Route_82 r57.1.Routes, row v106 1 (r104.map eStr)]) (fun σ => σ = (decide (0 < (r104.length : Int)) && (decide (r38.2 ≠ 0) || decide (r38.1 ≠ n_2)))) (fun L107 hL108 => ?_) ?_
      ·refine ops_split 148 (decide (0 < (r104.length : Int))) rfl (fun hg109 => ?_) (fun hg109 => ?_)
       ·skip
        refine ops_y (wg 3 true 148 rfl rfl rfl rfl) rfl (y_move rfl) ?_
        refine ops_y (wg 3 true 148 rfl rfl rfl rfl) rfl (y_neq rfl rfl) ?_
        refine ops_y (wg 3 true 148 rfl rfl rfl rfl) rfl (y_move rfl) ?_
        refine ops_cut 4 (Bool) (fun σ => [(2, .int .i64 n_2), (3, boxP b1 0), (7, v15), (10, .int .i64 r38.1), (11, .int .i64 r38.2), (12, boxP b61 0), (18, v106), (148, .bool true), (155, .bool σ)]) (fun σ => [box b1 [m_0_Hubsv, m_0_Routesv], ro m_0_Hubsv 3 (m_0.Hubs.map S_api_Hub.enc), nro m_0_Routesv NC_api_Route_82 m_0.Routes, row v15 1 (x_19.map eBool), box b61 [v59, v60], row v59 3 (r57.1.Hubs.map S_api_Hub.enc), nro v60 NC_api_Route_82 r57.1.Routes, row v106 1 (r104.map eStr)]) (fun σ => σ = (decide (r38.2 ≠ 0) || decide (r38.1 ≠ n_2))) (fun L110 hL111 => ?_) ?_
        ·refine ops_split 151 (decide (r38.2 ≠ 0)) rfl (fun hg112 => ?_) (fun hg112 => ?_)
         ·skip
          refine ops_no 6 false 151 rfl rfl rfl rfl rfl ?_
          refine ops_no 6 false 151 rfl rfl rfl rfl rfl ?_
          refine ops_no 6 false 151 rfl rfl rfl rfl rfl ?_
          refine ops_y (wg 3 true 148 rfl rfl rfl rfl) rfl (y_pick (b := true) rfl rfl) ?_
          refine ops_nil ?_
          exact goes_cut hL111 true [0, 1, 2, 3, 4, 5, 6, 7] (vcons rfl (vcons rfl (vcons rfl (vcons rfl (vcons rfl (vcons rfl (vcons rfl (vcons rfl (vcons rfl (vnil)))))))))) (by decide) rfl (by rw [hg112]; simp)
         ·skip
          refine ops_y (wg 6 false 151 rfl rfl rfl rfl) rfl (y_move rfl) ?_
          refine ops_y (wg 6 false 151 rfl rfl rfl rfl) rfl (y_move rfl) ?_
          refine ops_y (wg 6 false 151 rfl rfl rfl rfl) rfl (y_neq rfl rfl) ?_
          refine ops_y (wg 3 true 148 rfl rfl rfl rfl) rfl (y_pick (b := false) rfl rfl) ?_
          refine ops_nil ?_
          exact goes_cut hL111 (decide (r38.1 ≠ n_2)) [0, 1, 2, 3, 4, 5, 6, 7] (vcons rfl (vcons rfl (vcons rfl (vcons rfl (vcons rfl (vcons rfl (vcons rfl (vcons rfl (vcons rfl (vnil)))))))))) (by decide) rfl (by rw [hg112]; simp)
        rintro _ rfl
        refine oy rfl rfl (y_pick (b := true) rfl rfl) ?_
        refine ops_nil ?_
        exact goes_cut hL108 (decide (r38.2 ≠ 0) || decide (r38.1 ≠ n_2)) [0, 1, 2, 3, 4, 5, 6, 7] (vcons rfl (vcons rfl (vcons rfl (vcons rfl (vcons rfl (vcons rfl (vcons rfl (vcons rfl (vnil))))))))) (by decide) rfl (by rw [hg109]; simp)
       ·skip
        refine ops_no 3 true 148 rfl rfl rfl rfl rfl ?_
        refine ops_no 3 true 148 rfl rfl rfl rfl rfl ?_
        refine ops_no 3 true 148 rfl rfl rfl rfl rfl ?_
        refine ops_un 6 false 151 rfl rfl rfl rfl rfl ?_
        refine ops_un 6 false 151 rfl rfl rfl rfl rfl ?_
        refine ops_un 6 false 151 rfl rfl rfl rfl rfl ?_
        refine ops_no 3 true 148 rfl rfl rfl rfl rfl ?_
        refine oy rfl rfl (y_pick (b := false) rfl rfl) ?_
        refine ops_nil ?_
        exact goes_cut hL108 false [0, 1, 2, 3, 4, 5, 6, 7] (vcons rfl (vcons rfl (vcons rfl (vcons rfl (vcons rfl (vcons rfl (vcons rfl (vcons rfl (vnil))))))))) (by decide) rfl (by rw [hg109]; simp)
      rintro _ rfl
      refine oy rfl rfl (y_move rfl) ?_
      refine ops_cut 13 (Bool) (fun σ => [(2, .int .i64 n_2), (3, boxP b1 0), (7, v15), (12, boxP b61 0), (170, .bool σ)]) (fun σ => [box b1 [m_0_Hubsv, m_0_Routesv], ro m_0_Hubsv 3 (m_0.Hubs.map S_api_Hub.enc), nro m_0_Routesv NC_api_Route_82 m_0.Routes, row v15 1 (x_19.map eBool), box b61 [v59, v60], row v59 3 (r57.1.Hubs.map S_api_Hub.enc), nro v60 NC_api_Route_82 r57.1.Routes]) (fun σ => σ = ((decide (0 < (r104.length : Int)) && (decide (r38.2 ≠ 0) || decide (r38.1 ≠ n_2))) || ((decide ((r104.length : Int) = 0) && decide (r38.2 = 0)) && decide (r38.1 = n_2)))) (fun L113 hL114 => ?_) ?_
      ·refine ops_split 157 (decide (0 < (r104.length : Int)) && (decide (r38.2 ≠ 0) || decide (r38.1 ≠ n_2))) rfl (fun hg115 => ?_) (fun hg115 => ?_)
       ·skip
        refine ops_no 12 false 157 rfl rfl rfl rfl rfl ?_
        refine ops_no 12 false 157 rfl rfl rfl rfl rfl ?_
        refine ops_no 12 false 157 rfl rfl rfl rfl rfl ?_
        refine ops_no 12 false 157 rfl rfl rfl rfl rfl ?_
        refine ops_un 16 true 161 rfl rfl rfl rfl rfl ?_
        refine ops_un 16 true 161 rfl rfl rfl rfl rfl ?_
        refine ops_no 12 false 157 rfl rfl rfl rfl rfl ?_
        refine ops_no 12 false 157 rfl rfl rfl rfl rfl ?_
        refine ops_un 20 true 165 rfl rfl rfl rfl rfl ?_
        refine ops_un 20 true 165 rfl rfl rfl rfl rfl ?_
        refine ops_un 20 true 165 rfl rfl rfl rfl rfl ?_
        refine ops_no 12 false 157 rfl rfl rfl rfl rfl ?_
        refine oy rfl rfl (y_pick (b := true) rfl rfl) ?_
        refine ops_nil ?_
        exact goes_cut hL114 true [0, 1, 2, 3, 4, 5, 6] (vcons rfl (vcons rfl (vcons rfl (vcons rfl (vcons rfl (vnil)))))) (by decide) rfl (by rw [hg115]; simp)
       ·skip
        refine ops_y (wg 12 false 157 rfl rfl rfl rfl) rfl (y_move rfl) ?_
        refine ops_y (wg 12 false 157 rfl rfl rfl rfl) rfl ((y_len 7 rfl Try.runUnderlying26 rfl rfl reads_row).to (v_len eStr _)) ?_
        refine ops_y (wg 12 false 157 rfl rfl rfl rfl) rfl (y_eql rfl rfl) ?_
        refine ops_y (wg 12 false 157 rfl rfl rfl rfl) rfl (y_move rfl) ?_
        refine ops_cut 3 (Bool) (fun σ => [(2, .int .i64 n_2), (3, boxP b1 0), (7, v15), (10, .int .i64 r38.1), (12, boxP b61 0), (157, .bool false), (164, .bool σ)]) (fun σ => [box b1 [m_0_Hubsv, m_0_Routesv], ro m_0_Hubsv 3 (m_0.Hubs.map S_api_Hub.enc), nro m_0_Routesv NC_api_Route_82 m_0.Routes, row v15 1 (x_19.map eBool), box b61 [v59, v60], row v59 3 (r57.1.Hubs.map S_api_Hub.enc), nro v60 NC_api_Route_82 r57.1.Routes]) (fun σ => σ = (decide ((r104.length : Int) = 0) && decide (r38.2 = 0))) (fun L116 hL117 => ?_) ?_
        ·refine ops_split 161 (decide ((r104.length : Int) = 0)) rfl (fun hg118 => ?_) (fun hg118 => ?_)
         ·skip
          refine ops_y (wg 16 true 161 rfl rfl rfl rfl) rfl (y_move rfl) ?_
          refine ops_y (wg 16 true 161 rfl rfl rfl rfl) rfl (y_eql rfl rfl) ?_
          refine ops_y (wg 12 false 157 rfl rfl rfl rfl) rfl (y_pick (b := true) rfl rfl) ?_
          refine ops_nil ?_
          exact goes_cut hL117 (decide (r38.2 = 0)) [0, 1, 2, 3, 4, 5, 6] (vcons rfl (vcons rfl (vcons rfl (vcons rfl (vcons rfl (vcons rfl (vcons rfl (vnil)))))))) (by decide) rfl (by rw [hg118]; simp)
         ·skip
          refine ops_no 16 true 161 rfl rfl rfl rfl rfl ?_
          refine ops_no 16 true 161 rfl rfl rfl rfl rfl ?_
          refine ops_y (wg 12 false 157 rfl rfl rfl rfl) rfl (y_pick (b := false) rfl rfl) ?_
          refine ops_nil ?_
          exact goes_cut hL117 false [0, 1, 2, 3, 4, 5, 6] (vcons rfl (vcons rfl (vcons rfl (vcons rfl (vcons rfl (vcons rfl (vcons rfl (vnil)))))))) (by decide) rfl (by rw [hg118]; simp)
        rintro _ rfl
        refine ops_y (wg 12 false 157 rfl rfl rfl rfl) rfl (y_move rfl) ?_
        refine ops_cut 4 (Bool) (fun σ => [(2, .int .i64 n_2), (3, boxP b1 0), (7, v15), (12, boxP b61 0), (157, .bool false), (169, .bool σ)]) (fun σ => [box b1 [m_0_Hubsv, m_0_Routesv], ro m_0_Hubsv 3 (m_0.Hubs.map S_api_Hub.enc), nro m_0_Routesv NC_api_Route_82 m_0.Routes, row v15 1 (x_19.map eBool), box b61 [v59, v60], row v59 3 (r57.1.Hubs.map S_api_Hub.enc), nro v60 NC_api_Route_82 r57.1.Routes]) (fun σ => σ = ((decide ((r104.length : Int) = 0) && decide (r38.2 = 0)) && decide (r38.1 = n_2))) (fun L119 hL120 => ?_) ?_
        ·refine ops_split 165 (decide ((r104.length : Int) = 0) && decide (r38.2 = 0)) rfl (fun hg121 => ?_) (fun hg121 => ?_)
         ·skip
          refine ops_y (wg 20 true 165 rfl rfl rfl rfl) rfl (y_move rfl) ?_
          refine ops_y (wg 20 true 165 rfl rfl rfl rfl) rfl (y_move rfl) ?_
          refine ops_y (wg 20 true 165 rfl rfl rfl rfl) rfl (y_eql rfl rfl) ?_
          refine ops_y (wg 12 false 157 rfl rfl rfl rfl) rfl (y_pick (b := true) rfl rfl) ?_
          refine ops_nil ?_
          exact goes_cut hL120 (decide (r38.1 = n_2)) [0, 1, 2, 3, 4, 5, 6] (vcons rfl (vcons rfl (vcons rfl (vcons rfl (vcons rfl (vcons rfl (vnil))))))) (by decide) rfl (by rw [hg121]; simp)
         ·skip
          refine ops_no 20 true 165 rfl rfl rfl rfl rfl ?_
          refine ops_no 20 true 165 rfl rfl rfl rfl rfl ?_
          refine ops_no 20 true 165 rfl rfl rfl rfl rfl ?_
          refine ops_y (wg 12 false 157 rfl rfl rfl rfl) rfl (y_pick (b := false) rfl rfl) ?_
          refine ops_nil ?_
          exact goes_cut hL120 false [0, 1, 2, 3, 4, 5, 6] (vcons rfl (vcons rfl (vcons rfl (vcons rfl (vcons rfl (vcons rfl (vnil))))))) (by decide) rfl (by rw [hg121]; simp)
        rintro _ rfl
        refine oy rfl rfl (y_pick (b := false) rfl rfl) ?_
        refine ops_nil ?_
        exact goes_cut hL114 ((decide ((r104.length : Int) = 0) && decide (r38.2 = 0)) && decide (r38.1 = n_2)) [0, 1, 2, 3, 4, 5, 6] (vcons rfl (vcons rfl (vcons rfl (vcons rfl (vcons rfl (vnil)))))) (by decide) rfl (by rw [hg115]; simp)
      rintro _ rfl
      refine ops_nil ?_
      refine goes_code ?_
      refine run_cond ((decide (0 < (r104.length : Int)) && (decide (r38.2 ≠ 0) || decide (r38.1 ≠ n_2))) || ((decide ((r104.length : Int) = 0) && decide (r38.2 = 0)) && decide (r38.1 = n_2))) rfl (fun hc122 => ?_) (fun hc122 => ?_)
      ·replace h := cond_t h hc122
       refine run_seq ?_
       refine run_region' ?_
       refine oy rfl rfl (y_assign rfl) ?_
       refine ops_nil ?_
       refine goes_code ?_
       refine run_ret ?_
       obtain rfl := some_eq h
       refine fin_slots [6] [.bool false] [] [] Try.results4 rfl (by decide) rfl ?_
       exact ⟨rfl, rfl⟩
      ·replace h := cond_f h hc122
       refine run_skip ?_
       refine goes_code ?_
       refine run_seq ?_
       obtain ⟨x123, hzx123, hlx123, hxx123, h⟩ := idx_some h
       obtain ⟨r124, hr125, h⟩ := obind_some h
       refine run_drawany [box b1 [m_0_Hubsv, m_0_Routesv], ro m_0_Hubsv 3 (m_0.Hubs.map S_api_Hub.enc), nro m_0_Routesv NC_api_Route_82 m_0.Routes, row v15 1 (x_19.map eBool), box b61 [v59, v60], HA.emp, nro v60 NC_api_Route_82 r57.1.Routes] (by kernel_rfl) ?_
       refine any_y 0 rfl (by kernel_rfl) (by kernel_rfl) (by kernel_rfl) (ss (ss (ss (ss (ss (se (ss (sn)))))))) (wn rfl) rfl (y_load_boxagg (c := [v59, v60]) 4 Try.isAgg25 Try.sizeOf25 rfl rfl rfl) ?_
       refine any_y 1 rfl (by kernel_rfl) (by kernel_rfl) (by kernel_rfl) (ss (ss (ss (ss (ss (se (ss (sn)))))))) (wn rfl) rfl (y_move rfl) ?_
       refine any_y 2 rfl (by kernel_rfl) (by kernel_rfl) (by kernel_rfl) (ss (ss (ss (ss (ss (se (ss (sn)))))))) (wn rfl) rfl (y_move rfl) ?_
       refine any_y 3 rfl (by kernel_rfl) (by kernel_rfl) (by kernel_rfl) (ss (ss (ss (ss (ss (se (ss (sn)))))))) (wn rfl) rfl (y_move rfl) ?_
       refine any_y 4 rfl (by kernel_rfl) (by kernel_rfl) (by kernel_rfl) (ss (ss (ss (ss (ss (se (ss (sn)))))))) (wn rfl) rfl (y_indexAddrI (kd := .i64) (i := n_2) 3 Try.runUnderlying50 Try.sizeOf4 rfl rfl rfl reads_row hzx123 (map_lt hlx123)) ?_
       refine any_y 5 rfl (by kernel_rfl) (by kernel_rfl) (by kernel_rfl) (ss (ss (ss (ss (ss (se (ss (sn)))))))) (wn rfl) rfl (y_load_elem (i := n_2.toNat) 3 Try.isAgg4 rfl rfl reads_row (map_get hxx123)) ?_
       refine any_cut2 #[true, true, true, true, true, true, true, true, true, true, true, true, true] 0 (Nat × Value × Value) (fun σ => [(3, boxP b1 0), (19, boxP σ.1 0), (20, .int .i64 r124.2)]) (fun σ => [box b1 [m_0_Hubsv, m_0_Routesv], ro m_0_Hubsv 3 (m_0.Hubs.map S_api_Hub.enc), nro m_0_Routesv NC_api_Route_82 m_0.Routes, row v15 1 (x_19.map eBool), box b61 [v59, v60], ro v59 3 (r57.1.Hubs.map S_api_Hub.enc), nro v60 NC_api_Route_82 r57.1.Routes, row σ.2.1 3 (r124.1.Hubs.map S_api_Hub.enc), nro σ.2.2 NC_api_Route_82 r124.1.Routes, box σ.1 [σ.2.1, σ.2.2]]) ?_ (fun hK137 => ?_)
       ·rintro ⟨b134, v131, v132⟩
        change AnyL _ _ _ _ _ (VF.of [(3, boxP b1 0), (19, boxP b134 0), (20, .int .i64 r124.2)]) [box b1 [m_0_Hubsv, m_0_Routesv], ro m_0_Hubsv 3 (m_0.Hubs.map S_api_Hub.enc), nro m_0_Routesv NC_api_Route_82 m_0.Routes, row v15 1 (x_19.map eBool), box b61 [v59, v60], ro v59 3 (r57.1.Hubs.map S_api_Hub.enc), nro v60 NC_api_Route_82 r57.1.Routes, row v131 3 (r124.1.Hubs.map S_api_Hub.enc), nro v132 NC_api_Route_82 r124.1.Routes, box b134 [v131, v132]] _
        refine any_nil (by kernel_rfl) ?_
        refine goes_code ?_
        refine run_seq ?_
        refine run_region' ?_
        obtain ⟨r138, hr139, h⟩ := obind_some h
        refine ot rfl rfl (t_callx (vs := []) (cs := []) [] rfl Try.call8 rfl (law42_sanity_ok n   hr139) showsX_nil rfl (.inl rfl)) ?_
        rintro _ _ ⟨_, ⟨rfl, rfl⟩, rfl⟩
        refine oy rfl rfl (y_move rfl) ?_
        refine ops_cut 3 (Bool) (fun σ => [(3, boxP b1 0), (19, boxP b134 0), (185, .bool σ)]) (fun σ => [box b1 [m_0_Hubsv, m_0_Routesv], ro m_0_Hubsv 3 (m_0.Hubs.map S_api_Hub.enc), nro m_0_Routesv NC_api_Route_82 m_0.Routes, row v131 3 (r124.1.Hubs.map S_api_Hub.enc), nro v132 NC_api_Route_82 r124.1.Routes, box b134 [v131, v132]]) (fun σ => σ = (r138 && decide (r124.2 = 0))) (fun L140 hL141 => ?_) ?_
        ·refine ops_split 182 r138 rfl (fun hg142 => ?_) (fun hg142 => ?_)
         ·skip
          refine ops_y (wg 1 true 182 rfl rfl rfl rfl) rfl (y_move rfl) ?_
          refine ops_y (wg 1 true 182 rfl rfl rfl rfl) rfl (y_eql rfl rfl) ?_
          refine oy rfl rfl (y_pick (b := true) rfl rfl) ?_
          refine ops_nil ?_
          exact goes_cut hL141 (decide (r124.2 = 0)) [0, 1, 2, 7, 8, 9] (vcons rfl (vcons rfl (vcons rfl (vnil)))) (by decide) rfl (by rw [hg142]; simp)
         ·skip
          refine ops_no 1 true 182 rfl rfl rfl rfl rfl ?_
          refine ops_no 1 true 182 rfl rfl rfl rfl rfl ?_
          refine oy rfl rfl (y_pick (b := false) rfl rfl) ?_
          refine ops_nil ?_
          exact goes_cut hL141 false [0, 1, 2, 7, 8, 9] (vcons rfl (vcons rfl (vcons rfl (vnil)))) (by decide) rfl (by rw [hg142]; simp)
        rintro _ rfl
        refine oy rfl rfl (y_move rfl) ?_
        obtain ⟨o144, h, ho145⟩ := bindJ_some h
        refine ops_cut 4 (Bool) (fun σ => [(190, .bool σ)]) (fun σ => []) (fun σ => o144 = .go σ) (fun L146 hL147 => ?_) ?_
        ·refine ops_split 186 (r138 && decide (r124.2 = 0)) rfl (fun hg148 => ?_) (fun hg148 => ?_)
         ·replace h := cond_t h hg148
          refine ops_y (wg 5 true 186 rfl rfl rfl rfl) rfl (y_load_boxagg (c := [v131, v132]) 5 Try.isAgg25 Try.sizeOf25 rfl rfl rfl) ?_
          refine ops_y (wg 5 true 186 rfl rfl rfl rfl) rfl (y_load_boxagg (c := [m_0_Hubsv, m_0_Routesv]) 0 Try.isAgg25 Try.sizeOf25 rfl rfl rfl) ?_
          obtain ⟨r149, hr150, h⟩ := obind_some h
          refine ops_t (wg 5 true 186 rfl rfl rfl rfl) rfl (t_callx (vs := [.agg #[v131, v132], .agg #[m_0_Hubsv, m_0_Routesv]]) (cs := []) [(3, 1), (4, 0), (1, 0), (2, 0)] rfl Try.call20 rfl (ref42_SameMap_ok n r124.1 m_0 v131 v132 m_0_Hubsv m_0_Routesv hr150) (showsX_look 3 rfl views_row (showsX_view 4 rfl views_nro (showsX_view 1 rfl views_ro (showsX_view 2 rfl views_nro showsX_nil)))) rfl (.inr (by rintro _ _ ⟨rfl, rfl⟩ g hg; first | (cases hg; done) | (simp only [List.mem_cons, List.not_mem_nil, or_false] at hg; first | (subst hg; first | exact strict_row | exact strict_box) | (rcases hg with rfl | rfl <;> first | exact strict_row | exact strict_box) | (rcases hg with rfl | rfl | rfl <;> first | exact strict_row | exact strict_box))))) ?_
          rintro _ _ ⟨_, ⟨rfl, rfl⟩, rfl⟩
          refine oy rfl rfl (y_pick (b := true) rfl rfl) ?_
          refine ops_nil ?_
          obtain rfl := some_eq h
          exact goes_cut hL147 r149 [] (vcons rfl (vnil)) (by decide) rfl rfl
         ·replace h := cond_f h hg148
          refine ops_no 5 true 186 rfl rfl rfl rfl rfl ?_
          refine ops_no 5 true 186 rfl rfl rfl rfl rfl ?_
          refine ops_no 5 true 186 rfl rfl rfl rfl rfl ?_
          refine oy rfl rfl (y_pick (b := false) rfl rfl) ?_
          refine ops_nil ?_
          obtain rfl := some_eq h
          exact goes_cut hL147 false [] (vcons rfl (vnil)) (by decide) rfl rfl
        rintro b143 hj
        obtain rfl : o144 = _ := hj
        replace h := after_go ho145
        clear ho145
        refine oy rfl rfl (y_assign rfl) ?_
        refine ops_nil ?_
        refine goes_code ?_
        refine run_ret ?_
        obtain rfl := some_eq h
        refine fin_slots [6] [.bool b143] [] [] Try.results4 rfl (by decide) rfl ?_
        exact ⟨rfl, rfl⟩
       refine any_cut2 #[true, true, true, true, true, true, true, true, true, true, true, false, false] 2 (Value × Value × Nat) (fun σ => [(3, boxP b1 0), (179, .agg #[σ.1, σ.2.1]), (180, .int .i64 r124.2), (19, boxP σ.2.2 0)]) (fun σ => [box b1 [m_0_Hubsv, m_0_Routesv], ro m_0_Hubsv 3 (m_0.Hubs.map S_api_Hub.enc), nro m_0_Routesv NC_api_Route_82 m_0.Routes, row v15 1 (x_19.map eBool), box b61 [v59, v60], ro v59 3 (r57.1.Hubs.map S_api_Hub.enc), nro v60 NC_api_Route_82 r57.1.Routes, row σ.1 3 (r124.1.Hubs.map S_api_Hub.enc), nro σ.2.1 NC_api_Route_82 r124.1.Routes, box σ.2.2 [.slice none 0 0, .slice none 0 0]]) ?_ (fun hK151 => ?_)
       ·rintro ⟨v131, v132, b134⟩
        change AnyL _ _ _ _ _ (VF.of [(3, boxP b1 0), (179, .agg #[v131, v132]), (180, .int .i64 r124.2), (19, boxP b134 0)]) [box b1 [m_0_Hubsv, m_0_Routesv], ro m_0_Hubsv 3 (m_0.Hubs.map S_api_Hub.enc), nro m_0_Routesv NC_api_Route_82 m_0.Routes, row v15 1 (x_19.map eBool), box b61 [v59, v60], ro v59 3 (r57.1.Hubs.map S_api_Hub.enc), nro v60 NC_api_Route_82 r57.1.Routes, row v131 3 (r124.1.Hubs.map S_api_Hub.enc), nro v132 NC_api_Route_82 r124.1.Routes, box b134 [.slice none 0 0, .slice none 0 0]] _
        refine any_all [11] (by kernel_rfl) rfl ?_
        refine anyo_cons ?_ ?_
        ·
         refine anyo_slc 7 rfl reads_row (fun hs152 hs152o => ?_)
         refine anyo_slcN 8 rfl readsN_ro (fun hs153 hs153o => ?_)
         refine any_t rfl (wn rfl) rfl (t_store 9 Try.sizeOf25 rfl rfl rfl rfl (by simp [Value.cells, boxP]) (allL_cons hs152o (allL_cons hs153o (allL_nil)))) ?_
         rintro _ _ ⟨rfl, rfl⟩
         refine ⟨(ss (ss (ss (ss (ss (se (ss (sn)))))))), ?_⟩
         refine any_turn (retell 9 (g := box b134 [v131, v132]) rfl rfl) ?_
         refine any_y 12 rfl (by kernel_rfl) (by kernel_rfl) (by kernel_rfl) (ss (ss (ss (ss (ss (se (ss (sn)))))))) (wn rfl) rfl (y_assign rfl) ?_
         exact any_weak2 (hK137 (b134, v131, v132)) [0, 1, 2, 3, 4, 5, 6, 7, 8, 9] (by kernel_rfl) (vcons rfl (vcons rfl (vcons rfl (vnil)))) (by decide) rfl
        exact anyo_nil
       refine any_cut2 #[true, true, true, true, true, true, true, true, true, true, false, false, false] 3 (Value × Value) (fun σ => [(3, boxP b1 0), (179, .agg #[σ.1, σ.2]), (180, .int .i64 r124.2)]) (fun σ => [box b1 [m_0_Hubsv, m_0_Routesv], ro m_0_Hubsv 3 (m_0.Hubs.map S_api_Hub.enc), nro m_0_Routesv NC_api_Route_82 m_0.Routes, row v15 1 (x_19.map eBool), box b61 [v59, v60], ro v59 3 (r57.1.Hubs.map S_api_Hub.enc), nro v60 NC_api_Route_82 r57.1.Routes, row σ.1 3 (r124.1.Hubs.map S_api_Hub.enc), nro σ.2 NC_api_Route_82 r124.1.Routes]) ?_ (fun hK154 => ?_)
       ·rintro ⟨v131, v132⟩
        change AnyL _ _ _ _ _ (VF.of [(3, boxP b1 0), (179, .agg #[v131, v132]), (180, .int .i64 r124.2)]) [box b1 [m_0_Hubsv, m_0_Routesv], ro m_0_Hubsv 3 (m_0.Hubs.map S_api_Hub.enc), nro m_0_Routesv NC_api_Route_82 m_0.Routes, row v15 1 (x_19.map eBool), box b61 [v59, v60], ro v59 3 (r57.1.Hubs.map S_api_Hub.enc), nro v60 NC_api_Route_82 r57.1.Routes, row v131 3 (r124.1.Hubs.map S_api_Hub.enc), nro v132 NC_api_Route_82 r124.1.Routes] _
        refine any_all [10] (by kernel_rfl) rfl ?_
        refine anyo_cons ?_ ?_
        ·
         refine any_t rfl (wn rfl) rfl (t_alloc Try.zeroValue25) ?_
         rintro _ _ ⟨b155, rfl, rfl⟩
         refine ⟨(ss (ss (ss (ss (ss (se (ss (sn)))))))), ?_⟩
         exact any_weak2 (hK151 (v131, v132, b155)) [0, 1, 2, 3, 4, 5, 6, 7, 8, 9] (by kernel_rfl) (vcons rfl (vcons rfl (vcons rfl (vcons rfl (vnil))))) (by decide) rfl
        exact anyo_nil
       refine any_cut2 #[true, true, true, true, true, true, false, false, false, false, true, false, false] 6 (Nat) (fun σ => [(3, boxP b1 0), (172, .agg #[v59, v60]), (173, .int .i64 n_2), (177, .bool x123), (19, boxP σ 0)]) (fun σ => [box b1 [m_0_Hubsv, m_0_Routesv], ro m_0_Hubsv 3 (m_0.Hubs.map S_api_Hub.enc), nro m_0_Routesv NC_api_Route_82 m_0.Routes, row v15 1 (x_19.map eBool), box b61 [v59, v60], row v59 3 (r57.1.Hubs.map S_api_Hub.enc), nro v60 NC_api_Route_82 r57.1.Routes, box σ [.slice none 0 0, .slice none 0 0]]) ?_ (fun hK156 => ?_)
       ·rintro b133
        change AnyL _ _ _ _ _ (VF.of [(3, boxP b1 0), (172, .agg #[v59, v60]), (173, .int .i64 n_2), (177, .bool x123), (19, boxP b133 0)]) [box b1 [m_0_Hubsv, m_0_Routesv], ro m_0_Hubsv 3 (m_0.Hubs.map S_api_Hub.enc), nro m_0_Routesv NC_api_Route_82 m_0.Routes, row v15 1 (x_19.map eBool), box b61 [v59, v60], row v59 3 (r57.1.Hubs.map S_api_Hub.enc), nro v60 NC_api_Route_82 r57.1.Routes, box b133 [.slice none 0 0, .slice none 0 0]] _
        refine any_all [6] (by kernel_rfl) rfl ?_
        refine anyo_cons ?_ ?_
        ·
         refine anyo_turn (Go.Abs.freeze 5 rfl) ?_
         refine any_t rfl (wn rfl) rfl (t_callx (vs := [.agg #[v59, v60], .int .i64 n_2, .bool x123]) (cs := []) [(5, 0), (6, 0)] rfl Try.call12 rfl (topo_Turn_ok n r57.1 n_2 x123 v59 v60 hr125) (showsX_view 5 rfl views_ro (showsX_view 6 rfl views_nro showsX_nil)) rfl (.inl rfl)) ?_
         rintro _ _ ⟨_, ⟨v157, v158, rfl, rfl⟩, rfl⟩
         refine ⟨(ss (ss (ss (ss (ss (se (ss (sn)))))))), ?_⟩
         refine any_y 7 rfl (by kernel_rfl) (by kernel_rfl) (by kernel_rfl) (ss (ss (ss (ss (ss (se (ss (sn)))))))) (wn rfl) rfl (y_move rfl) ?_
         refine any_y 8 rfl (by kernel_rfl) (by kernel_rfl) (by kernel_rfl) (ss (ss (ss (ss (ss (se (ss (sn)))))))) (wn rfl) rfl (y_extract rfl rfl) ?_
         refine any_y 9 rfl (by kernel_rfl) (by kernel_rfl) (by kernel_rfl) (ss (ss (ss (ss (ss (se (ss (sn)))))))) (wn rfl) rfl (y_extract rfl rfl) ?_
         exact any_weak2 (hK151 (v157, v158, b133)) [0, 1, 2, 3, 4, 5, 6, 8, 9, 7] (by kernel_rfl) (vcons rfl (vcons rfl (vcons rfl (vcons rfl (vnil))))) (by decide) rfl
        exact anyo_nil
       refine any_all [6, 10] (by kernel_rfl) rfl ?_
       refine anyo_cons ?_ ?_
       ·
        refine anyo_turn (Go.Abs.freeze 5 rfl) ?_
        refine any_t rfl (wn rfl) rfl (t_callx (vs := [.agg #[v59, v60], .int .i64 n_2, .bool x123]) (cs := []) [(5, 0), (6, 0)] rfl Try.call12 rfl (topo_Turn_ok n r57.1 n_2 x123 v59 v60 hr125) (showsX_view 5 rfl views_ro (showsX_view 6 rfl views_nro showsX_nil)) rfl (.inl rfl)) ?_
        rintro _ _ ⟨_, ⟨v159, v160, rfl, rfl⟩, rfl⟩
        refine ⟨(ss (ss (ss (ss (ss (se (ss (sn)))))))), ?_⟩
        refine any_y 7 rfl (by kernel_rfl) (by kernel_rfl) (by kernel_rfl) (ss (ss (ss (ss (ss (se (ss (sn)))))))) (wn rfl) rfl (y_move rfl) ?_
        refine any_y 8 rfl (by kernel_rfl) (by kernel_rfl) (by kernel_rfl) (ss (ss (ss (ss (ss (se (ss (sn)))))))) (wn rfl) rfl (y_extract rfl rfl) ?_
        refine any_y 9 rfl (by kernel_rfl) (by kernel_rfl) (by kernel_rfl) (ss (ss (ss (ss (ss (se (ss (sn)))))))) (wn rfl) rfl (y_extract rfl rfl) ?_
        exact any_weak2 (hK154 (v159, v160)) [0, 1, 2, 3, 4, 5, 6, 7, 8] (by kernel_rfl) (vcons rfl (vcons rfl (vcons rfl (vnil)))) (by decide) rfl
       refine anyo_cons ?_ ?_
       ·
        refine any_t rfl (wn rfl) rfl (t_alloc Try.zeroValue25) ?_
        rintro _ _ ⟨b161, rfl, rfl⟩
        refine ⟨(ss (ss (ss (ss (ss (se (ss (sn)))))))), ?_⟩
        exact any_weak2 (hK156 b161) [0, 1, 2, 3, 4, 5, 6, 7] (by kernel_rfl) (vcons rfl (vcons rfl (vcons rfl (vcons rfl (vcons rfl (vnil)))))) (by decide) rfl
       exact anyo_nil

end Go.Proofs.Ytigiikkenamneaa
