/-
  Functions that the law TopoRoutesAsSpecified needs, lifted.
-/
import Derived.Test.YtigiikkenamneaaG4a
namespace Go.Proofs.Ytigiikkenamneaa
open Go.Abs
set_option linter.unusedVariables false
set_option linter.unusedSimpArgs false
set_option maxRecDepth 20000
set_option maxHeartbeats 4000000


def ref42_site (n_0 : Int) : Option (Bool) :=
 some (decide (0 ≤ n_0) && decide (n_0 < 64))
theorem ref42_site_ok (n_0 : Int)  {r : Bool} (h : ref42_site n_0 = some r) :
  Meets Try.prog 46 [.int .i64 n_0] [] (fun v G => v = .bool r ∧ G = []) := by
 refine fn_of_run Try.func46 rfl Try.ntmps46 rfl (fun w0 o0 => ?_)
 refine run_seq ?_
 refine run_region' ?_
 refine oy rfl rfl (y_assign rfl) ?_
 refine ops_nil ?_
 refine goes_code ?_
 refine run_seq ?_
 refine run_region' ?_
 refine oy rfl rfl (y_move rfl) ?_
 refine oy rfl rfl (y_geq rfl rfl) ?_
 refine oy rfl rfl (y_move rfl) ?_
 refine ops_cut 3 (Bool) (fun σ => [(8, .bool σ)]) (fun σ => []) (fun σ => σ = (decide (0 ≤ n_0) && decide (n_0 < 64))) (fun L1 hL2 => ?_) ?_
 ·refine ops_split 5 (decide (0 ≤ n_0)) rfl (fun hg3 => ?_) (fun hg3 => ?_)
  ·skip
   refine ops_y (wg 2 true 5 rfl rfl rfl rfl) rfl (y_move rfl) ?_
   refine ops_y (wg 2 true 5 rfl rfl rfl rfl) rfl (y_lss rfl rfl) ?_
   refine oy rfl rfl (y_pick (b := true) rfl rfl) ?_
   refine ops_nil ?_
   exact goes_cut hL2 (decide (n_0 < 64)) [] (vcons rfl (vnil)) (by decide) rfl (by rw [hg3]; simp)
  ·skip
   refine ops_no 2 true 5 rfl rfl rfl rfl rfl ?_
   refine ops_no 2 true 5 rfl rfl rfl rfl rfl ?_
   refine oy rfl rfl (y_pick (b := false) rfl rfl) ?_
   refine ops_nil ?_
   exact goes_cut hL2 false [] (vcons rfl (vnil)) (by decide) rfl (by rw [hg3]; simp)
 rintro _ rfl
 refine oy rfl rfl (y_assign rfl) ?_
 refine ops_nil ?_
 refine goes_code ?_
 refine run_ret ?_
 obtain rfl := some_eq h
 refine fin_slots [2] [.bool (decide (0 ≤ n_0) && decide (n_0 < 64))] [] [] Try.results46 rfl (by decide) rfl ?_
 exact ⟨rfl, rfl⟩

def ref42_hub_L1 (m_0 : S_api_Map) (n_1 : Int) : (Int) → Option (Lp (Int) (Lp (Unit) (Int))) :=
 fun i_6 =>
  cond (decide (i_6 < (m_0.Hubs.length : Int)))
   (idx m_0.Hubs i_6 fun x12 =>
   cond (decide (x12.Site = n_1))
    (some (.stop (.stop i_6)))
    (some (.go (IntKind.i64.wrap (i_6 + 1)))))
   (some (.stop (.go ())))
def ref42_hub (n : Nat) (m_0 : S_api_Map) (n_1 : Int) : Option (Int) :=
 bindJ (S := Unit)
  (iter (ref42_hub_L1 m_0 n_1) n 0)
 (fun _ =>
  some (-1))
theorem ref42_hub_ok (n : Nat) (m_0 : S_api_Map) (n_1 : Int) (m_0_Hubsv : Value) (m_0_Routesv : Value) {r : Int} (h : ref42_hub n m_0 n_1 = some r) :
  Meets Try.prog 38 [.agg #[m_0_Hubsv, m_0_Routesv], .int .i64 n_1] [ro m_0_Hubsv 3 (m_0.Hubs.map S_api_Hub.enc), nro m_0_Routesv NC_api_Route_82 m_0.Routes] (fun v G => v = .int .i64 r ∧ G = []) := by
 refine fn_of_run Try.func38 rfl Try.ntmps38 rfl (fun w0 o0 => ?_)
 refine run_seq ?_
 refine run_region' ?_
 refine ot rfl rfl (t_box rfl) ?_
 rintro _ _ ⟨b1, rfl, rfl⟩
 refine oy rfl rfl (y_assign rfl) ?_
 refine ops_nil ?_
 refine goes_code ?_
 obtain ⟨o2, h, ho3⟩ := bindJ_some h
 refine run_cut ((Unit) × (Unit)) (fun σ => []) (fun σ => []) (fun σ => o2 = .go σ.1) (fun L5 hL4 => ?_) ?_
 ·
  refine run_seq ?_
  refine run_region' ?_
  refine oy rfl rfl (y_assign rfl) ?_
  refine ops_nil ?_
  refine goes_code ?_
  refine run_block ?_
  refine run_iter (step := ref42_hub_L1 m_0 n_1) (n := n) (s0 := 0) h (G := Unit) () (fun σ γ => [(1, .int .i64 n_1), (2, boxP b1 0), (5, .int .i64 σ)]) (fun σ γ => [box b1 [m_0_Hubsv, m_0_Routesv], ro m_0_Hubsv 3 (m_0.Hubs.map S_api_Hub.enc), nro m_0_Routesv NC_api_Route_82 m_0.Routes]) [2, 0, 1] (vcons rfl (vcons rfl (vcons rfl (vnil)))) (by decide) rfl ?_
  rintro i_6 _ o7 h L10 hgo8 hstop9
  change Run _ _ _ (VF.of [(1, .int .i64 n_1), (2, boxP b1 0), (5, .int .i64 i_6)]) [box b1 [m_0_Hubsv, m_0_Routesv], ro m_0_Hubsv 3 (m_0.Hubs.map S_api_Hub.enc), nro m_0_Routesv NC_api_Route_82 m_0.Routes]
  refine run_seq ?_
  refine run_seq ?_
  refine run_region' ?_
  refine oy rfl rfl (y_move rfl) ?_
  refine oy rfl rfl (y_fieldAddr_box (sz := 0) Try.runUnderlying25 rfl Try.sizeOf22 rfl) ?_
  refine oy rfl rfl (y_load_box 0 Try.isAgg22 rfl rfl rfl) ?_
  refine oy rfl rfl ((y_len 1 rfl Try.runUnderlying22 rfl rfl reads_ro).to (v_len S_api_Hub.enc _)) ?_
  refine oy rfl rfl (y_lss rfl rfl) ?_
  refine ops_nil ?_
  refine goes_code ?_
  refine run_cond (decide (i_6 < (m_0.Hubs.length : Int))) rfl (fun hc11 => ?_) (fun hc11 => ?_)
  ·replace h := cond_t h hc11
   refine run_skip ?_
   refine goes_code ?_
   refine run_seq ?_
   refine run_block ?_
   refine run_seq ?_
   refine run_region' ?_
   refine oy rfl rfl (y_fieldAddr_box (sz := 0) Try.runUnderlying25 rfl Try.sizeOf22 rfl) ?_
   refine oy rfl rfl (y_load_box 0 Try.isAgg22 rfl rfl rfl) ?_
   refine oy rfl rfl (y_move rfl) ?_
   obtain ⟨x12, hzx12, hlx12, hxx12, h⟩ := idx_some h
   refine oy rfl rfl (y_indexAddrI (kd := .i64) (i := i_6) 1 Try.runUnderlying22 Try.sizeOf52 rfl rfl rfl reads_ro hzx12 (map_lt hlx12)) ?_
   refine oy rfl rfl (y_fieldAddr_elem (sz := 0) Try.runUnderlying52 rfl Try.sizeOf3 rfl) ?_
   refine oy rfl rfl (y_load_field (i := i_6.toNat) (j := 0) 1 Try.isAgg3 rfl rfl reads_ro (map_get hxx12) rfl) ?_
   refine oy rfl rfl (y_move rfl) ?_
   refine oy rfl rfl (y_eql rfl rfl) ?_
   refine ops_nil ?_
   refine goes_code ?_
   refine run_cond (decide (x12.Site = n_1)) rfl (fun hc13 => ?_) (fun hc13 => ?_)
   ·replace h := cond_t h hc13
    refine run_seq ?_
    refine run_weak [(5, .int .i64 i_6)] [] [] (vcons rfl (vnil)) (by decide) rfl ?_
    refine run_region' ?_
    refine oy rfl rfl (y_move rfl) ?_
    refine oy rfl rfl (y_assign rfl) ?_
    refine ops_nil ?_
    refine goes_code ?_
    refine run_ret ?_
    obtain rfl := some_eq h
    obtain rfl := hstop9 _ rfl
    skip
    obtain rfl := after_stop ho3
    refine fin_slots [4] [.int .i64 i_6] [] [] Try.results38 rfl (by decide) rfl ?_
    exact ⟨rfl, rfl⟩
   ·replace h := cond_f h hc13
    refine run_skip ?_
    refine goes_blk ?_
    refine goes_code ?_
    refine run_weak [(1, .int .i64 n_1), (2, boxP b1 0), (5, .int .i64 i_6)] [0, 1, 2] [box b1 [m_0_Hubsv, m_0_Routesv], ro m_0_Hubsv 3 (m_0.Hubs.map S_api_Hub.enc), nro m_0_Routesv NC_api_Route_82 m_0.Routes] (vcons rfl (vcons rfl (vcons rfl (vnil)))) (by decide) rfl ?_
    refine run_region' ?_
    refine oy rfl rfl (y_move rfl) ?_
    refine oy rfl rfl (y_add rfl rfl) ?_
    refine oy rfl rfl (y_assign rfl) ?_
    refine ops_nil ?_
    obtain rfl := some_eq h
    exact goes_iter hgo8 (IntKind.i64.wrap (i_6 + 1)) () [0, 1, 2] rfl (vcons rfl (vcons rfl (vcons rfl (vnil)))) (by decide) rfl
  ·replace h := cond_f h hc11
   refine run_exit _ rfl ?_
   obtain rfl := some_eq h
   obtain rfl := hstop9 _ rfl
   exact goes_cut hL4 ((), ()) [] vnil (by decide) rfl rfl
 rintro ⟨_, _⟩ hj
 obtain rfl : o2 = _ := hj
 replace h := after_go ho3
 clear ho3
 change Run _ _ _ (VF.of []) []
 refine run_seq ?_
 refine run_region' ?_
 refine oy rfl rfl (y_assign rfl) ?_
 refine ops_nil ?_
 refine goes_code ?_
 refine run_ret ?_
 obtain rfl := some_eq h
 refine fin_slots [4] [.int .i64 (-1)] [] [] Try.results38 rfl (by decide) rfl ?_
 exact ⟨rfl, rfl⟩

def ref42_rooted_L1 (n : Nat) (m_0 : S_api_Map) : (Int × Int) → Option (Lp (Int × Int) (Lp (Unit) (Bool))) :=
 fun (n_6, k_7) =>
  cond (decide (k_7 ≤ (m_0.Hubs.length : Int)))
   (cond (decide (n_6 = (-1)))
    (some (.stop (.stop true)))
    (obind (ref42_hub n m_0 n_6) fun r14 =>
    cond (decide (r14 < 0))
     (some (.stop (.stop false)))
     (idx m_0.Hubs r14 fun x17 =>
     some (.go (x17.Parent, (IntKind.i64.wrap (k_7 + 1)))))))
   (some (.stop (.go ())))
def ref42_rooted (n : Nat) (m_0 : S_api_Map) (n_1 : Int) : Option (Bool) :=
 bindJ (S := Unit)
  (iter (ref42_rooted_L1 n m_0) n (n_1, 0))
 (fun _ =>
  some false)
theorem ref42_rooted_ok (n : Nat) (m_0 : S_api_Map) (n_1 : Int) (m_0_Hubsv : Value) (m_0_Routesv : Value) {r : Bool} (h : ref42_rooted n m_0 n_1 = some r) :
  Meets Try.prog 47 [.agg #[m_0_Hubsv, m_0_Routesv], .int .i64 n_1] [ro m_0_Hubsv 3 (m_0.Hubs.map S_api_Hub.enc), nro m_0_Routesv NC_api_Route_82 m_0.Routes] (fun v G => v = .bool r ∧ G = []) := by
 refine fn_of_run Try.func47 rfl Try.ntmps47 rfl (fun w0 o0 => ?_)
 refine run_seq ?_
 refine run_region' ?_
 refine ot rfl rfl (t_box rfl) ?_
 rintro _ _ ⟨b1, rfl, rfl⟩
 refine oy rfl rfl (y_assign rfl) ?_
 refine ops_nil ?_
 refine goes_code ?_
 obtain ⟨o2, h, ho3⟩ := bindJ_some h
 refine run_cut ((Unit) × (Unit)) (fun σ => []) (fun σ => []) (fun σ => o2 = .go σ.1) (fun L5 hL4 => ?_) ?_
 ·
  refine run_seq ?_
  refine run_region' ?_
  refine oy rfl rfl (y_assign rfl) ?_
  refine ops_nil ?_
  refine goes_code ?_
  refine run_block ?_
  refine run_iter (step := ref42_rooted_L1 n m_0) (n := n) (s0 := (n_1, 0)) h (G := Unit) () (fun σ γ => [(1, .int .i64 σ.1), (2, boxP b1 0), (5, .int .i64 σ.2)]) (fun σ γ => [box b1 [m_0_Hubsv, m_0_Routesv], ro m_0_Hubsv 3 (m_0.Hubs.map S_api_Hub.enc), nro m_0_Routesv NC_api_Route_82 m_0.Routes]) [2, 0, 1] (vcons rfl (vcons rfl (vcons rfl (vnil)))) (by decide) rfl ?_
  rintro ⟨n_6, k_7⟩ _ o8 h L11 hgo9 hstop10
  change Run _ _ _ (VF.of [(1, .int .i64 n_6), (2, boxP b1 0), (5, .int .i64 k_7)]) [box b1 [m_0_Hubsv, m_0_Routesv], ro m_0_Hubsv 3 (m_0.Hubs.map S_api_Hub.enc), nro m_0_Routesv NC_api_Route_82 m_0.Routes]
  refine run_seq ?_
  refine run_seq ?_
  refine run_region' ?_
  refine oy rfl rfl (y_move rfl) ?_
  refine oy rfl rfl (y_fieldAddr_box (sz := 0) Try.runUnderlying25 rfl Try.sizeOf22 rfl) ?_
  refine oy rfl rfl (y_load_box 0 Try.isAgg22 rfl rfl rfl) ?_
  refine oy rfl rfl ((y_len 1 rfl Try.runUnderlying22 rfl rfl reads_ro).to (v_len S_api_Hub.enc _)) ?_
  refine oy rfl rfl (y_leq rfl rfl) ?_
  refine ops_nil ?_
  refine goes_code ?_
  refine run_cond (decide (k_7 ≤ (m_0.Hubs.length : Int))) rfl (fun hc12 => ?_) (fun hc12 => ?_)
  ·replace h := cond_t h hc12
   refine run_skip ?_
   refine goes_code ?_
   refine run_seq ?_
   refine run_block ?_
   refine run_seq ?_
   refine run_seq ?_
   refine run_region' ?_
   refine oy rfl rfl (y_move rfl) ?_
   refine oy rfl rfl (y_eql rfl rfl) ?_
   refine ops_nil ?_
   refine goes_code ?_
   refine run_cond (decide (n_6 = (-1))) rfl (fun hc13 => ?_) (fun hc13 => ?_)
   ·replace h := cond_t h hc13
    refine run_seq ?_
    refine run_region' ?_
    refine oy rfl rfl (y_assign rfl) ?_
    refine ops_nil ?_
    refine goes_code ?_
    refine run_ret ?_
    obtain rfl := some_eq h
    obtain rfl := hstop10 _ rfl
    skip
    obtain rfl := after_stop ho3
    refine fin_slots [4] [.bool true] [] [] Try.results47 rfl (by decide) rfl ?_
    exact ⟨rfl, rfl⟩
   ·replace h := cond_f h hc13
    refine run_skip ?_
    refine goes_code ?_
    refine run_seq ?_
    refine run_region' ?_
    refine oy rfl rfl (y_load_boxagg (c := [m_0_Hubsv, m_0_Routesv]) 0 Try.isAgg25 Try.sizeOf25 rfl rfl rfl) ?_
    refine oy rfl rfl (y_move rfl) ?_
    obtain ⟨r14, hr15, h⟩ := obind_some h
    refine ot rfl rfl (t_callx (vs := [.agg #[m_0_Hubsv, m_0_Routesv], .int .i64 n_6]) (cs := []) [(1, 0), (2, 0)] rfl Try.call38 rfl (ref42_hub_ok n m_0 n_6 m_0_Hubsv m_0_Routesv hr15) (showsX_view 1 rfl views_ro (showsX_view 2 rfl views_nro showsX_nil)) rfl (.inl rfl)) ?_
    rintro _ _ ⟨_, ⟨rfl, rfl⟩, rfl⟩
    refine oy rfl rfl (y_assign rfl) ?_
    refine ops_nil ?_
    refine goes_code ?_
    refine run_seq ?_
    refine run_seq ?_
    refine run_weak [(2, boxP b1 0), (5, .int .i64 k_7), (6, .int .i64 r14)] [0, 1, 2] [box b1 [m_0_Hubsv, m_0_Routesv], ro m_0_Hubsv 3 (m_0.Hubs.map S_api_Hub.enc), nro m_0_Routesv NC_api_Route_82 m_0.Routes] (vcons rfl (vcons rfl (vcons rfl (vnil)))) (by decide) rfl ?_
    refine run_region' ?_
    refine oy rfl rfl (y_move rfl) ?_
    refine oy rfl rfl (y_lss rfl rfl) ?_
    refine ops_nil ?_
    refine goes_code ?_
    refine run_cond (decide (r14 < 0)) rfl (fun hc16 => ?_) (fun hc16 => ?_)
    ·replace h := cond_t h hc16
     refine run_seq ?_
     refine run_region' ?_
     refine oy rfl rfl (y_assign rfl) ?_
     refine ops_nil ?_
     refine goes_code ?_
     refine run_ret ?_
     obtain rfl := some_eq h
     obtain rfl := hstop10 _ rfl
     skip
     obtain rfl := after_stop ho3
     refine fin_slots [4] [.bool false] [] [] Try.results47 rfl (by decide) rfl ?_
     exact ⟨rfl, rfl⟩
    ·replace h := cond_f h hc16
     refine run_skip ?_
     refine goes_code ?_
     refine run_region' ?_
     refine oy rfl rfl (y_fieldAddr_box (sz := 0) Try.runUnderlying25 rfl Try.sizeOf22 rfl) ?_
     refine oy rfl rfl (y_load_box 0 Try.isAgg22 rfl rfl rfl) ?_
     refine oy rfl rfl (y_move rfl) ?_
     obtain ⟨x17, hzx17, hlx17, hxx17, h⟩ := idx_some h
     refine oy rfl rfl (y_indexAddrI (kd := .i64) (i := r14) 1 Try.runUnderlying22 Try.sizeOf52 rfl rfl rfl reads_ro hzx17 (map_lt hlx17)) ?_
     refine oy rfl rfl (y_fieldAddr_elem (sz := 0) Try.runUnderlying52 rfl Try.sizeOf3 rfl) ?_
     refine oy rfl rfl (y_load_field (i := r14.toNat) (j := 1) 1 Try.isAgg3 rfl rfl reads_ro (map_get hxx17) rfl) ?_
     refine oy rfl rfl (y_assign rfl) ?_
     refine ops_nil ?_
     refine goes_blk ?_
     refine goes_code ?_
     refine run_weak [(2, boxP b1 0), (5, .int .i64 k_7), (1, .int .i64 x17.Parent)] [0, 1, 2] [box b1 [m_0_Hubsv, m_0_Routesv], ro m_0_Hubsv 3 (m_0.Hubs.map S_api_Hub.enc), nro m_0_Routesv NC_api_Route_82 m_0.Routes] (vcons rfl (vcons rfl (vcons rfl (vnil)))) (by decide) rfl ?_
     refine run_region' ?_
     refine oy rfl rfl (y_move rfl) ?_
     refine oy rfl rfl (y_add rfl rfl) ?_
     refine oy rfl rfl (y_assign rfl) ?_
     refine ops_nil ?_
     obtain rfl := some_eq h
     exact goes_iter hgo9 (x17.Parent, (IntKind.i64.wrap (k_7 + 1))) () [0, 1, 2] rfl (vcons rfl (vcons rfl (vcons rfl (vnil)))) (by decide) rfl
  ·replace h := cond_f h hc12
   refine run_exit _ rfl ?_
   obtain rfl := some_eq h
   obtain rfl := hstop10 _ rfl
   exact goes_cut hL4 ((), ()) [] vnil (by decide) rfl rfl
 rintro ⟨_, _⟩ hj
 obtain rfl : o2 = _ := hj
 replace h := after_go ho3
 clear ho3
 change Run _ _ _ (VF.of []) []
 refine run_seq ?_
 refine run_region' ?_
 refine oy rfl rfl (y_assign rfl) ?_
 refine ops_nil ?_
 refine goes_code ?_
 refine run_ret ?_
 obtain rfl := some_eq h
 refine fin_slots [4] [.bool false] [] [] Try.results47 rfl (by decide) rfl ?_
 exact ⟨rfl, rfl⟩

def ref42_country (s_0 : (List UInt8)) : Option (Bool) :=
 bindJ (S := Bool)
  (cond (decide ((s_0.length : Int) = 2))
   (idx s_0 0 fun c7 =>
   some (.go (decide (97 ≤ (c7.toNat : Int)))))
   (some (.go false)))
 (fun b1 =>
  bindJ (S := Bool)
   (cond b1
    (idx s_0 0 fun c14 =>
    some (.go (decide ((c14.toNat : Int) ≤ 122))))
    (some (.go false)))
  (fun b8 =>
   bindJ (S := Bool)
    (cond b8
     (idx s_0 1 fun c21 =>
     some (.go (decide (97 ≤ (c21.toNat : Int)))))
     (some (.go false)))
   (fun b15 =>
    bindJ (S := Bool)
     (cond b15
      (idx s_0 1 fun c28 =>
      some (.go (decide ((c28.toNat : Int) ≤ 122))))
      (some (.go false)))
    (fun b22 =>
     some b22))))
theorem ref42_country_ok (s_0 : (List UInt8))  {r : Bool} (h : ref42_country s_0 = some r) :
  Meets Try.prog 48 [.string (bs s_0)] [] (fun v G => v = .bool r ∧ G = []) := by
 refine fn_of_run Try.func48 rfl Try.ntmps48 rfl (fun w0 o0 => ?_)
 refine run_seq ?_
 refine run_region' ?_
 refine oy rfl rfl (y_assign rfl) ?_
 refine ops_nil ?_
 refine goes_code ?_
 refine run_seq ?_
 refine run_region' ?_
 refine oy rfl rfl (y_move rfl) ?_
 refine oy rfl rfl (y_len_str rfl Try.runUnderlying9 rfl) ?_
 refine oy rfl rfl (y_eql rfl rfl) ?_
 refine oy rfl rfl (y_move rfl) ?_
 obtain ⟨o2, h, ho3⟩ := bindJ_some h
 refine ops_cut 4 (Bool) (fun σ => [(0, .string (bs s_0)), (10, .bool σ)]) (fun σ => []) (fun σ => o2 = .go σ) (fun L4 hL5 => ?_) ?_
 ·refine ops_split 6 (decide ((s_0.length : Int) = 2)) rfl (fun hg6 => ?_) (fun hg6 => ?_)
  ·replace h := cond_t h hg6
   refine ops_y (wg 3 true 6 rfl rfl rfl rfl) rfl (y_move rfl) ?_
   obtain ⟨c7, hzc7, hlc7, hxc7, h⟩ := idx_some h
   refine ops_y (wg 3 true 6 rfl rfl rfl rfl) rfl (y_index_strI (kd := .i64) (i := 0) Try.runUnderlying9 rfl rfl hzc7 hxc7) ?_
   refine ops_y (wg 3 true 6 rfl rfl rfl rfl) rfl (y_geq rfl rfl) ?_
   refine oy rfl rfl (y_pick (b := true) rfl rfl) ?_
   refine ops_nil ?_
   obtain rfl := some_eq h
   exact goes_cut hL5 (decide (97 ≤ (c7.toNat : Int))) [] (vcons rfl (vcons rfl (vnil))) (by decide) rfl rfl
  ·replace h := cond_f h hg6
   refine ops_no 3 true 6 rfl rfl rfl rfl rfl ?_
   refine ops_no 3 true 6 rfl rfl rfl rfl rfl ?_
   refine ops_no 3 true 6 rfl rfl rfl rfl rfl ?_
   refine oy rfl rfl (y_pick (b := false) rfl rfl) ?_
   refine ops_nil ?_
   obtain rfl := some_eq h
   exact goes_cut hL5 false [] (vcons rfl (vcons rfl (vnil))) (by decide) rfl rfl
 rintro b1 hj
 obtain rfl : o2 = _ := hj
 replace h := after_go ho3
 clear ho3
 refine oy rfl rfl (y_move rfl) ?_
 obtain ⟨o9, h, ho10⟩ := bindJ_some h
 refine ops_cut 4 (Bool) (fun σ => [(0, .string (bs s_0)), (15, .bool σ)]) (fun σ => []) (fun σ => o9 = .go σ) (fun L11 hL12 => ?_) ?_
 ·refine ops_split 11 b1 rfl (fun hg13 => ?_) (fun hg13 => ?_)
  ·replace h := cond_t h hg13
   refine ops_y (wg 8 true 11 rfl rfl rfl rfl) rfl (y_move rfl) ?_
   obtain ⟨c14, hzc14, hlc14, hxc14, h⟩ := idx_some h
   refine ops_y (wg 8 true 11 rfl rfl rfl rfl) rfl (y_index_strI (kd := .i64) (i := 0) Try.runUnderlying9 rfl rfl hzc14 hxc14) ?_
   refine ops_y (wg 8 true 11 rfl rfl rfl rfl) rfl (y_leq rfl rfl) ?_
   refine oy rfl rfl (y_pick (b := true) rfl rfl) ?_
   refine ops_nil ?_
   obtain rfl := some_eq h
   exact goes_cut hL12 (decide ((c14.toNat : Int) ≤ 122)) [] (vcons rfl (vcons rfl (vnil))) (by decide) rfl rfl
  ·replace h := cond_f h hg13
   refine ops_no 8 true 11 rfl rfl rfl rfl rfl ?_
   refine ops_no 8 true 11 rfl rfl rfl rfl rfl ?_
   refine ops_no 8 true 11 rfl rfl rfl rfl rfl ?_
   refine oy rfl rfl (y_pick (b := false) rfl rfl) ?_
   refine ops_nil ?_
   obtain rfl := some_eq h
   exact goes_cut hL12 false [] (vcons rfl (vcons rfl (vnil))) (by decide) rfl rfl
 rintro b8 hj
 obtain rfl : o9 = _ := hj
 replace h := after_go ho10
 clear ho10
 refine oy rfl rfl (y_move rfl) ?_
 obtain ⟨o16, h, ho17⟩ := bindJ_some h
 refine ops_cut 4 (Bool) (fun σ => [(0, .string (bs s_0)), (20, .bool σ)]) (fun σ => []) (fun σ => o16 = .go σ) (fun L18 hL19 => ?_) ?_
 ·refine ops_split 16 b8 rfl (fun hg20 => ?_) (fun hg20 => ?_)
  ·replace h := cond_t h hg20
   refine ops_y (wg 13 true 16 rfl rfl rfl rfl) rfl (y_move rfl) ?_
   obtain ⟨c21, hzc21, hlc21, hxc21, h⟩ := idx_some h
   refine ops_y (wg 13 true 16 rfl rfl rfl rfl) rfl (y_index_strI (kd := .i64) (i := 1) Try.runUnderlying9 rfl rfl hzc21 hxc21) ?_
   refine ops_y (wg 13 true 16 rfl rfl rfl rfl) rfl (y_geq rfl rfl) ?_
   refine oy rfl rfl (y_pick (b := true) rfl rfl) ?_
   refine ops_nil ?_
   obtain rfl := some_eq h
   exact goes_cut hL19 (decide (97 ≤ (c21.toNat : Int))) [] (vcons rfl (vcons rfl (vnil))) (by decide) rfl rfl
  ·replace h := cond_f h hg20
   refine ops_no 13 true 16 rfl rfl rfl rfl rfl ?_
   refine ops_no 13 true 16 rfl rfl rfl rfl rfl ?_
   refine ops_no 13 true 16 rfl rfl rfl rfl rfl ?_
   refine oy rfl rfl (y_pick (b := false) rfl rfl) ?_
   refine ops_nil ?_
   obtain rfl := some_eq h
   exact goes_cut hL19 false [] (vcons rfl (vcons rfl (vnil))) (by decide) rfl rfl
 rintro b15 hj
 obtain rfl : o16 = _ := hj
 replace h := after_go ho17
 clear ho17
 refine oy rfl rfl (y_move rfl) ?_
 obtain ⟨o23, h, ho24⟩ := bindJ_some h
 refine ops_cut 4 (Bool) (fun σ => [(25, .bool σ)]) (fun σ => []) (fun σ => o23 = .go σ) (fun L25 hL26 => ?_) ?_
 ·refine ops_split 21 b15 rfl (fun hg27 => ?_) (fun hg27 => ?_)
  ·replace h := cond_t h hg27
   refine ops_y (wg 18 true 21 rfl rfl rfl rfl) rfl (y_move rfl) ?_
   obtain ⟨c28, hzc28, hlc28, hxc28, h⟩ := idx_some h
   refine ops_y (wg 18 true 21 rfl rfl rfl rfl) rfl (y_index_strI (kd := .i64) (i := 1) Try.runUnderlying9 rfl rfl hzc28 hxc28) ?_
   refine ops_y (wg 18 true 21 rfl rfl rfl rfl) rfl (y_leq rfl rfl) ?_
   refine oy rfl rfl (y_pick (b := true) rfl rfl) ?_
   refine ops_nil ?_
   obtain rfl := some_eq h
   exact goes_cut hL26 (decide ((c28.toNat : Int) ≤ 122)) [] (vcons rfl (vnil)) (by decide) rfl rfl
  ·replace h := cond_f h hg27
   refine ops_no 18 true 21 rfl rfl rfl rfl rfl ?_
   refine ops_no 18 true 21 rfl rfl rfl rfl rfl ?_
   refine ops_no 18 true 21 rfl rfl rfl rfl rfl ?_
   refine oy rfl rfl (y_pick (b := false) rfl rfl) ?_
   refine ops_nil ?_
   obtain rfl := some_eq h
   exact goes_cut hL26 false [] (vcons rfl (vnil)) (by decide) rfl rfl
 rintro b22 hj
 obtain rfl : o23 = _ := hj
 replace h := after_go ho24
 clear ho24
 refine oy rfl rfl (y_assign rfl) ?_
 refine ops_nil ?_
 refine goes_code ?_
 refine run_ret ?_
 obtain rfl := some_eq h
 refine fin_slots [2] [.bool b22] [] [] Try.results48 rfl (by decide) rfl ?_
 exact ⟨rfl, rfl⟩

def ref42_ValidMap_L1 (m_0 : S_api_Map) : (Int) → Option (Lp (Int) (Lp (Unit) (Bool))) :=
 fun i_6 =>
  cond (decide (i_6 < (m_0.Hubs.length : Int)))
   (idx m_0.Hubs i_6 fun x12 =>
   obind (ref42_site x12.Site) fun r13 =>
   bindJ (S := Bool)
    (cond (!r13)
     (some (.go true))
     (bindJ (S := Bool)
      (cond (decide (0 < i_6))
       (idx m_0.Hubs (IntKind.i64.wrap (i_6 - 1)) fun x27 =>
       some (.go (decide (x12.Site ≤ x27.Site))))
       (some (.go false)))
     (fun b21 =>
      some (.go b21))))
   (fun b15 =>
    cond b15
     (some (.stop (.stop false)))
     (some (.go (IntKind.i64.wrap (i_6 + 1))))))
   (some (.stop (.go ())))
def ref42_ValidMap_L2 (n : Nat) (m_0 : S_api_Map) : (Int) → Option (Lp (Int) (Lp (Unit) (Bool))) :=
 fun i_33 =>
  cond (decide (i_33 < (m_0.Hubs.length : Int)))
   (idx m_0.Hubs i_33 fun x39 =>
   obind (ref42_rooted n m_0 x39.Site) fun r40 =>
   cond (!r40)
    (some (.stop (.stop false)))
    (some (.go (IntKind.i64.wrap (i_33 + 1)))))
   (some (.stop (.go ())))
def ref42_ValidMap_L5 (x57 : S_api_Route) (k_84 : Int) : (Int) → Option (Lp (Int) (Lp (Unit) (Lp (Int) (Lp (Unit) (Lp (Int) (Lp (Unit) (Bool))))))) :=
 fun j_98 =>
  cond (decide (j_98 < k_84))
   (idx x57.Sites j_98 fun x104 =>
   idx x57.Sites k_84 fun x105 =>
   cond (decide (x104 = x105))
    (some (.stop (.stop (.stop (.stop (.stop (.stop false)))))))
    (some (.go (IntKind.i64.wrap (j_98 + 1)))))
   (some (.stop (.go ())))
def ref42_ValidMap_L4 (n : Nat) (m_0 : S_api_Map) (x57 : S_api_Route) : (Int) → Option (Lp (Int) (Lp (Unit) (Lp (Int) (Lp (Unit) (Bool))))) :=
 fun k_84 =>
  cond (decide (k_84 < (x57.Sites.length : Int)))
   (bindJ (S := Unit)
    (idx x57.Sites k_84 fun x94 =>
    obind (ref42_hub n m_0 x94) fun r95 =>
    cond (decide (r95 < 0))
     (some (.stop (.stop (.stop (.stop (.stop false))))))
     (iter (ref42_ValidMap_L5 x57 k_84) n 0))
   (fun _ =>
    some (.go (IntKind.i64.wrap (k_84 + 1)))))
   (some (.stop (.go ())))
def ref42_ValidMap_L3 (n : Nat) (m_0 : S_api_Map) : (Int) → Option (Lp (Int) (Lp (Unit) (Bool))) :=
 fun i_47 =>
  cond (decide (i_47 < (m_0.Routes.length : Int)))
   (bindJ (S := Unit)
    (idx m_0.Routes i_47 fun x57 =>
    bindJ (S := Bool)
     (cond (!decide (x57.Country = []))
      (obind (ref42_country x57.Country) fun r67 =>
      some (.go (!r67)))
      (some (.go false)))
    (fun b61 =>
     bindJ (S := Bool)
      (cond b61
       (some (.go true))
       (bindJ (S := Bool)
        (cond (decide (0 < i_47))
         (idx m_0.Routes (IntKind.i64.wrap (i_47 - 1)) fun x81 =>
         some (.go (strLt x57.Country x81.Country || decide (x57.Country = x81.Country))))
         (some (.go false)))
       (fun b75 =>
        some (.go b75))))
     (fun b69 =>
      cond b69
       (some (.stop (.stop (.stop false))))
       (iter (ref42_ValidMap_L4 n m_0 x57) n 0))))
   (fun _ =>
    some (.go (IntKind.i64.wrap (i_47 + 1)))))
   (some (.stop (.go ())))
def ref42_ValidMap (n : Nat) (m_0 : S_api_Map) : Option (Bool) :=
 bindJ (S := Unit)
  (iter (ref42_ValidMap_L1 m_0) n 0)
 (fun _ =>
  bindJ (S := Unit)
   (iter (ref42_ValidMap_L2 n m_0) n 0)
  (fun _ =>
   bindJ (S := Unit)
    (iter (ref42_ValidMap_L3 n m_0) n 0)
   (fun _ =>
    some (decide ((m_0.Routes.length : Int) ≤ 1000)))))
theorem ref42_ValidMap_ok (n : Nat) (m_0 : S_api_Map) (m_0_Hubsv : Value) (m_0_Routesv : Value) {r : Bool} (h : ref42_ValidMap n m_0 = some r) :
  Meets Try.prog 18 [.agg #[m_0_Hubsv, m_0_Routesv]] [ro m_0_Hubsv 3 (m_0.Hubs.map S_api_Hub.enc), nro m_0_Routesv NC_api_Route_82 m_0.Routes] (fun v G => v = .bool r ∧ G = []) := by
 refine fn_of_run Try.func18 rfl Try.ntmps18 rfl (fun w0 o0 => ?_)
 refine run_seq ?_
 refine run_region' ?_
 refine ot rfl rfl (t_box rfl) ?_
 rintro _ _ ⟨b1, rfl, rfl⟩
 refine oy rfl rfl (y_assign rfl) ?_
 refine ops_nil ?_
 refine goes_code ?_
 obtain ⟨o2, h, ho3⟩ := bindJ_some h
 refine run_cut ((Unit) × (Unit)) (fun σ => [(1, boxP b1 0)]) (fun σ => [box b1 [m_0_Hubsv, m_0_Routesv], ro m_0_Hubsv 3 (m_0.Hubs.map S_api_Hub.enc), nro m_0_Routesv NC_api_Route_82 m_0.Routes]) (fun σ => o2 = .go σ.1) (fun L5 hL4 => ?_) ?_
 ·
  refine run_seq ?_
  refine run_region' ?_
  refine oy rfl rfl (y_assign rfl) ?_
  refine ops_nil ?_
  refine goes_code ?_
  refine run_block ?_
  refine run_iter (step := ref42_ValidMap_L1 m_0) (n := n) (s0 := 0) h (G := Unit) () (fun σ γ => [(1, boxP b1 0), (3, .int .i64 σ)]) (fun σ γ => [box b1 [m_0_Hubsv, m_0_Routesv], ro m_0_Hubsv 3 (m_0.Hubs.map S_api_Hub.enc), nro m_0_Routesv NC_api_Route_82 m_0.Routes]) [2, 0, 1] (vcons rfl (vcons rfl (vnil))) (by decide) rfl ?_
  rintro i_6 _ o7 h L10 hgo8 hstop9
  change Run _ _ _ (VF.of [(1, boxP b1 0), (3, .int .i64 i_6)]) [box b1 [m_0_Hubsv, m_0_Routesv], ro m_0_Hubsv 3 (m_0.Hubs.map S_api_Hub.enc), nro m_0_Routesv NC_api_Route_82 m_0.Routes]
  refine run_seq ?_
  refine run_seq ?_
  refine run_region' ?_
  refine oy rfl rfl (y_move rfl) ?_
  refine oy rfl rfl (y_fieldAddr_box (sz := 0) Try.runUnderlying25 rfl Try.sizeOf22 rfl) ?_
  refine oy rfl rfl (y_load_box 0 Try.isAgg22 rfl rfl rfl) ?_
  refine oy rfl rfl ((y_len 1 rfl Try.runUnderlying22 rfl rfl reads_ro).to (v_len S_api_Hub.enc _)) ?_
  refine oy rfl rfl (y_lss rfl rfl) ?_
  refine ops_nil ?_
  refine goes_code ?_
  refine run_cond (decide (i_6 < (m_0.Hubs.length : Int))) rfl (fun hc11 => ?_) (fun hc11 => ?_)
  ·replace h := cond_t h hc11
   refine run_skip ?_
   refine goes_code ?_
   refine run_seq ?_
   refine run_block ?_
   refine run_seq ?_
   refine run_drawany [box b1 [m_0_Hubsv, m_0_Routesv], ro m_0_Hubsv 3 (m_0.Hubs.map S_api_Hub.enc), nro m_0_Routesv NC_api_Route_82 m_0.Routes] (by kernel_rfl) ?_
   refine any_y 0 rfl (by kernel_rfl) (by kernel_rfl) (by kernel_rfl) (ss (ss (ss (sn)))) (wn rfl) rfl (y_fieldAddr_box (sz := 0) Try.runUnderlying25 rfl Try.sizeOf22 rfl) ?_
   refine any_y 1 rfl (by kernel_rfl) (by kernel_rfl) (by kernel_rfl) (ss (ss (ss (sn)))) (wn rfl) rfl (y_load_box 0 Try.isAgg22 rfl rfl rfl) ?_
   refine any_y 2 rfl (by kernel_rfl) (by kernel_rfl) (by kernel_rfl) (ss (ss (ss (sn)))) (wn rfl) rfl (y_move rfl) ?_
   obtain ⟨x12, hzx12, hlx12, hxx12, h⟩ := idx_some h
   refine any_y 3 rfl (by kernel_rfl) (by kernel_rfl) (by kernel_rfl) (ss (ss (ss (sn)))) (wn rfl) rfl (y_indexAddrI (kd := .i64) (i := i_6) 1 Try.runUnderlying22 Try.sizeOf52 rfl rfl rfl reads_ro hzx12 (map_lt hlx12)) ?_
   refine any_y 4 rfl (by kernel_rfl) (by kernel_rfl) (by kernel_rfl) (ss (ss (ss (sn)))) (wn rfl) rfl (y_fieldAddr_elem (sz := 0) Try.runUnderlying52 rfl Try.sizeOf3 rfl) ?_
   refine any_y 5 rfl (by kernel_rfl) (by kernel_rfl) (by kernel_rfl) (ss (ss (ss (sn)))) (wn rfl) rfl (y_load_field (i := i_6.toNat) (j := 0) 1 Try.isAgg3 rfl rfl reads_ro (map_get hxx12) rfl) ?_
   refine any_all [6] (by kernel_rfl) rfl (anyo_cons ?_ anyo_nil)
   obtain ⟨r13, hr14, h⟩ := obind_some h
   refine any_t rfl (wn rfl) rfl (t_callx (vs := [.int .i64 x12.Site]) (cs := []) [] rfl Try.call46 rfl (ref42_site_ok x12.Site  hr14) showsX_nil rfl (.inl rfl)) ?_
   rintro _ _ ⟨_, ⟨rfl, rfl⟩, rfl⟩
   refine ⟨(ss (ss (ss (sn)))), ?_⟩
   refine any_y 7 rfl (by kernel_rfl) (by kernel_rfl) (by kernel_rfl) (ss (ss (ss (sn)))) (wn rfl) rfl (y_not rfl) ?_
   refine any_y 8 rfl (by kernel_rfl) (by kernel_rfl) (by kernel_rfl) (ss (ss (ss (sn)))) (wn rfl) rfl (y_move rfl) ?_
   obtain ⟨o16, h, ho17⟩ := bindJ_some h
   refine any_cut #[true, true, true, true, true, true, true, true, true, true, true, true, true, true, true, true, true, true, true, true, true, true, true, true, true, true, true, true] 0 Bool (fun σ => [(1, boxP b1 0), (3, .int .i64 i_6), (43, .bool σ)]) (fun σ => [box b1 [m_0_Hubsv, m_0_Routesv], ro m_0_Hubsv 3 (m_0.Hubs.map S_api_Hub.enc), nro m_0_Routesv NC_api_Route_82 m_0.Routes]) (fun σ => o16 = .go σ) (fun hL19 => ?_) ?_
   ·refine any_split 24 (!r13) rfl (fun hg20 => ?_) (fun hg20 => ?_)
    ·replace h := cond_t h hg20
     refine any_no 9 rfl (by kernel_rfl) (by kernel_rfl) (by kernel_rfl) (ss (ss (ss (sn)))) 8 false 24 rfl rfl rfl rfl rfl ?_
     refine any_no 10 rfl (by kernel_rfl) (by kernel_rfl) (by kernel_rfl) (ss (ss (ss (sn)))) 8 false 24 rfl rfl rfl rfl rfl ?_
     refine any_no 11 rfl (by kernel_rfl) (by kernel_rfl) (by kernel_rfl) (ss (ss (ss (sn)))) 8 false 24 rfl rfl rfl rfl rfl ?_
     refine any_un 12 rfl (by kernel_rfl) (by kernel_rfl) (by kernel_rfl) (ss (ss (ss (sn)))) 11 true 27 rfl rfl rfl rfl rfl ?_
     refine any_un 13 rfl (by kernel_rfl) (by kernel_rfl) (by kernel_rfl) (ss (ss (ss (sn)))) 11 true 27 rfl rfl rfl rfl rfl ?_
     refine any_un 14 rfl (by kernel_rfl) (by kernel_rfl) (by kernel_rfl) (ss (ss (ss (sn)))) 11 true 27 rfl rfl rfl rfl rfl ?_
     refine any_un 15 rfl (by kernel_rfl) (by kernel_rfl) (by kernel_rfl) (ss (ss (ss (sn)))) 11 true 27 rfl rfl rfl rfl rfl ?_
     refine any_un 16 rfl (by kernel_rfl) (by kernel_rfl) (by kernel_rfl) (ss (ss (ss (sn)))) 11 true 27 rfl rfl rfl rfl rfl ?_
     refine any_un 17 rfl (by kernel_rfl) (by kernel_rfl) (by kernel_rfl) (ss (ss (ss (sn)))) 11 true 27 rfl rfl rfl rfl rfl ?_
     refine any_un 18 rfl (by kernel_rfl) (by kernel_rfl) (by kernel_rfl) (ss (ss (ss (sn)))) 11 true 27 rfl rfl rfl rfl rfl ?_
     refine any_un 19 rfl (by kernel_rfl) (by kernel_rfl) (by kernel_rfl) (ss (ss (ss (sn)))) 11 true 27 rfl rfl rfl rfl rfl ?_
     refine any_un 20 rfl (by kernel_rfl) (by kernel_rfl) (by kernel_rfl) (ss (ss (ss (sn)))) 11 true 27 rfl rfl rfl rfl rfl ?_
     refine any_un 21 rfl (by kernel_rfl) (by kernel_rfl) (by kernel_rfl) (ss (ss (ss (sn)))) 11 true 27 rfl rfl rfl rfl rfl ?_
     refine any_un 22 rfl (by kernel_rfl) (by kernel_rfl) (by kernel_rfl) (ss (ss (ss (sn)))) 11 true 27 rfl rfl rfl rfl rfl ?_
     refine any_un 23 rfl (by kernel_rfl) (by kernel_rfl) (by kernel_rfl) (ss (ss (ss (sn)))) 11 true 27 rfl rfl rfl rfl rfl ?_
     refine any_un 24 rfl (by kernel_rfl) (by kernel_rfl) (by kernel_rfl) (ss (ss (ss (sn)))) 11 true 27 rfl rfl rfl rfl rfl ?_
     refine any_un 25 rfl (by kernel_rfl) (by kernel_rfl) (by kernel_rfl) (ss (ss (ss (sn)))) 11 true 27 rfl rfl rfl rfl rfl ?_
     refine any_no 26 rfl (by kernel_rfl) (by kernel_rfl) (by kernel_rfl) (ss (ss (ss (sn)))) 8 false 24 rfl rfl rfl rfl rfl ?_
     refine any_y 27 rfl (by kernel_rfl) (by kernel_rfl) (by kernel_rfl) (ss (ss (ss (sn)))) (wn rfl) rfl (y_pick (b := true) rfl rfl) ?_
     obtain rfl := some_eq h
     exact any_weak [(1, boxP b1 0), (3, .int .i64 i_6), (43, .bool true)] [0, 1, 2] [box b1 [m_0_Hubsv, m_0_Routesv], ro m_0_Hubsv 3 (m_0.Hubs.map S_api_Hub.enc), nro m_0_Routesv NC_api_Route_82 m_0.Routes] (by kernel_rfl) (vcons rfl (vcons rfl (vcons rfl (vnil)))) (by decide) rfl (hL19 true rfl)
    ·replace h := cond_f h hg20
     refine any_y 9 rfl (by kernel_rfl) (by kernel_rfl) (by kernel_rfl) (ss (ss (ss (sn)))) (wg 8 false 24 rfl rfl rfl rfl) rfl (y_move rfl) ?_
     refine any_y 10 rfl (by kernel_rfl) (by kernel_rfl) (by kernel_rfl) (ss (ss (ss (sn)))) (wg 8 false 24 rfl rfl rfl rfl) rfl (y_gtr rfl rfl) ?_
     refine any_y 11 rfl (by kernel_rfl) (by kernel_rfl) (by kernel_rfl) (ss (ss (ss (sn)))) (wg 8 false 24 rfl rfl rfl rfl) rfl (y_move rfl) ?_
     obtain ⟨o22, h, ho23⟩ := bindJ_some h
     refine any_cut #[true, true, true, true, true, true, true, true, true, true, true, true, true, true, true, true, true, true, true, true, true, true, true, true, true, true, true, false] 1 Bool (fun σ => [(1, boxP b1 0), (3, .int .i64 i_6), (24, .bool false), (42, .bool σ)]) (fun σ => [box b1 [m_0_Hubsv, m_0_Routesv], ro m_0_Hubsv 3 (m_0.Hubs.map S_api_Hub.enc), nro m_0_Routesv NC_api_Route_82 m_0.Routes]) (fun σ => o22 = .go σ) (fun hL25 => ?_) ?_
     ·refine any_split 27 (decide (0 < i_6)) rfl (fun hg26 => ?_) (fun hg26 => ?_)
      ·replace h := cond_t h hg26
       refine any_y 12 rfl (by kernel_rfl) (by kernel_rfl) (by kernel_rfl) (ss (ss (ss (sn)))) (wg 11 true 27 rfl rfl rfl rfl) rfl (y_fieldAddr_box (sz := 0) Try.runUnderlying25 rfl Try.sizeOf22 rfl) ?_
       refine any_y 13 rfl (by kernel_rfl) (by kernel_rfl) (by kernel_rfl) (ss (ss (ss (sn)))) (wg 11 true 27 rfl rfl rfl rfl) rfl (y_load_box 0 Try.isAgg22 rfl rfl rfl) ?_
       refine any_y 14 rfl (by kernel_rfl) (by kernel_rfl) (by kernel_rfl) (ss (ss (ss (sn)))) (wg 11 true 27 rfl rfl rfl rfl) rfl (y_move rfl) ?_
       refine any_y 15 rfl (by kernel_rfl) (by kernel_rfl) (by kernel_rfl) (ss (ss (ss (sn)))) (wg 11 true 27 rfl rfl rfl rfl) rfl (y_indexAddrI (kd := .i64) (i := i_6) 1 Try.runUnderlying22 Try.sizeOf52 rfl rfl rfl reads_ro hzx12 (map_lt hlx12)) ?_
       refine any_y 16 rfl (by kernel_rfl) (by kernel_rfl) (by kernel_rfl) (ss (ss (ss (sn)))) (wg 11 true 27 rfl rfl rfl rfl) rfl (y_fieldAddr_elem (sz := 0) Try.runUnderlying52 rfl Try.sizeOf3 rfl) ?_
       refine any_y 17 rfl (by kernel_rfl) (by kernel_rfl) (by kernel_rfl) (ss (ss (ss (sn)))) (wg 11 true 27 rfl rfl rfl rfl) rfl (y_load_field (i := i_6.toNat) (j := 0) 1 Try.isAgg3 rfl rfl reads_ro (map_get hxx12) rfl) ?_
       refine any_y 18 rfl (by kernel_rfl) (by kernel_rfl) (by kernel_rfl) (ss (ss (ss (sn)))) (wg 11 true 27 rfl rfl rfl rfl) rfl (y_fieldAddr_box (sz := 0) Try.runUnderlying25 rfl Try.sizeOf22 rfl) ?_
       refine any_y 19 rfl (by kernel_rfl) (by kernel_rfl) (by kernel_rfl) (ss (ss (ss (sn)))) (wg 11 true 27 rfl rfl rfl rfl) rfl (y_load_box 0 Try.isAgg22 rfl rfl rfl) ?_
       refine any_y 20 rfl (by kernel_rfl) (by kernel_rfl) (by kernel_rfl) (ss (ss (ss (sn)))) (wg 11 true 27 rfl rfl rfl rfl) rfl (y_move rfl) ?_
       refine any_y 21 rfl (by kernel_rfl) (by kernel_rfl) (by kernel_rfl) (ss (ss (ss (sn)))) (wg 11 true 27 rfl rfl rfl rfl) rfl (y_sub rfl rfl) ?_
       obtain ⟨x27, hzx27, hlx27, hxx27, h⟩ := idx_some h
       refine any_y 22 rfl (by kernel_rfl) (by kernel_rfl) (by kernel_rfl) (ss (ss (ss (sn)))) (wg 11 true 27 rfl rfl rfl rfl) rfl (y_indexAddrI (kd := .i64) (i := (IntKind.i64.wrap (i_6 - 1))) 1 Try.runUnderlying22 Try.sizeOf52 rfl rfl rfl reads_ro hzx27 (map_lt hlx27)) ?_
       refine any_y 23 rfl (by kernel_rfl) (by kernel_rfl) (by kernel_rfl) (ss (ss (ss (sn)))) (wg 11 true 27 rfl rfl rfl rfl) rfl (y_fieldAddr_elem (sz := 0) Try.runUnderlying52 rfl Try.sizeOf3 rfl) ?_
       refine any_y 24 rfl (by kernel_rfl) (by kernel_rfl) (by kernel_rfl) (ss (ss (ss (sn)))) (wg 11 true 27 rfl rfl rfl rfl) rfl (y_load_field (i := ((IntKind.i64.wrap (i_6 - 1))).toNat) (j := 0) 1 Try.isAgg3 rfl rfl reads_ro (map_get hxx27) rfl) ?_
       refine any_y 25 rfl (by kernel_rfl) (by kernel_rfl) (by kernel_rfl) (ss (ss (ss (sn)))) (wg 11 true 27 rfl rfl rfl rfl) rfl (y_leq rfl rfl) ?_
       refine any_y 26 rfl (by kernel_rfl) (by kernel_rfl) (by kernel_rfl) (ss (ss (ss (sn)))) (wg 8 false 24 rfl rfl rfl rfl) rfl (y_pick (b := true) rfl rfl) ?_
       obtain rfl := some_eq h
       exact any_weak [(1, boxP b1 0), (3, .int .i64 i_6), (24, .bool false), (42, .bool (decide (x12.Site ≤ x27.Site)))] [0, 1, 2] [box b1 [m_0_Hubsv, m_0_Routesv], ro m_0_Hubsv 3 (m_0.Hubs.map S_api_Hub.enc), nro m_0_Routesv NC_api_Route_82 m_0.Routes] (by kernel_rfl) (vcons rfl (vcons rfl (vcons rfl (vcons rfl (vnil))))) (by decide) rfl (hL25 (decide (x12.Site ≤ x27.Site)) rfl)
      ·replace h := cond_f h hg26
       refine any_no 12 rfl (by kernel_rfl) (by kernel_rfl) (by kernel_rfl) (ss (ss (ss (sn)))) 11 true 27 rfl rfl rfl rfl rfl ?_
       refine any_no 13 rfl (by kernel_rfl) (by kernel_rfl) (by kernel_rfl) (ss (ss (ss (sn)))) 11 true 27 rfl rfl rfl rfl rfl ?_
       refine any_no 14 rfl (by kernel_rfl) (by kernel_rfl) (by kernel_rfl) (ss (ss (ss (sn)))) 11 true 27 rfl rfl rfl rfl rfl ?_
       refine any_no 15 rfl (by kernel_rfl) (by kernel_rfl) (by kernel_rfl) (ss (ss (ss (sn)))) 11 true 27 rfl rfl rfl rfl rfl ?_
       refine any_no 16 rfl (by kernel_rfl) (by kernel_rfl) (by kernel_rfl) (ss (ss (ss (sn)))) 11 true 27 rfl rfl rfl rfl rfl ?_
       refine any_no 17 rfl (by kernel_rfl) (by kernel_rfl) (by kernel_rfl) (ss (ss (ss (sn)))) 11 true 27 rfl rfl rfl rfl rfl ?_
       refine any_no 18 rfl (by kernel_rfl) (by kernel_rfl) (by kernel_rfl) (ss (ss (ss (sn)))) 11 true 27 rfl rfl rfl rfl rfl ?_
       refine any_no 19 rfl (by kernel_rfl) (by kernel_rfl) (by kernel_rfl) (ss (ss (ss (sn)))) 11 true 27 rfl rfl rfl rfl rfl ?_
       refine any_no 20 rfl (by kernel_rfl) (by kernel_rfl) (by kernel_rfl) (ss (ss (ss (sn)))) 11 true 27 rfl rfl rfl rfl rfl ?_
       refine any_no 21 rfl (by kernel_rfl) (by kernel_rfl) (by kernel_rfl) (ss (ss (ss (sn)))) 11 true 27 rfl rfl rfl rfl rfl ?_
       refine any_no 22 rfl (by kernel_rfl) (by kernel_rfl) (by kernel_rfl) (ss (ss (ss (sn)))) 11 true 27 rfl rfl rfl rfl rfl ?_
       refine any_no 23 rfl (by kernel_rfl) (by kernel_rfl) (by kernel_rfl) (ss (ss (ss (sn)))) 11 true 27 rfl rfl rfl rfl rfl ?_
       refine any_no 24 rfl (by kernel_rfl) (by kernel_rfl) (by kernel_rfl) (ss (ss (ss (sn)))) 11 true 27 rfl rfl rfl rfl rfl ?_
       refine any_no 25 rfl (by kernel_rfl) (by kernel_rfl) (by kernel_rfl) (ss (ss (ss (sn)))) 11 true 27 rfl rfl rfl rfl rfl ?_
       refine any_y 26 rfl (by kernel_rfl) (by kernel_rfl) (by kernel_rfl) (ss (ss (ss (sn)))) (wg 8 false 24 rfl rfl rfl rfl) rfl (y_pick (b := false) rfl rfl) ?_
       obtain rfl := some_eq h
       exact any_weak [(1, boxP b1 0), (3, .int .i64 i_6), (24, .bool false), (42, .bool false)] [0, 1, 2] [box b1 [m_0_Hubsv, m_0_Routesv], ro m_0_Hubsv 3 (m_0.Hubs.map S_api_Hub.enc), nro m_0_Routesv NC_api_Route_82 m_0.Routes] (by kernel_rfl) (vcons rfl (vcons rfl (vcons rfl (vcons rfl (vnil))))) (by decide) rfl (hL25 false rfl)
     rintro b21 hj
     obtain rfl : o22 = _ := hj
     replace h := after_go ho23
     clear ho23
     refine any_y 27 rfl (by kernel_rfl) (by kernel_rfl) (by kernel_rfl) (ss (ss (ss (sn)))) (wn rfl) rfl (y_pick (b := false) rfl rfl) ?_
     obtain rfl := some_eq h
     exact any_weak [(1, boxP b1 0), (3, .int .i64 i_6), (43, .bool b21)] [0, 1, 2] [box b1 [m_0_Hubsv, m_0_Routesv], ro m_0_Hubsv 3 (m_0.Hubs.map S_api_Hub.enc), nro m_0_Routesv NC_api_Route_82 m_0.Routes] (by kernel_rfl) (vcons rfl (vcons rfl (vcons rfl (vnil)))) (by decide) rfl (hL19 b21 rfl)
   rintro b15 hj
   obtain rfl : o16 = _ := hj
   replace h := after_go ho17
   clear ho17
   refine any_nil (by kernel_rfl) ?_
   refine goes_code ?_
   refine run_cond b15 rfl (fun hc28 => ?_) (fun hc28 => ?_)
   ·replace h := cond_t h hc28
    refine run_seq ?_
    refine run_region' ?_
    refine oy rfl rfl (y_assign rfl) ?_
    refine ops_nil ?_
    refine goes_code ?_
    refine run_ret ?_
    obtain rfl := some_eq h
    obtain rfl := hstop9 _ rfl
    skip
    obtain rfl := after_stop ho3
    refine fin_slots [2] [.bool false] [] [] Try.results18 rfl (by decide) rfl ?_
    exact ⟨rfl, rfl⟩
   ·replace h := cond_f h hc28
    refine run_skip ?_
    refine goes_blk ?_
    refine goes_code ?_
    refine run_region' ?_
    refine oy rfl rfl (y_move rfl) ?_
    refine oy rfl rfl (y_add rfl rfl) ?_
    refine oy rfl rfl (y_assign rfl) ?_
    refine ops_nil ?_
    obtain rfl := some_eq h
    exact goes_iter hgo8 (IntKind.i64.wrap (i_6 + 1)) () [0, 1, 2] rfl (vcons rfl (vcons rfl (vnil))) (by decide) rfl
  ·replace h := cond_f h hc11
   refine run_exit _ rfl ?_
   obtain rfl := some_eq h
   obtain rfl := hstop9 _ rfl
   exact goes_cut hL4 ((), ()) [0, 1, 2] (vcons rfl (vnil)) (by decide) rfl rfl
 rintro ⟨_, _⟩ hj
 obtain rfl : o2 = _ := hj
 replace h := after_go ho3
 clear ho3
 change Run _ _ _ (VF.of [(1, boxP b1 0)]) [box b1 [m_0_Hubsv, m_0_Routesv], ro m_0_Hubsv 3 (m_0.Hubs.map S_api_Hub.enc), nro m_0_Routesv NC_api_Route_82 m_0.Routes]
 obtain ⟨o29, h, ho30⟩ := bindJ_some h
 refine run_cut ((Unit) × (Unit)) (fun σ => [(1, boxP b1 0)]) (fun σ => [box b1 [m_0_Hubsv, m_0_Routesv], ro m_0_Hubsv 3 (m_0.Hubs.map S_api_Hub.enc), nro m_0_Routesv NC_api_Route_82 m_0.Routes]) (fun σ => o29 = .go σ.1) (fun L32 hL31 => ?_) ?_
 ·
  refine run_seq ?_
  refine run_region' ?_
  refine oy rfl rfl (y_assign rfl) ?_
  refine ops_nil ?_
  refine goes_code ?_
  refine run_block ?_
  refine run_iter (step := ref42_ValidMap_L2 n m_0) (n := n) (s0 := 0) h (G := Unit) () (fun σ γ => [(1, boxP b1 0), (4, .int .i64 σ)]) (fun σ γ => [box b1 [m_0_Hubsv, m_0_Routesv], ro m_0_Hubsv 3 (m_0.Hubs.map S_api_Hub.enc), nro m_0_Routesv NC_api_Route_82 m_0.Routes]) [0, 1, 2] (vcons rfl (vcons rfl (vnil))) (by decide) rfl ?_
  rintro i_33 _ o34 h L37 hgo35 hstop36
  change Run _ _ _ (VF.of [(1, boxP b1 0), (4, .int .i64 i_33)]) [box b1 [m_0_Hubsv, m_0_Routesv], ro m_0_Hubsv 3 (m_0.Hubs.map S_api_Hub.enc), nro m_0_Routesv NC_api_Route_82 m_0.Routes]
  refine run_seq ?_
  refine run_seq ?_
  refine run_region' ?_
  refine oy rfl rfl (y_move rfl) ?_
  refine oy rfl rfl (y_fieldAddr_box (sz := 0) Try.runUnderlying25 rfl Try.sizeOf22 rfl) ?_
  refine oy rfl rfl (y_load_box 0 Try.isAgg22 rfl rfl rfl) ?_
  refine oy rfl rfl ((y_len 1 rfl Try.runUnderlying22 rfl rfl reads_ro).to (v_len S_api_Hub.enc _)) ?_
  refine oy rfl rfl (y_lss rfl rfl) ?_
  refine ops_nil ?_
  refine goes_code ?_
  refine run_cond (decide (i_33 < (m_0.Hubs.length : Int))) rfl (fun hc38 => ?_) (fun hc38 => ?_)
  ·replace h := cond_t h hc38
   refine run_skip ?_
   refine goes_code ?_
   refine run_seq ?_
   refine run_block ?_
   refine run_seq ?_
   refine run_drawany [box b1 [m_0_Hubsv, m_0_Routesv], ro m_0_Hubsv 3 (m_0.Hubs.map S_api_Hub.enc), nro m_0_Routesv NC_api_Route_82 m_0.Routes] (by kernel_rfl) ?_
   refine any_y 0 rfl (by kernel_rfl) (by kernel_rfl) (by kernel_rfl) (ss (ss (ss (sn)))) (wn rfl) rfl (y_load_boxagg (c := [m_0_Hubsv, m_0_Routesv]) 0 Try.isAgg25 Try.sizeOf25 rfl rfl rfl) ?_
   refine any_y 1 rfl (by kernel_rfl) (by kernel_rfl) (by kernel_rfl) (ss (ss (ss (sn)))) (wn rfl) rfl (y_fieldAddr_box (sz := 0) Try.runUnderlying25 rfl Try.sizeOf22 rfl) ?_
   refine any_y 2 rfl (by kernel_rfl) (by kernel_rfl) (by kernel_rfl) (ss (ss (ss (sn)))) (wn rfl) rfl (y_load_box 0 Try.isAgg22 rfl rfl rfl) ?_
   refine any_y 3 rfl (by kernel_rfl) (by kernel_rfl) (by kernel_rfl) (ss (ss (ss (sn)))) (wn rfl) rfl (y_move rfl) ?_
   obtain ⟨x39, hzx39, hlx39, hxx39, h⟩ := idx_some h
   refine any_y 4 rfl (by kernel_rfl) (by kernel_rfl) (by kernel_rfl) (ss (ss (ss (sn)))) (wn rfl) rfl (y_indexAddrI (kd := .i64) (i := i_33) 1 Try.runUnderlying22 Try.sizeOf52 rfl rfl rfl reads_ro hzx39 (map_lt hlx39)) ?_
   refine any_y 5 rfl (by kernel_rfl) (by kernel_rfl) (by kernel_rfl) (ss (ss (ss (sn)))) (wn rfl) rfl (y_fieldAddr_elem (sz := 0) Try.runUnderlying52 rfl Try.sizeOf3 rfl) ?_
   refine any_y 6 rfl (by kernel_rfl) (by kernel_rfl) (by kernel_rfl) (ss (ss (ss (sn)))) (wn rfl) rfl (y_load_field (i := i_33.toNat) (j := 0) 1 Try.isAgg3 rfl rfl reads_ro (map_get hxx39) rfl) ?_
   refine any_all [7] (by kernel_rfl) rfl (anyo_cons ?_ anyo_nil)
   obtain ⟨r40, hr41, h⟩ := obind_some h
   refine any_t rfl (wn rfl) rfl (t_callx (vs := [.agg #[m_0_Hubsv, m_0_Routesv], .int .i64 x39.Site]) (cs := []) [(1, 0), (2, 0)] rfl Try.call47 rfl (ref42_rooted_ok n m_0 x39.Site m_0_Hubsv m_0_Routesv hr41) (showsX_view 1 rfl views_ro (showsX_view 2 rfl views_nro showsX_nil)) rfl (.inl rfl)) ?_
   rintro _ _ ⟨_, ⟨rfl, rfl⟩, rfl⟩
   refine ⟨(ss (ss (ss (sn)))), ?_⟩
   refine any_y 8 rfl (by kernel_rfl) (by kernel_rfl) (by kernel_rfl) (ss (ss (ss (sn)))) (wn rfl) rfl (y_not rfl) ?_
   refine any_nil (by kernel_rfl) ?_
   refine goes_code ?_
   refine run_cond (!r40) rfl (fun hc42 => ?_) (fun hc42 => ?_)
   ·replace h := cond_t h hc42
    refine run_seq ?_
    refine run_weak [] [] [] vnil (by decide) rfl ?_
    refine run_region' ?_
    refine oy rfl rfl (y_assign rfl) ?_
    refine ops_nil ?_
    refine goes_code ?_
    refine run_ret ?_
    obtain rfl := some_eq h
    obtain rfl := hstop36 _ rfl
    skip
    obtain rfl := after_stop ho30
    refine fin_slots [2] [.bool false] [] [] Try.results18 rfl (by decide) rfl ?_
    exact ⟨rfl, rfl⟩
   ·replace h := cond_f h hc42
    refine run_skip ?_
    refine goes_blk ?_
    refine goes_code ?_
    refine run_weak [(1, boxP b1 0), (4, .int .i64 i_33)] [0, 1, 2] [box b1 [m_0_Hubsv, m_0_Routesv], ro m_0_Hubsv 3 (m_0.Hubs.map S_api_Hub.enc), nro m_0_Routesv NC_api_Route_82 m_0.Routes] (vcons rfl (vcons rfl (vnil))) (by decide) rfl ?_
    refine run_region' ?_
    refine oy rfl rfl (y_move rfl) ?_
    refine oy rfl rfl (y_add rfl rfl) ?_
    refine oy rfl rfl (y_assign rfl) ?_
    refine ops_nil ?_
    obtain rfl := some_eq h
    exact goes_iter hgo35 (IntKind.i64.wrap (i_33 + 1)) () [0, 1, 2] rfl (vcons rfl (vcons rfl (vnil))) (by decide) rfl
  ·replace h := cond_f h hc38
   refine run_exit _ rfl ?_
   obtain rfl := some_eq h
   obtain rfl := hstop36 _ rfl
   exact goes_cut hL31 ((), ()) [0, 1, 2] (vcons rfl (vnil)) (by decide) rfl rfl
 rintro ⟨_, _⟩ hj
 obtain rfl : o29 = _ := hj
 replace h := after_go ho30
 clear ho30
 change Run _ _ _ (VF.of [(1, boxP b1 0)]) [box b1 [m_0_Hubsv, m_0_Routesv], ro m_0_Hubsv 3 (m_0.Hubs.map S_api_Hub.enc), nro m_0_Routesv NC_api_Route_82 m_0.Routes]
 obtain ⟨o43, h, ho44⟩ := bindJ_some h
 refine run_cut ((Unit) × (Unit)) (fun σ => [(1, boxP b1 0)]) (fun σ => [box b1 [m_0_Hubsv, m_0_Routesv], ro m_0_Hubsv 3 (m_0.Hubs.map S_api_Hub.enc), nro m_0_Routesv NC_api_Route_82 m_0.Routes]) (fun σ => o43 = .go σ.1) (fun L46 hL45 => ?_) ?_
 ·
  refine run_seq ?_
  refine run_region' ?_
  refine oy rfl rfl (y_assign rfl) ?_
  refine ops_nil ?_
  refine goes_code ?_
  refine run_block ?_
  refine run_iter (step := ref42_ValidMap_L3 n m_0) (n := n) (s0 := 0) h (G := Unit) () (fun σ γ => [(1, boxP b1 0), (5, .int .i64 σ)]) (fun σ γ => [box b1 [m_0_Hubsv, m_0_Routesv], ro m_0_Hubsv 3 (m_0.Hubs.map S_api_Hub.enc), nro m_0_Routesv NC_api_Route_82 m_0.Routes]) [0, 1, 2] (vcons rfl (vcons rfl (vnil))) (by decide) rfl ?_
  rintro i_47 _ o48 h L51 hgo49 hstop50
  change Run _ _ _ (VF.of [(1, boxP b1 0), (5, .int .i64 i_47)]) [box b1 [m_0_Hubsv, m_0_Routesv], ro m_0_Hubsv 3 (m_0.Hubs.map S_api_Hub.enc), nro m_0_Routesv NC_api_Route_82 m_0.Routes]
  refine run_seq ?_
  refine run_seq ?_
  refine run_region' ?_
  refine oy rfl rfl (y_move rfl) ?_
  refine oy rfl rfl (y_fieldAddr_box (sz := 0) Try.runUnderlying25 rfl Try.sizeOf23 rfl) ?_
  refine oy rfl rfl (y_load_box 0 Try.isAgg23 rfl rfl rfl) ?_
  refine oy rfl rfl (y_lenN 2 rfl Try.runUnderlying23 rfl rfl readsN_ro) ?_
  refine oy rfl rfl (y_lss rfl rfl) ?_
  refine ops_nil ?_
  refine goes_code ?_
  refine run_cond (decide (i_47 < (m_0.Routes.length : Int))) rfl (fun hc52 => ?_) (fun hc52 => ?_)
  ·replace h := cond_t h hc52
   refine run_skip ?_
   refine goes_code ?_
   obtain ⟨o53, h, ho54⟩ := bindJ_some h
   refine run_cut ((Unit) × (Unit)) (fun σ => [(1, boxP b1 0), (5, .int .i64 i_47)]) (fun σ => [box b1 [m_0_Hubsv, m_0_Routesv], ro m_0_Hubsv 3 (m_0.Hubs.map S_api_Hub.enc), nro m_0_Routesv NC_api_Route_82 m_0.Routes]) (fun σ => o53 = .go σ.1) (fun L56 hL55 => ?_) ?_
   ·
    refine run_block ?_
    refine run_seq ?_
    refine run_region' ?_
    refine oy rfl rfl (y_fieldAddr_box (sz := 0) Try.runUnderlying25 rfl Try.sizeOf23 rfl) ?_
    refine oy rfl rfl (y_load_box 0 Try.isAgg23 rfl rfl rfl) ?_
    refine oy rfl rfl (y_move rfl) ?_
    obtain ⟨x57, hzx57, hlx57, hxx57, h⟩ := idx_some h
    refine oy rfl rfl (y_indexAddrN (kd := .i64) (i := i_47) 2 Try.runUnderlying23 Try.sizeOf82 rfl rfl rfl readsN_ro hzx57 hlx57) ?_
    refine ops_ex (exAt (C := NC_api_Route_82) (i := i_47.toNat) 2 rfl hxx57) ?_
    rintro g58
    refine oy rfl rfl (y_load_atagg (n := i_47.toNat * 2) (j := 0) (c := [.string (bs x57.Country), g58]) 3 Try.isAgg82 Try.sizeOf82 rfl rfl rfl) ?_
    refine ot rfl rfl (t_alloc Try.zeroValue82) ?_
    rintro _ _ ⟨b59, rfl, rfl⟩
    refine ops_slc 4 rfl reads_ro (fun hs60 hs60o => ?_)
    refine ot rfl rfl (t_store 5 Try.sizeOf82 rfl rfl rfl rfl (by simp [Value.cells, boxP]) (allL_cons rfl (allL_cons hs60o (allL_nil)))) ?_
    rintro _ _ ⟨rfl, rfl⟩
    refine ops_turn (retell 5 (g := box b59 [.string (bs x57.Country), g58]) rfl rfl) ?_
    refine ops_nil ?_
    refine goes_code ?_
    refine run_seq ?_
    refine run_seq ?_
    refine run_weak [(1, boxP b1 0), (5, .int .i64 i_47), (6, boxP b59 0)] [0, 1, 2, 4, 5] [box b1 [m_0_Hubsv, m_0_Routesv], ro m_0_Hubsv 3 (m_0.Hubs.map S_api_Hub.enc), nro m_0_Routesv NC_api_Route_82 m_0.Routes, ro g58 1 (x57.Sites.map (eInt .i64)), box b59 [.string (bs x57.Country), g58]] (vcons rfl (vcons rfl (vcons rfl (vnil)))) (by decide) rfl ?_
    refine run_drawany [box b1 [m_0_Hubsv, m_0_Routesv], ro m_0_Hubsv 3 (m_0.Hubs.map S_api_Hub.enc), nro m_0_Routesv NC_api_Route_82 m_0.Routes, ro g58 1 (x57.Sites.map (eInt .i64)), box b59 [.string (bs x57.Country), g58]] (by kernel_rfl) ?_
    refine any_y 0 rfl (by kernel_rfl) (by kernel_rfl) (by kernel_rfl) (ss (ss (ss (ss (ss (sn)))))) (wn rfl) rfl (y_fieldAddr_box (sz := 0) Try.runUnderlying82 rfl Try.sizeOf9 rfl) ?_
    refine any_y 1 rfl (by kernel_rfl) (by kernel_rfl) (by kernel_rfl) (ss (ss (ss (ss (ss (sn)))))) (wn rfl) rfl (y_load_box 4 Try.isAgg9 rfl rfl rfl) ?_
    refine any_y 2 rfl (by kernel_rfl) (by kernel_rfl) (by kernel_rfl) (ss (ss (ss (ss (ss (sn)))))) (wn rfl) rfl (y_sneq rfl rfl) ?_
    refine any_y 3 rfl (by kernel_rfl) (by kernel_rfl) (by kernel_rfl) (ss (ss (ss (ss (ss (sn)))))) (wn rfl) rfl (y_move rfl) ?_
    obtain ⟨o62, h, ho63⟩ := bindJ_some h
    refine any_cut #[true, true, true, true, true, true, true, true, true, false, false, false, false, false, false, false, false, false, false, false, false, false, false, false, false] 16 Bool (fun σ => [(1, boxP b1 0), (5, .int .i64 i_47), (6, boxP b59 0), (80, .bool σ)]) (fun σ => [box b1 [m_0_Hubsv, m_0_Routesv], ro m_0_Hubsv 3 (m_0.Hubs.map S_api_Hub.enc), nro m_0_Routesv NC_api_Route_82 m_0.Routes, ro g58 1 (x57.Sites.map (eInt .i64)), box b59 [.string (bs x57.Country), g58]]) (fun σ => o62 = .go σ) (fun hL65 => ?_) ?_
    ·refine any_split 75 (!decide (x57.Country = [])) rfl (fun hg66 => ?_) (fun hg66 => ?_)
     ·replace h := cond_t h hg66
      refine any_y 4 rfl (by kernel_rfl) (by kernel_rfl) (by kernel_rfl) (ss (ss (ss (ss (ss (sn)))))) (wg 3 true 75 rfl rfl rfl rfl) rfl (y_fieldAddr_box (sz := 0) Try.runUnderlying82 rfl Try.sizeOf9 rfl) ?_
      refine any_y 5 rfl (by kernel_rfl) (by kernel_rfl) (by kernel_rfl) (ss (ss (ss (ss (ss (sn)))))) (wg 3 true 75 rfl rfl rfl rfl) rfl (y_load_box 4 Try.isAgg9 rfl rfl rfl) ?_
      refine any_all [6] (by kernel_rfl) rfl (anyo_cons ?_ anyo_nil)
      obtain ⟨r67, hr68, h⟩ := obind_some h
      refine any_t rfl (wg 3 true 75 rfl rfl rfl rfl) rfl (t_callx (vs := [.string (bs x57.Country)]) (cs := []) [] rfl Try.call48 rfl (ref42_country_ok x57.Country  hr68) showsX_nil rfl (.inl rfl)) ?_
      rintro _ _ ⟨_, ⟨rfl, rfl⟩, rfl⟩
      refine ⟨(ss (ss (ss (ss (ss (sn)))))), ?_⟩
      refine any_y 7 rfl (by kernel_rfl) (by kernel_rfl) (by kernel_rfl) (ss (ss (ss (ss (ss (sn)))))) (wg 3 true 75 rfl rfl rfl rfl) rfl (y_not rfl) ?_
      refine any_y 8 rfl (by kernel_rfl) (by kernel_rfl) (by kernel_rfl) (ss (ss (ss (ss (ss (sn)))))) (wn rfl) rfl (y_pick (b := true) rfl rfl) ?_
      obtain rfl := some_eq h
      exact any_weak [(1, boxP b1 0), (5, .int .i64 i_47), (6, boxP b59 0), (80, .bool (!r67))] [0, 1, 2, 3, 4] [box b1 [m_0_Hubsv, m_0_Routesv], ro m_0_Hubsv 3 (m_0.Hubs.map S_api_Hub.enc), nro m_0_Routesv NC_api_Route_82 m_0.Routes, ro g58 1 (x57.Sites.map (eInt .i64)), box b59 [.string (bs x57.Country), g58]] (by kernel_rfl) (vcons rfl (vcons rfl (vcons rfl (vcons rfl (vnil))))) (by decide) rfl (hL65 (!r67) rfl)
     ·replace h := cond_f h hg66
      refine any_no 4 rfl (by kernel_rfl) (by kernel_rfl) (by kernel_rfl) (ss (ss (ss (ss (ss (sn)))))) 3 true 75 rfl rfl rfl rfl rfl ?_
      refine any_no 5 rfl (by kernel_rfl) (by kernel_rfl) (by kernel_rfl) (ss (ss (ss (ss (ss (sn)))))) 3 true 75 rfl rfl rfl rfl rfl ?_
      refine any_no 6 rfl (by kernel_rfl) (by kernel_rfl) (by kernel_rfl) (ss (ss (ss (ss (ss (sn)))))) 3 true 75 rfl rfl rfl rfl rfl ?_
      refine any_no 7 rfl (by kernel_rfl) (by kernel_rfl) (by kernel_rfl) (ss (ss (ss (ss (ss (sn)))))) 3 true 75 rfl rfl rfl rfl rfl ?_
      refine any_y 8 rfl (by kernel_rfl) (by kernel_rfl) (by kernel_rfl) (ss (ss (ss (ss (ss (sn)))))) (wn rfl) rfl (y_pick (b := false) rfl rfl) ?_
      obtain rfl := some_eq h
      exact any_weak [(1, boxP b1 0), (5, .int .i64 i_47), (6, boxP b59 0), (80, .bool false)] [0, 1, 2, 3, 4] [box b1 [m_0_Hubsv, m_0_Routesv], ro m_0_Hubsv 3 (m_0.Hubs.map S_api_Hub.enc), nro m_0_Routesv NC_api_Route_82 m_0.Routes, ro g58 1 (x57.Sites.map (eInt .i64)), box b59 [.string (bs x57.Country), g58]] (by kernel_rfl) (vcons rfl (vcons rfl (vcons rfl (vcons rfl (vnil))))) (by decide) rfl (hL65 false rfl)
    rintro b61 hj
    obtain rfl : o62 = _ := hj
    replace h := after_go ho63
    clear ho63
    refine any_y 9 rfl (by kernel_rfl) (by kernel_rfl) (by kernel_rfl) (ss (ss (ss (ss (ss (sn)))))) (wn rfl) rfl (y_move rfl) ?_
    obtain ⟨o70, h, ho71⟩ := bindJ_some h
    refine any_cut #[true, true, true, true, true, true, true, true, true, true, true, true, true, true, true, true, true, true, true, true, true, true, true, true, true] 0 Bool (fun σ => [(1, boxP b1 0), (5, .int .i64 i_47), (6, boxP b59 0), (96, .bool σ)]) (fun σ => [box b1 [m_0_Hubsv, m_0_Routesv], ro m_0_Hubsv 3 (m_0.Hubs.map S_api_Hub.enc), nro m_0_Routesv NC_api_Route_82 m_0.Routes, ro g58 1 (x57.Sites.map (eInt .i64)), box b59 [.string (bs x57.Country), g58]]) (fun σ => o70 = .go σ) (fun hL73 => ?_) ?_
    ·refine any_split 81 b61 rfl (fun hg74 => ?_) (fun hg74 => ?_)
     ·replace h := cond_t h hg74
      refine any_no 10 rfl (by kernel_rfl) (by kernel_rfl) (by kernel_rfl) (ss (ss (ss (ss (ss (sn)))))) 9 false 81 rfl rfl rfl rfl rfl ?_
      refine any_no 11 rfl (by kernel_rfl) (by kernel_rfl) (by kernel_rfl) (ss (ss (ss (ss (ss (sn)))))) 9 false 81 rfl rfl rfl rfl rfl ?_
      refine any_no 12 rfl (by kernel_rfl) (by kernel_rfl) (by kernel_rfl) (ss (ss (ss (ss (ss (sn)))))) 9 false 81 rfl rfl rfl rfl rfl ?_
      refine any_un 13 rfl (by kernel_rfl) (by kernel_rfl) (by kernel_rfl) (ss (ss (ss (ss (ss (sn)))))) 12 true 84 rfl rfl rfl rfl rfl ?_
      refine any_un 14 rfl (by kernel_rfl) (by kernel_rfl) (by kernel_rfl) (ss (ss (ss (ss (ss (sn)))))) 12 true 84 rfl rfl rfl rfl rfl ?_
      refine any_un 15 rfl (by kernel_rfl) (by kernel_rfl) (by kernel_rfl) (ss (ss (ss (ss (ss (sn)))))) 12 true 84 rfl rfl rfl rfl rfl ?_
      refine any_un 16 rfl (by kernel_rfl) (by kernel_rfl) (by kernel_rfl) (ss (ss (ss (ss (ss (sn)))))) 12 true 84 rfl rfl rfl rfl rfl ?_
      refine any_un 17 rfl (by kernel_rfl) (by kernel_rfl) (by kernel_rfl) (ss (ss (ss (ss (ss (sn)))))) 12 true 84 rfl rfl rfl rfl rfl ?_
      refine any_un 18 rfl (by kernel_rfl) (by kernel_rfl) (by kernel_rfl) (ss (ss (ss (ss (ss (sn)))))) 12 true 84 rfl rfl rfl rfl rfl ?_
      refine any_un 19 rfl (by kernel_rfl) (by kernel_rfl) (by kernel_rfl) (ss (ss (ss (ss (ss (sn)))))) 12 true 84 rfl rfl rfl rfl rfl ?_
      refine any_un 20 rfl (by kernel_rfl) (by kernel_rfl) (by kernel_rfl) (ss (ss (ss (ss (ss (sn)))))) 12 true 84 rfl rfl rfl rfl rfl ?_
      refine any_un 21 rfl (by kernel_rfl) (by kernel_rfl) (by kernel_rfl) (ss (ss (ss (ss (ss (sn)))))) 12 true 84 rfl rfl rfl rfl rfl ?_
      refine any_un 22 rfl (by kernel_rfl) (by kernel_rfl) (by kernel_rfl) (ss (ss (ss (ss (ss (sn)))))) 12 true 84 rfl rfl rfl rfl rfl ?_
      refine any_no 23 rfl (by kernel_rfl) (by kernel_rfl) (by kernel_rfl) (ss (ss (ss (ss (ss (sn)))))) 9 false 81 rfl rfl rfl rfl rfl ?_
      refine any_y 24 rfl (by kernel_rfl) (by kernel_rfl) (by kernel_rfl) (ss (ss (ss (ss (ss (sn)))))) (wn rfl) rfl (y_pick (b := true) rfl rfl) ?_
      obtain rfl := some_eq h
      exact any_weak [(1, boxP b1 0), (5, .int .i64 i_47), (6, boxP b59 0), (96, .bool true)] [0, 1, 2, 3, 4] [box b1 [m_0_Hubsv, m_0_Routesv], ro m_0_Hubsv 3 (m_0.Hubs.map S_api_Hub.enc), nro m_0_Routesv NC_api_Route_82 m_0.Routes, ro g58 1 (x57.Sites.map (eInt .i64)), box b59 [.string (bs x57.Country), g58]] (by kernel_rfl) (vcons rfl (vcons rfl (vcons rfl (vcons rfl (vnil))))) (by decide) rfl (hL73 true rfl)
     ·replace h := cond_f h hg74
      refine any_y 10 rfl (by kernel_rfl) (by kernel_rfl) (by kernel_rfl) (ss (ss (ss (ss (ss (sn)))))) (wg 9 false 81 rfl rfl rfl rfl) rfl (y_move rfl) ?_
      refine any_y 11 rfl (by kernel_rfl) (by kernel_rfl) (by kernel_rfl) (ss (ss (ss (ss (ss (sn)))))) (wg 9 false 81 rfl rfl rfl rfl) rfl (y_gtr rfl rfl) ?_
      refine any_y 12 rfl (by kernel_rfl) (by kernel_rfl) (by kernel_rfl) (ss (ss (ss (ss (ss (sn)))))) (wg 9 false 81 rfl rfl rfl rfl) rfl (y_move rfl) ?_
      obtain ⟨o76, h, ho77⟩ := bindJ_some h
      refine any_cut #[true, true, true, true, true, true, true, true, true, true, true, true, true, true, true, true, true, true, true, true, true, true, true, true, false] 1 Bool (fun σ => [(1, boxP b1 0), (5, .int .i64 i_47), (6, boxP b59 0), (81, .bool false), (95, .bool σ)]) (fun σ => [box b1 [m_0_Hubsv, m_0_Routesv], ro m_0_Hubsv 3 (m_0.Hubs.map S_api_Hub.enc), nro m_0_Routesv NC_api_Route_82 m_0.Routes, ro g58 1 (x57.Sites.map (eInt .i64)), box b59 [.string (bs x57.Country), g58]]) (fun σ => o76 = .go σ) (fun hL79 => ?_) ?_
      ·refine any_split 84 (decide (0 < i_47)) rfl (fun hg80 => ?_) (fun hg80 => ?_)
       ·replace h := cond_t h hg80
        refine any_y 13 rfl (by kernel_rfl) (by kernel_rfl) (by kernel_rfl) (ss (ss (ss (ss (ss (sn)))))) (wg 12 true 84 rfl rfl rfl rfl) rfl (y_fieldAddr_box (sz := 0) Try.runUnderlying82 rfl Try.sizeOf9 rfl) ?_
        refine any_y 14 rfl (by kernel_rfl) (by kernel_rfl) (by kernel_rfl) (ss (ss (ss (ss (ss (sn)))))) (wg 12 true 84 rfl rfl rfl rfl) rfl (y_load_box 4 Try.isAgg9 rfl rfl rfl) ?_
        refine any_y 15 rfl (by kernel_rfl) (by kernel_rfl) (by kernel_rfl) (ss (ss (ss (ss (ss (sn)))))) (wg 12 true 84 rfl rfl rfl rfl) rfl (y_fieldAddr_box (sz := 0) Try.runUnderlying25 rfl Try.sizeOf23 rfl) ?_
        refine any_y 16 rfl (by kernel_rfl) (by kernel_rfl) (by kernel_rfl) (ss (ss (ss (ss (ss (sn)))))) (wg 12 true 84 rfl rfl rfl rfl) rfl (y_load_box 0 Try.isAgg23 rfl rfl rfl) ?_
        refine any_y 17 rfl (by kernel_rfl) (by kernel_rfl) (by kernel_rfl) (ss (ss (ss (ss (ss (sn)))))) (wg 12 true 84 rfl rfl rfl rfl) rfl (y_move rfl) ?_
        refine any_y 18 rfl (by kernel_rfl) (by kernel_rfl) (by kernel_rfl) (ss (ss (ss (ss (ss (sn)))))) (wg 12 true 84 rfl rfl rfl rfl) rfl (y_sub rfl rfl) ?_
        obtain ⟨x81, hzx81, hlx81, hxx81, h⟩ := idx_some h
        refine any_y 19 rfl (by kernel_rfl) (by kernel_rfl) (by kernel_rfl) (ss (ss (ss (ss (ss (sn)))))) (wg 12 true 84 rfl rfl rfl rfl) rfl (y_indexAddrN (kd := .i64) (i := (IntKind.i64.wrap (i_47 - 1))) 2 Try.runUnderlying23 Try.sizeOf82 rfl rfl rfl readsN_ro hzx81 hlx81) ?_
        refine any_ex (exAt (C := NC_api_Route_82) (i := ((IntKind.i64.wrap (i_47 - 1))).toNat) 2 rfl hxx81) ?_
        rintro g82
        refine any_y 20 rfl (by kernel_rfl) (by kernel_rfl) (by kernel_rfl) (ss (ss (ss (ss (ss (sn)))))) (wg 12 true 84 rfl rfl rfl rfl) rfl (y_fieldAddr_elem (sz := 0) Try.runUnderlying82 rfl Try.sizeOf9 rfl) ?_
        refine any_all [21] (by kernel_rfl) rfl (anyo_cons ?_ anyo_nil)
        refine any_ty rfl (wg 12 true 84 rfl rfl rfl rfl) rfl (y_load_at (n := ((IntKind.i64.wrap (i_47 - 1))).toNat * 2) (j := 0) 5 Try.isAgg9 rfl rfl rfl) ⟨(ss (ss (ss (ss (ss (sn)))))), ?_⟩
        refine any_y 22 rfl (by kernel_rfl) (by kernel_rfl) (by kernel_rfl) (ss (ss (ss (ss (ss (sn)))))) (wg 12 true 84 rfl rfl rfl rfl) rfl (y_sleq rfl rfl) ?_
        refine any_y 23 rfl (by kernel_rfl) (by kernel_rfl) (by kernel_rfl) (ss (ss (ss (ss (ss (sn)))))) (wg 9 false 81 rfl rfl rfl rfl) rfl (y_pick (b := true) rfl rfl) ?_
        obtain rfl := some_eq h
        exact any_weak [(1, boxP b1 0), (5, .int .i64 i_47), (6, boxP b59 0), (81, .bool false), (95, .bool (strLt x57.Country x81.Country || decide (x57.Country = x81.Country)))] [0, 1, 2, 3, 4] [box b1 [m_0_Hubsv, m_0_Routesv], ro m_0_Hubsv 3 (m_0.Hubs.map S_api_Hub.enc), nro m_0_Routesv NC_api_Route_82 m_0.Routes, ro g58 1 (x57.Sites.map (eInt .i64)), box b59 [.string (bs x57.Country), g58]] (by kernel_rfl) (vcons rfl (vcons rfl (vcons rfl (vcons rfl (vcons rfl (vnil)))))) (by decide) rfl (hL79 (strLt x57.Country x81.Country || decide (x57.Country = x81.Country)) rfl)
       ·replace h := cond_f h hg80
        refine any_no 13 rfl (by kernel_rfl) (by kernel_rfl) (by kernel_rfl) (ss (ss (ss (ss (ss (sn)))))) 12 true 84 rfl rfl rfl rfl rfl ?_
        refine any_no 14 rfl (by kernel_rfl) (by kernel_rfl) (by kernel_rfl) (ss (ss (ss (ss (ss (sn)))))) 12 true 84 rfl rfl rfl rfl rfl ?_
        refine any_no 15 rfl (by kernel_rfl) (by kernel_rfl) (by kernel_rfl) (ss (ss (ss (ss (ss (sn)))))) 12 true 84 rfl rfl rfl rfl rfl ?_
        refine any_no 16 rfl (by kernel_rfl) (by kernel_rfl) (by kernel_rfl) (ss (ss (ss (ss (ss (sn)))))) 12 true 84 rfl rfl rfl rfl rfl ?_
        refine any_no 17 rfl (by kernel_rfl) (by kernel_rfl) (by kernel_rfl) (ss (ss (ss (ss (ss (sn)))))) 12 true 84 rfl rfl rfl rfl rfl ?_
        refine any_no 18 rfl (by kernel_rfl) (by kernel_rfl) (by kernel_rfl) (ss (ss (ss (ss (ss (sn)))))) 12 true 84 rfl rfl rfl rfl rfl ?_
        refine any_no 19 rfl (by kernel_rfl) (by kernel_rfl) (by kernel_rfl) (ss (ss (ss (ss (ss (sn)))))) 12 true 84 rfl rfl rfl rfl rfl ?_
        refine any_no 20 rfl (by kernel_rfl) (by kernel_rfl) (by kernel_rfl) (ss (ss (ss (ss (ss (sn)))))) 12 true 84 rfl rfl rfl rfl rfl ?_
        refine any_no 21 rfl (by kernel_rfl) (by kernel_rfl) (by kernel_rfl) (ss (ss (ss (ss (ss (sn)))))) 12 true 84 rfl rfl rfl rfl rfl ?_
        refine any_no 22 rfl (by kernel_rfl) (by kernel_rfl) (by kernel_rfl) (ss (ss (ss (ss (ss (sn)))))) 12 true 84 rfl rfl rfl rfl rfl ?_
        refine any_y 23 rfl (by kernel_rfl) (by kernel_rfl) (by kernel_rfl) (ss (ss (ss (ss (ss (sn)))))) (wg 9 false 81 rfl rfl rfl rfl) rfl (y_pick (b := false) rfl rfl) ?_
        obtain rfl := some_eq h
        exact any_weak [(1, boxP b1 0), (5, .int .i64 i_47), (6, boxP b59 0), (81, .bool false), (95, .bool false)] [0, 1, 2, 3, 4] [box b1 [m_0_Hubsv, m_0_Routesv], ro m_0_Hubsv 3 (m_0.Hubs.map S_api_Hub.enc), nro m_0_Routesv NC_api_Route_82 m_0.Routes, ro g58 1 (x57.Sites.map (eInt .i64)), box b59 [.string (bs x57.Country), g58]] (by kernel_rfl) (vcons rfl (vcons rfl (vcons rfl (vcons rfl (vcons rfl (vnil)))))) (by decide) rfl (hL79 false rfl)
      rintro b75 hj
      obtain rfl : o76 = _ := hj
      replace h := after_go ho77
      clear ho77
      refine any_y 24 rfl (by kernel_rfl) (by kernel_rfl) (by kernel_rfl) (ss (ss (ss (ss (ss (sn)))))) (wn rfl) rfl (y_pick (b := false) rfl rfl) ?_
      obtain rfl := some_eq h
      exact any_weak [(1, boxP b1 0), (5, .int .i64 i_47), (6, boxP b59 0), (96, .bool b75)] [0, 1, 2, 3, 4] [box b1 [m_0_Hubsv, m_0_Routesv], ro m_0_Hubsv 3 (m_0.Hubs.map S_api_Hub.enc), nro m_0_Routesv NC_api_Route_82 m_0.Routes, ro g58 1 (x57.Sites.map (eInt .i64)), box b59 [.string (bs x57.Country), g58]] (by kernel_rfl) (vcons rfl (vcons rfl (vcons rfl (vcons rfl (vnil))))) (by decide) rfl (hL73 b75 rfl)
    rintro b69 hj
    obtain rfl : o70 = _ := hj
    replace h := after_go ho71
    clear ho71
    refine any_nil (by kernel_rfl) ?_
    refine goes_code ?_
    refine run_cond b69 rfl (fun hc83 => ?_) (fun hc83 => ?_)
    ·replace h := cond_t h hc83
     refine run_seq ?_
     refine run_region' ?_
     refine oy rfl rfl (y_assign rfl) ?_
     refine ops_nil ?_
     refine goes_code ?_
     refine run_ret ?_
     obtain rfl := some_eq h
     obtain rfl := after_stop ho54
     skip
     obtain rfl := hstop50 _ rfl
     skip
     obtain rfl := after_stop ho44
     refine fin_slots [2] [.bool false] [] [] Try.results18 rfl (by decide) rfl ?_
     exact ⟨rfl, rfl⟩
    ·replace h := cond_f h hc83
     refine run_skip ?_
     refine goes_code ?_
     refine run_seq ?_
     refine run_region' ?_
     refine oy rfl rfl (y_assign rfl) ?_
     refine ops_nil ?_
     refine goes_code ?_
     refine run_block ?_
     refine run_iter (step := ref42_ValidMap_L4 n m_0 x57) (n := n) (s0 := 0) h (G := Unit) () (fun σ γ => [(1, boxP b1 0), (5, .int .i64 i_47), (6, boxP b59 0), (7, .int .i64 σ)]) (fun σ γ => [box b1 [m_0_Hubsv, m_0_Routesv], ro m_0_Hubsv 3 (m_0.Hubs.map S_api_Hub.enc), nro m_0_Routesv NC_api_Route_82 m_0.Routes, box b59 [.string (bs x57.Country), g58], ro g58 1 (x57.Sites.map (eInt .i64))]) [0, 1, 2, 4, 3] (vcons rfl (vcons rfl (vcons rfl (vcons rfl (vnil))))) (by decide) rfl ?_
     rintro k_84 _ o85 h L88 hgo86 hstop87
     change Run _ _ _ (VF.of [(1, boxP b1 0), (5, .int .i64 i_47), (6, boxP b59 0), (7, .int .i64 k_84)]) [box b1 [m_0_Hubsv, m_0_Routesv], ro m_0_Hubsv 3 (m_0.Hubs.map S_api_Hub.enc), nro m_0_Routesv NC_api_Route_82 m_0.Routes, box b59 [.string (bs x57.Country), g58], ro g58 1 (x57.Sites.map (eInt .i64))]
     refine run_seq ?_
     refine run_seq ?_
     refine run_region' ?_
     refine oy rfl rfl (y_move rfl) ?_
     refine oy rfl rfl (y_fieldAddr_box (sz := 0) Try.runUnderlying82 rfl Try.sizeOf35 rfl) ?_
     refine oy rfl rfl (y_load_box 3 Try.isAgg35 rfl rfl rfl) ?_
     refine oy rfl rfl ((y_len 4 rfl Try.runUnderlying35 rfl rfl reads_ro).to (v_len (eInt .i64) _)) ?_
     refine oy rfl rfl (y_lss rfl rfl) ?_
     refine ops_nil ?_
     refine goes_code ?_
     refine run_cond (decide (k_84 < (x57.Sites.length : Int))) rfl (fun hc89 => ?_) (fun hc89 => ?_)
     ·replace h := cond_t h hc89
      refine run_skip ?_
      refine goes_code ?_
      obtain ⟨o90, h, ho91⟩ := bindJ_some h
      refine run_cut ((Unit) × (Unit)) (fun σ => [(1, boxP b1 0), (5, .int .i64 i_47), (6, boxP b59 0), (7, .int .i64 k_84)]) (fun σ => [box b1 [m_0_Hubsv, m_0_Routesv], ro m_0_Hubsv 3 (m_0.Hubs.map S_api_Hub.enc), nro m_0_Routesv NC_api_Route_82 m_0.Routes, box b59 [.string (bs x57.Country), g58], ro g58 1 (x57.Sites.map (eInt .i64))]) (fun σ => o90 = .go σ.1) (fun L93 hL92 => ?_) ?_
      ·
       refine run_block ?_
       refine run_seq ?_
       refine run_seq ?_
       refine run_drawany [box b1 [m_0_Hubsv, m_0_Routesv], ro m_0_Hubsv 3 (m_0.Hubs.map S_api_Hub.enc), nro m_0_Routesv NC_api_Route_82 m_0.Routes, box b59 [.string (bs x57.Country), g58], ro g58 1 (x57.Sites.map (eInt .i64))] (by kernel_rfl) ?_
       refine any_y 0 rfl (by kernel_rfl) (by kernel_rfl) (by kernel_rfl) (ss (ss (ss (ss (ss (sn)))))) (wn rfl) rfl (y_load_boxagg (c := [m_0_Hubsv, m_0_Routesv]) 0 Try.isAgg25 Try.sizeOf25 rfl rfl rfl) ?_
       refine any_y 1 rfl (by kernel_rfl) (by kernel_rfl) (by kernel_rfl) (ss (ss (ss (ss (ss (sn)))))) (wn rfl) rfl (y_fieldAddr_box (sz := 0) Try.runUnderlying82 rfl Try.sizeOf35 rfl) ?_
       refine any_y 2 rfl (by kernel_rfl) (by kernel_rfl) (by kernel_rfl) (ss (ss (ss (ss (ss (sn)))))) (wn rfl) rfl (y_load_box 3 Try.isAgg35 rfl rfl rfl) ?_
       refine any_y 3 rfl (by kernel_rfl) (by kernel_rfl) (by kernel_rfl) (ss (ss (ss (ss (ss (sn)))))) (wn rfl) rfl (y_move rfl) ?_
       obtain ⟨x94, hzx94, hlx94, hxx94, h⟩ := idx_some h
       refine any_y 4 rfl (by kernel_rfl) (by kernel_rfl) (by kernel_rfl) (ss (ss (ss (ss (ss (sn)))))) (wn rfl) rfl (y_indexAddrI (kd := .i64) (i := k_84) 4 Try.runUnderlying35 Try.sizeOf3 rfl rfl rfl reads_ro hzx94 (map_lt hlx94)) ?_
       refine any_y 5 rfl (by kernel_rfl) (by kernel_rfl) (by kernel_rfl) (ss (ss (ss (ss (ss (sn)))))) (wn rfl) rfl (y_load_elem (i := k_84.toNat) 4 Try.isAgg3 rfl rfl reads_ro (map_get hxx94)) ?_
       refine any_all [6] (by kernel_rfl) rfl (anyo_cons ?_ anyo_nil)
       obtain ⟨r95, hr96, h⟩ := obind_some h
       refine any_t rfl (wn rfl) rfl (t_callx (vs := [.agg #[m_0_Hubsv, m_0_Routesv], .int .i64 x94]) (cs := []) [(1, 0), (2, 0)] rfl Try.call38 rfl (ref42_hub_ok n m_0 x94 m_0_Hubsv m_0_Routesv hr96) (showsX_view 1 rfl views_ro (showsX_view 2 rfl views_nro showsX_nil)) rfl (.inl rfl)) ?_
       rintro _ _ ⟨_, ⟨rfl, rfl⟩, rfl⟩
       refine ⟨(ss (ss (ss (ss (ss (sn)))))), ?_⟩
       refine any_y 7 rfl (by kernel_rfl) (by kernel_rfl) (by kernel_rfl) (ss (ss (ss (ss (ss (sn)))))) (wn rfl) rfl (y_lss rfl rfl) ?_
       refine any_nil (by kernel_rfl) ?_
       refine goes_code ?_
       refine run_cond (decide (r95 < 0)) rfl (fun hc97 => ?_) (fun hc97 => ?_)
       ·replace h := cond_t h hc97
        refine run_seq ?_
        refine run_weak [] [] [] vnil (by decide) rfl ?_
        refine run_region' ?_
        refine oy rfl rfl (y_assign rfl) ?_
        refine ops_nil ?_
        refine goes_code ?_
        refine run_ret ?_
        obtain rfl := some_eq h
        obtain rfl := after_stop ho91
        skip
        obtain rfl := hstop87 _ rfl
        skip
        obtain rfl := after_stop ho54
        skip
        obtain rfl := hstop50 _ rfl
        skip
        obtain rfl := after_stop ho44
        refine fin_slots [2] [.bool false] [] [] Try.results18 rfl (by decide) rfl ?_
        exact ⟨rfl, rfl⟩
       ·replace h := cond_f h hc97
        refine run_skip ?_
        refine goes_code ?_
        refine run_seq ?_
        refine run_weak [(1, boxP b1 0), (5, .int .i64 i_47), (6, boxP b59 0), (7, .int .i64 k_84)] [0, 1, 2, 3, 4] [box b1 [m_0_Hubsv, m_0_Routesv], ro m_0_Hubsv 3 (m_0.Hubs.map S_api_Hub.enc), nro m_0_Routesv NC_api_Route_82 m_0.Routes, box b59 [.string (bs x57.Country), g58], ro g58 1 (x57.Sites.map (eInt .i64))] (vcons rfl (vcons rfl (vcons rfl (vcons rfl (vnil))))) (by decide) rfl ?_
        refine run_region' ?_
        refine oy rfl rfl (y_assign rfl) ?_
        refine ops_nil ?_
        refine goes_code ?_
        refine run_block ?_
        refine run_iter (step := ref42_ValidMap_L5 x57 k_84) (n := n) (s0 := 0) h (G := Unit) () (fun σ γ => [(1, boxP b1 0), (5, .int .i64 i_47), (6, boxP b59 0), (7, .int .i64 k_84), (8, .int .i64 σ)]) (fun σ γ => [box b1 [m_0_Hubsv, m_0_Routesv], ro m_0_Hubsv 3 (m_0.Hubs.map S_api_Hub.enc), nro m_0_Routesv NC_api_Route_82 m_0.Routes, box b59 [.string (bs x57.Country), g58], ro g58 1 (x57.Sites.map (eInt .i64))]) [0, 1, 2, 3, 4] (vcons rfl (vcons rfl (vcons rfl (vcons rfl (vcons rfl (vnil)))))) (by decide) rfl ?_
        rintro j_98 _ o99 h L102 hgo100 hstop101
        change Run _ _ _ (VF.of [(1, boxP b1 0), (5, .int .i64 i_47), (6, boxP b59 0), (7, .int .i64 k_84), (8, .int .i64 j_98)]) [box b1 [m_0_Hubsv, m_0_Routesv], ro m_0_Hubsv 3 (m_0.Hubs.map S_api_Hub.enc), nro m_0_Routesv NC_api_Route_82 m_0.Routes, box b59 [.string (bs x57.Country), g58], ro g58 1 (x57.Sites.map (eInt .i64))]
        refine run_seq ?_
        refine run_seq ?_
        refine run_region' ?_
        refine oy rfl rfl (y_move rfl) ?_
        refine oy rfl rfl (y_move rfl) ?_
        refine oy rfl rfl (y_lss rfl rfl) ?_
        refine ops_nil ?_
        refine goes_code ?_
        refine run_cond (decide (j_98 < k_84)) rfl (fun hc103 => ?_) (fun hc103 => ?_)
        ·replace h := cond_t h hc103
         refine run_skip ?_
         refine goes_code ?_
         refine run_seq ?_
         refine run_block ?_
         refine run_seq ?_
         refine run_draw (by kernel_rfl) (by kernel_rfl) ?_
         refine sy rfl rfl (y_fieldAddr_box (sz := 0) Try.runUnderlying82 rfl Try.sizeOf35 rfl) ?_
         refine sy rfl rfl (y_load_box 3 Try.isAgg35 rfl rfl rfl) ?_
         refine sy rfl rfl (y_move rfl) ?_
         obtain ⟨x104, hzx104, hlx104, hxx104, h⟩ := idx_some h
         refine sy rfl rfl (y_indexAddrI (kd := .i64) (i := j_98) 4 Try.runUnderlying35 Try.sizeOf3 rfl rfl rfl reads_ro hzx104 (map_lt hlx104)) ?_
         refine sy rfl rfl (y_load_elem (i := j_98.toNat) 4 Try.isAgg3 rfl rfl reads_ro (map_get hxx104)) ?_
         refine sy rfl rfl (y_fieldAddr_box (sz := 0) Try.runUnderlying82 rfl Try.sizeOf35 rfl) ?_
         refine sy rfl rfl (y_load_box 3 Try.isAgg35 rfl rfl rfl) ?_
         refine sy rfl rfl (y_move rfl) ?_
         obtain ⟨x105, hzx105, hlx105, hxx105, h⟩ := idx_some h
         refine sy rfl rfl (y_indexAddrI (kd := .i64) (i := k_84) 4 Try.runUnderlying35 Try.sizeOf3 rfl rfl rfl reads_ro hzx105 (map_lt hlx105)) ?_
         refine sy rfl rfl (y_load_elem (i := k_84.toNat) 4 Try.isAgg3 rfl rfl reads_ro (map_get hxx105)) ?_
         refine sy rfl rfl (y_eql rfl rfl) ?_
         refine still_nil ?_
         refine goes_code ?_
         refine run_cond (decide (x104 = x105)) rfl (fun hc106 => ?_) (fun hc106 => ?_)
         ·replace h := cond_t h hc106
          refine run_seq ?_
          refine run_weak [] [] [] vnil (by decide) rfl ?_
          refine run_region' ?_
          refine oy rfl rfl (y_assign rfl) ?_
          refine ops_nil ?_
          refine goes_code ?_
          refine run_ret ?_
          obtain rfl := some_eq h
          obtain rfl := hstop101 _ rfl
          skip
          obtain rfl := after_stop ho91
          skip
          obtain rfl := hstop87 _ rfl
          skip
          obtain rfl := after_stop ho54
          skip
          obtain rfl := hstop50 _ rfl
          skip
          obtain rfl := after_stop ho44
          refine fin_slots [2] [.bool false] [] [] Try.results18 rfl (by decide) rfl ?_
          exact ⟨rfl, rfl⟩
         ·replace h := cond_f h hc106
          refine run_skip ?_
          refine goes_blk ?_
          refine goes_code ?_
          refine run_weak [(1, boxP b1 0), (5, .int .i64 i_47), (6, boxP b59 0), (7, .int .i64 k_84), (8, .int .i64 j_98)] [0, 1, 2, 3, 4] [box b1 [m_0_Hubsv, m_0_Routesv], ro m_0_Hubsv 3 (m_0.Hubs.map S_api_Hub.enc), nro m_0_Routesv NC_api_Route_82 m_0.Routes, box b59 [.string (bs x57.Country), g58], ro g58 1 (x57.Sites.map (eInt .i64))] (vcons rfl (vcons rfl (vcons rfl (vcons rfl (vcons rfl (vnil)))))) (by decide) rfl ?_
          refine run_region' ?_
          refine oy rfl rfl (y_move rfl) ?_
          refine oy rfl rfl (y_add rfl rfl) ?_
          refine oy rfl rfl (y_assign rfl) ?_
          refine ops_nil ?_
          obtain rfl := some_eq h
          exact goes_iter hgo100 (IntKind.i64.wrap (j_98 + 1)) () [0, 1, 2, 3, 4] rfl (vcons rfl (vcons rfl (vcons rfl (vcons rfl (vcons rfl (vnil)))))) (by decide) rfl
        ·replace h := cond_f h hc103
         refine run_exit _ rfl ?_
         refine goes_blk ?_
         obtain rfl := some_eq h
         obtain rfl := hstop101 _ rfl
         exact goes_cut hL92 ((), ()) [0, 1, 2, 3, 4] (vcons rfl (vcons rfl (vcons rfl (vcons rfl (vnil))))) (by decide) rfl rfl
      rintro ⟨_, _⟩ hj
      obtain rfl : o90 = _ := hj
      replace h := after_go ho91
      clear ho91
      change Run _ _ _ (VF.of [(1, boxP b1 0), (5, .int .i64 i_47), (6, boxP b59 0), (7, .int .i64 k_84)]) [box b1 [m_0_Hubsv, m_0_Routesv], ro m_0_Hubsv 3 (m_0.Hubs.map S_api_Hub.enc), nro m_0_Routesv NC_api_Route_82 m_0.Routes, box b59 [.string (bs x57.Country), g58], ro g58 1 (x57.Sites.map (eInt .i64))]
      refine run_region' ?_
      refine oy rfl rfl (y_move rfl) ?_
      refine oy rfl rfl (y_add rfl rfl) ?_
      refine oy rfl rfl (y_assign rfl) ?_
      refine ops_nil ?_
      obtain rfl := some_eq h
      exact goes_iter hgo86 (IntKind.i64.wrap (k_84 + 1)) () [0, 1, 2, 3, 4] rfl (vcons rfl (vcons rfl (vcons rfl (vcons rfl (vnil))))) (by decide) rfl
     ·replace h := cond_f h hc89
      refine run_exit _ rfl ?_
      refine goes_blk ?_
      obtain rfl := some_eq h
      obtain rfl := hstop87 _ rfl
      exact goes_cut hL55 ((), ()) [0, 1, 2] (vcons rfl (vcons rfl (vnil))) (by decide) rfl rfl
   rintro ⟨_, _⟩ hj
   obtain rfl : o53 = _ := hj
   replace h := after_go ho54
   clear ho54
   change Run _ _ _ (VF.of [(1, boxP b1 0), (5, .int .i64 i_47)]) [box b1 [m_0_Hubsv, m_0_Routesv], ro m_0_Hubsv 3 (m_0.Hubs.map S_api_Hub.enc), nro m_0_Routesv NC_api_Route_82 m_0.Routes]
   refine run_region' ?_
   refine oy rfl rfl (y_move rfl) ?_
   refine oy rfl rfl (y_add rfl rfl) ?_
   refine oy rfl rfl (y_assign rfl) ?_
   refine ops_nil ?_
   obtain rfl := some_eq h
   exact goes_iter hgo49 (IntKind.i64.wrap (i_47 + 1)) () [0, 1, 2] rfl (vcons rfl (vcons rfl (vnil))) (by decide) rfl
  ·replace h := cond_f h hc52
   refine run_exit _ rfl ?_
   obtain rfl := some_eq h
   obtain rfl := hstop50 _ rfl
   exact goes_cut hL45 ((), ()) [0, 1, 2] (vcons rfl (vnil)) (by decide) rfl rfl
 rintro ⟨_, _⟩ hj
 obtain rfl : o43 = _ := hj
 replace h := after_go ho44
 clear ho44
 change Run _ _ _ (VF.of [(1, boxP b1 0)]) [box b1 [m_0_Hubsv, m_0_Routesv], ro m_0_Hubsv 3 (m_0.Hubs.map S_api_Hub.enc), nro m_0_Routesv NC_api_Route_82 m_0.Routes]
 refine run_seq ?_
 refine run_region' ?_
 refine oy rfl rfl (y_fieldAddr_box (sz := 0) Try.runUnderlying25 rfl Try.sizeOf23 rfl) ?_
 refine oy rfl rfl (y_load_box 0 Try.isAgg23 rfl rfl rfl) ?_
 refine oy rfl rfl (y_lenN 2 rfl Try.runUnderlying23 rfl rfl readsN_ro) ?_
 refine oy rfl rfl (y_leq rfl rfl) ?_
 refine oy rfl rfl (y_assign rfl) ?_
 refine ops_nil ?_
 refine goes_code ?_
 refine run_ret ?_
 obtain rfl := some_eq h
 refine fin_slots [2] [.bool (decide ((m_0.Routes.length : Int) ≤ 1000))] [] [] Try.results18 rfl (by decide) rfl ?_
 exact ⟨rfl, rfl⟩

def ref42_route_L1 (m_0 : S_api_Map) (s_1 : (List UInt8)) : (Int) → Option (Lp (Int) (Lp (Unit) ((List Int) × Bool))) :=
 fun i_6 =>
  cond (decide (i_6 < (m_0.Routes.length : Int)))
   (idx m_0.Routes i_6 fun x12 =>
   cond (decide (x12.Country = s_1))
    (some (.stop (.stop (x12.Sites, true))))
    (some (.go (IntKind.i64.wrap (i_6 + 1)))))
   (some (.stop (.go ())))
def ref42_route (n : Nat) (m_0 : S_api_Map) (s_1 : (List UInt8)) : Option ((List Int) × Bool) :=
 bindJ (S := Unit)
  (iter (ref42_route_L1 m_0 s_1) n 0)
 (fun _ =>
  some (([] : List Int), false))
theorem ref42_route_ok (n : Nat) (m_0 : S_api_Map) (s_1 : (List UInt8)) (m_0_Hubsv : Value) (m_0_Routesv : Value) {r : (List Int) × Bool} (h : ref42_route n m_0 s_1 = some r) :
  Meets Try.prog 37 [.agg #[m_0_Hubsv, m_0_Routesv], .string (bs s_1)] [ro m_0_Hubsv 3 (m_0.Hubs.map S_api_Hub.enc), nro m_0_Routesv NC_api_Route_82 m_0.Routes] (fun v G => ∃ v0, v = .tuple #[v0, .bool r.2] ∧ G = [ro v0 1 (r.1.map (eInt .i64))]) := by
 refine fn_of_run Try.func37 rfl Try.ntmps37 rfl (fun w0 o0 => ?_)
 refine run_seq ?_
 refine run_region' ?_
 refine ot rfl rfl (t_box rfl) ?_
 rintro _ _ ⟨b1, rfl, rfl⟩
 refine oy rfl rfl (y_assign rfl) ?_
 refine oy rfl rfl (y_assign rfl) ?_
 refine ops_nil ?_
 refine goes_code ?_
 obtain ⟨o2, h, ho3⟩ := bindJ_some h
 refine run_cut ((Unit) × (Unit)) (fun σ => []) (fun σ => []) (fun σ => o2 = .go σ.1) (fun L5 hL4 => ?_) ?_
 ·
  refine run_seq ?_
  refine run_region' ?_
  refine oy rfl rfl (y_assign rfl) ?_
  refine ops_nil ?_
  refine goes_code ?_
  refine run_block ?_
  refine run_iter (step := ref42_route_L1 m_0 s_1) (n := n) (s0 := 0) h (G := Unit) () (fun σ γ => [(1, .string (bs s_1)), (2, boxP b1 0), (6, .int .i64 σ)]) (fun σ γ => [box b1 [m_0_Hubsv, m_0_Routesv], ro m_0_Hubsv 3 (m_0.Hubs.map S_api_Hub.enc), nro m_0_Routesv NC_api_Route_82 m_0.Routes]) [2, 0, 1] (vcons rfl (vcons rfl (vcons rfl (vnil)))) (by decide) rfl ?_
  rintro i_6 _ o7 h L10 hgo8 hstop9
  change Run _ _ _ (VF.of [(1, .string (bs s_1)), (2, boxP b1 0), (6, .int .i64 i_6)]) [box b1 [m_0_Hubsv, m_0_Routesv], ro m_0_Hubsv 3 (m_0.Hubs.map S_api_Hub.enc), nro m_0_Routesv NC_api_Route_82 m_0.Routes]
  refine run_seq ?_
  refine run_seq ?_
  refine run_region' ?_
  refine oy rfl rfl (y_move rfl) ?_
  refine oy rfl rfl (y_fieldAddr_box (sz := 0) Try.runUnderlying25 rfl Try.sizeOf23 rfl) ?_
  refine oy rfl rfl (y_load_box 0 Try.isAgg23 rfl rfl rfl) ?_
  refine oy rfl rfl (y_lenN 2 rfl Try.runUnderlying23 rfl rfl readsN_ro) ?_
  refine oy rfl rfl (y_lss rfl rfl) ?_
  refine ops_nil ?_
  refine goes_code ?_
  refine run_cond (decide (i_6 < (m_0.Routes.length : Int))) rfl (fun hc11 => ?_) (fun hc11 => ?_)
  ·replace h := cond_t h hc11
   refine run_skip ?_
   refine goes_code ?_
   refine run_seq ?_
   refine run_block ?_
   refine run_seq ?_
   refine run_region' ?_
   refine oy rfl rfl (y_fieldAddr_box (sz := 0) Try.runUnderlying25 rfl Try.sizeOf23 rfl) ?_
   refine oy rfl rfl (y_load_box 0 Try.isAgg23 rfl rfl rfl) ?_
   refine oy rfl rfl (y_move rfl) ?_
   obtain ⟨x12, hzx12, hlx12, hxx12, h⟩ := idx_some h
   refine oy rfl rfl (y_indexAddrN (kd := .i64) (i := i_6) 2 Try.runUnderlying23 Try.sizeOf82 rfl rfl rfl readsN_ro hzx12 hlx12) ?_
   refine ops_ex (exAt (C := NC_api_Route_82) (i := i_6.toNat) 2 rfl hxx12) ?_
   rintro g13
   refine oy rfl rfl (y_fieldAddr_elem (sz := 0) Try.runUnderlying82 rfl Try.sizeOf9 rfl) ?_
   refine oy rfl rfl (y_load_at (n := i_6.toNat * 2) (j := 0) 3 Try.isAgg9 rfl rfl rfl) ?_
   refine oy rfl rfl (y_move rfl) ?_
   refine oy rfl rfl (y_seql rfl rfl) ?_
   refine ops_nil ?_
   refine goes_code ?_
   refine run_cond (decide (x12.Country = s_1)) rfl (fun hc14 => ?_) (fun hc14 => ?_)
   ·replace h := cond_t h hc14
    refine run_seq ?_
    refine run_weak [(2, boxP b1 0), (6, .int .i64 i_6)] [0, 1, 2] [box b1 [m_0_Hubsv, m_0_Routesv], ro m_0_Hubsv 3 (m_0.Hubs.map S_api_Hub.enc), nro m_0_Routesv NC_api_Route_82 m_0.Routes] (vcons rfl (vcons rfl (vnil))) (by decide) rfl ?_
    refine run_region' ?_
    refine oy rfl rfl (y_fieldAddr_box (sz := 0) Try.runUnderlying25 rfl Try.sizeOf23 rfl) ?_
    refine oy rfl rfl (y_load_box 0 Try.isAgg23 rfl rfl rfl) ?_
    refine oy rfl rfl (y_move rfl) ?_
    refine oy rfl rfl (y_indexAddrN (kd := .i64) (i := i_6) 2 Try.runUnderlying23 Try.sizeOf82 rfl rfl rfl readsN_ro hzx12 hlx12) ?_
    refine ops_ex (exAt (C := NC_api_Route_82) (i := i_6.toNat) 2 rfl hxx12) ?_
    rintro g15
    refine oy rfl rfl (y_fieldAddr_elem (sz := 0) Try.runUnderlying82 rfl Try.sizeOf35 rfl) ?_
    refine oy rfl rfl (y_load_at (n := i_6.toNat * 2) (j := 1) 3 Try.isAgg35 rfl rfl rfl) ?_
    refine oy rfl rfl (y_assign rfl) ?_
    refine oy rfl rfl (y_assign rfl) ?_
    refine ops_nil ?_
    refine goes_code ?_
    refine run_ret ?_
    obtain rfl := some_eq h
    obtain rfl := hstop9 _ rfl
    skip
    obtain rfl := after_stop ho3
    refine fin_slots [4, 5] [g15, .bool true] [4] [ro g15 1 (x12.Sites.map (eInt .i64))] Try.results37 rfl (by decide) rfl ?_
    exact ⟨_, rfl, rfl⟩
   ·replace h := cond_f h hc14
    refine run_skip ?_
    refine goes_blk ?_
    refine goes_code ?_
    refine run_weak [(1, .string (bs s_1)), (2, boxP b1 0), (6, .int .i64 i_6)] [0, 1, 2] [box b1 [m_0_Hubsv, m_0_Routesv], ro m_0_Hubsv 3 (m_0.Hubs.map S_api_Hub.enc), nro m_0_Routesv NC_api_Route_82 m_0.Routes] (vcons rfl (vcons rfl (vcons rfl (vnil)))) (by decide) rfl ?_
    refine run_region' ?_
    refine oy rfl rfl (y_move rfl) ?_
    refine oy rfl rfl (y_add rfl rfl) ?_
    refine oy rfl rfl (y_assign rfl) ?_
    refine ops_nil ?_
    obtain rfl := some_eq h
    exact goes_iter hgo8 (IntKind.i64.wrap (i_6 + 1)) () [0, 1, 2] rfl (vcons rfl (vcons rfl (vcons rfl (vnil)))) (by decide) rfl
  ·replace h := cond_f h hc11
   refine run_exit _ rfl ?_
   obtain rfl := some_eq h
   obtain rfl := hstop9 _ rfl
   exact goes_cut hL4 ((), ()) [] vnil (by decide) rfl rfl
 rintro ⟨_, _⟩ hj
 obtain rfl : o2 = _ := hj
 replace h := after_go ho3
 clear ho3
 change Run _ _ _ (VF.of []) []
 refine run_seq ?_
 refine run_region' ?_
 refine oy rfl rfl (y_assign rfl) ?_
 refine oy rfl rfl (y_assign rfl) ?_
 refine ops_nil ?_
 refine goes_code ?_
 refine run_ret ?_
 refine fin_turn (nilro 1) ?_
 refine fin_turn (retell 0 (g := ro (.slice none 0 0) 1 (([] : List Int).map (eInt .i64))) rfl rfl) ?_
 obtain rfl := some_eq h
 refine fin_slots [4, 5] [(.slice none 0 0), .bool false] [0] [ro (.slice none 0 0) 1 (([] : List Int).map (eInt .i64))] Try.results37 rfl (by decide) rfl ?_
 exact ⟨_, rfl, rfl⟩

def ref42_Entry_L1 (n : Nat) (m_0 : S_api_Map) (l_9 : (List Int)) : (Int) → Option (Lp (Int) (Lp (Unit) (S_ref42_Number))) :=
 fun i_23 =>
  cond (decide (i_23 < (l_9.length : Int)))
   (idx l_9 i_23 fun x29 =>
   obind (ref42_hub n m_0 x29) fun r30 =>
   idx m_0.Hubs r30 fun x32 =>
   cond x32.Up
    (some (.stop (.stop (S_ref42_Number.mk x29 0))))
    (some (.go (IntKind.i64.wrap (i_23 + 1)))))
   (some (.stop (.go ())))
def ref42_Entry (n : Nat) (m_0 : S_api_Map) (s_1 : (List UInt8)) : Option (S_ref42_Number) :=
 obind (ref42_ValidMap n m_0) fun r3 =>
 cond (!r3)
  (some (S_ref42_Number.mk 0 1))
  (obind (ref42_route n m_0 s_1) fun r6 =>
  bindJ (S := (List Int))
   (cond (!r6.2)
    (obind (ref42_route n m_0 []) fun r16 =>
    some (.go r16.1))
    (some (.go r6.1)))
  (fun l_9 =>
   bindJ (S := Unit)
    (iter (ref42_Entry_L1 n m_0 l_9) n 0)
   (fun _ =>
    some (S_ref42_Number.mk 0 5))))
theorem ref42_Entry_ok (n : Nat) (m_0 : S_api_Map) (s_1 : (List UInt8)) (m_0_Hubsv : Value) (m_0_Routesv : Value) {r : S_ref42_Number} (h : ref42_Entry n m_0 s_1 = some r) :
  Meets Try.prog 10 [.agg #[m_0_Hubsv, m_0_Routesv], .string (bs s_1)] [ro m_0_Hubsv 3 (m_0.Hubs.map S_api_Hub.enc), nro m_0_Routesv NC_api_Route_82 m_0.Routes] (fun v G => v = .agg #[.int .i64 r.N, .int .i64 r.E] ∧ G = []) := by
 refine fn_of_run Try.func10 rfl Try.ntmps10 rfl (fun w0 o0 => ?_)
 refine run_seq ?_
 refine run_region' ?_
 refine ot rfl rfl (t_box rfl) ?_
 rintro _ _ ⟨b1, rfl, rfl⟩
 refine ot rfl rfl (t_alloc Try.zeroValue33) ?_
 rintro _ _ ⟨b2, rfl, rfl⟩
 refine ops_nil ?_
 refine goes_code ?_
 refine run_seq ?_
 refine run_region' ?_
 refine oy rfl rfl (y_load_boxagg (c := [m_0_Hubsv, m_0_Routesv]) 2 Try.isAgg25 Try.sizeOf25 rfl rfl rfl) ?_
 obtain ⟨r3, hr4, h⟩ := obind_some h
 refine ot rfl rfl (t_callx (vs := [.agg #[m_0_Hubsv, m_0_Routesv]]) (cs := []) [(0, 0), (1, 0)] rfl Try.call18 rfl (ref42_ValidMap_ok n m_0 m_0_Hubsv m_0_Routesv hr4) (showsX_view 0 rfl views_ro (showsX_view 1 rfl views_nro showsX_nil)) rfl (.inl rfl)) ?_
 rintro _ _ ⟨_, ⟨rfl, rfl⟩, rfl⟩
 refine oy rfl rfl (y_assign rfl) ?_
 refine ops_nil ?_
 refine goes_code ?_
 refine run_seq ?_
 refine run_seq ?_
 refine run_region' ?_
 refine oy rfl rfl (y_move rfl) ?_
 refine oy rfl rfl (y_not rfl) ?_
 refine ops_nil ?_
 refine goes_code ?_
 refine run_cond (!r3) rfl (fun hc5 => ?_) (fun hc5 => ?_)
 ·replace h := cond_t h hc5
  refine run_seq ?_
  refine run_region' ?_
  refine oy rfl rfl (y_build_struct (cells := #[.int .i64 0, .int .i64 1]) [(1, .int .i64 1)] [(1, [.int .i64 1])] Try.zeroValue33 Try.runUnderlying33 (fs_cons Try.sizeOf3 (fs_cons Try.sizeOf29 fs_nil)) rfl rfl rfl) ?_
  refine ot rfl rfl (t_store 3 Try.sizeOf33 rfl rfl rfl rfl (by simp [Value.cells, boxP]) (by simp [Value.cells, Value.oneCell', boxP])) ?_
  rintro _ _ ⟨rfl, rfl⟩
  refine ops_turn (retell 3 (g := box b2 [.int .i64 0, .int .i64 1]) rfl rfl) ?_
  refine ops_nil ?_
  refine goes_code ?_
  refine run_ret ?_
  obtain rfl := some_eq h
  refine fin_res [.cell 4 33] [.agg #[.int .i64 0, .int .i64 1]] [] [] Try.results10 rfl (rescons (res_box 3 Try.isAgg33 Try.sizeOf33 rfl rfl rfl) resnil) (by decide) rfl ?_
  exact ⟨rfl, rfl⟩
 ·replace h := cond_f h hc5
  refine run_skip ?_
  refine goes_code ?_
  refine run_seq ?_
  refine run_region' ?_
  refine oy rfl rfl (y_load_boxagg (c := [m_0_Hubsv, m_0_Routesv]) 2 Try.isAgg25 Try.sizeOf25 rfl rfl rfl) ?_
  refine oy rfl rfl (y_move rfl) ?_
  obtain ⟨r6, hr7, h⟩ := obind_some h
  refine ot rfl rfl (t_callx (vs := [.agg #[m_0_Hubsv, m_0_Routesv], .string (bs s_1)]) (cs := []) [(0, 0), (1, 0)] rfl Try.call37 rfl (ref42_route_ok n m_0 s_1 m_0_Hubsv m_0_Routesv hr7) (showsX_view 0 rfl views_ro (showsX_view 1 rfl views_nro showsX_nil)) rfl (.inl rfl)) ?_
  rintro _ _ ⟨_, ⟨v8, rfl, rfl⟩, rfl⟩
  refine oy rfl rfl (y_move rfl) ?_
  refine oy rfl rfl (y_extract rfl rfl) ?_
  refine oy rfl rfl (y_extract rfl rfl) ?_
  refine oy rfl rfl (y_assign rfl) ?_
  refine oy rfl rfl (y_assign rfl) ?_
  refine ops_nil ?_
  refine goes_code ?_
  obtain ⟨o11, h, ho12⟩ := bindJ_some h
  refine run_cut (((List Int)) × (Value)) (fun σ => [(2, boxP b1 0), (4, boxP b2 0), (6, σ.2)]) (fun σ => [box b1 [m_0_Hubsv, m_0_Routesv], ro m_0_Hubsv 3 (m_0.Hubs.map S_api_Hub.enc), nro m_0_Routesv NC_api_Route_82 m_0.Routes, box b2 [.int .i64 0, .int .i64 0], ro σ.2 1 (σ.1.map (eInt .i64))]) (fun σ => o11 = .go σ.1) (fun L14 hL13 => ?_) ?_
  ·
   refine run_seq ?_
   refine run_weak [(2, boxP b1 0), (4, boxP b2 0), (6, v8), (7, .bool r6.2)] [0, 1, 2, 3, 4] [ro m_0_Hubsv 3 (m_0.Hubs.map S_api_Hub.enc), nro m_0_Routesv NC_api_Route_82 m_0.Routes, box b1 [m_0_Hubsv, m_0_Routesv], box b2 [.int .i64 0, .int .i64 0], ro v8 1 (r6.1.map (eInt .i64))] (vcons rfl (vcons rfl (vcons rfl (vcons rfl (vnil))))) (by decide) rfl ?_
   refine run_region' ?_
   refine oy rfl rfl (y_move rfl) ?_
   refine oy rfl rfl (y_not rfl) ?_
   refine ops_nil ?_
   refine goes_code ?_
   refine run_cond (!r6.2) rfl (fun hc15 => ?_) (fun hc15 => ?_)
   ·replace h := cond_t h hc15
    refine run_region' ?_
    refine oy rfl rfl (y_load_boxagg (c := [m_0_Hubsv, m_0_Routesv]) 2 Try.isAgg25 Try.sizeOf25 rfl rfl rfl) ?_
    obtain ⟨r16, hr17, h⟩ := obind_some h
    refine ot rfl rfl (t_callx (vs := [.agg #[m_0_Hubsv, m_0_Routesv], .string (bs [])]) (cs := []) [(0, 0), (1, 0)] rfl Try.call37 rfl (ref42_route_ok n m_0 [] m_0_Hubsv m_0_Routesv hr17) (showsX_view 0 rfl views_ro (showsX_view 1 rfl views_nro showsX_nil)) rfl (.inl rfl)) ?_
    rintro _ _ ⟨_, ⟨v18, rfl, rfl⟩, rfl⟩
    refine oy rfl rfl (y_move rfl) ?_
    refine oy rfl rfl (y_extract rfl rfl) ?_
    refine oy rfl rfl (y_extract rfl rfl) ?_
    refine oy rfl rfl (y_assign rfl) ?_
    refine ops_nil ?_
    obtain rfl := some_eq h
    exact goes_cut hL13 (r16.1, v18) [2, 0, 1, 3, 5] (vcons rfl (vcons rfl (vcons rfl (vnil)))) (by decide) rfl rfl
   ·replace h := cond_f h hc15
    refine run_skip ?_
    obtain rfl := some_eq h
    exact goes_cut hL13 (r6.1, v8) [2, 0, 1, 3, 4] (vcons rfl (vcons rfl (vcons rfl (vnil)))) (by decide) rfl rfl
  rintro ⟨l_9, v10⟩ hj
  obtain rfl : o11 = _ := hj
  replace h := after_go ho12
  clear ho12
  change Run _ _ _ (VF.of [(2, boxP b1 0), (4, boxP b2 0), (6, v10)]) [box b1 [m_0_Hubsv, m_0_Routesv], ro m_0_Hubsv 3 (m_0.Hubs.map S_api_Hub.enc), nro m_0_Routesv NC_api_Route_82 m_0.Routes, box b2 [.int .i64 0, .int .i64 0], ro v10 1 (l_9.map (eInt .i64))]
  obtain ⟨o19, h, ho20⟩ := bindJ_some h
  refine run_cut ((Unit) × (Unit)) (fun σ => [(4, boxP b2 0)]) (fun σ => [box b2 [.int .i64 0, .int .i64 0]]) (fun σ => o19 = .go σ.1) (fun L22 hL21 => ?_) ?_
  ·
   refine run_seq ?_
   refine run_region' ?_
   refine oy rfl rfl (y_assign rfl) ?_
   refine ops_nil ?_
   refine goes_code ?_
   refine run_block ?_
   refine run_iter (step := ref42_Entry_L1 n m_0 l_9) (n := n) (s0 := 0) h (G := Unit) () (fun σ γ => [(2, boxP b1 0), (4, boxP b2 0), (6, v10), (8, .int .i64 σ)]) (fun σ γ => [box b1 [m_0_Hubsv, m_0_Routesv], ro m_0_Hubsv 3 (m_0.Hubs.map S_api_Hub.enc), nro m_0_Routesv NC_api_Route_82 m_0.Routes, box b2 [.int .i64 0, .int .i64 0], ro v10 1 (l_9.map (eInt .i64))]) [0, 1, 2, 3, 4] (vcons rfl (vcons rfl (vcons rfl (vcons rfl (vnil))))) (by decide) rfl ?_
   rintro i_23 _ o24 h L27 hgo25 hstop26
   change Run _ _ _ (VF.of [(2, boxP b1 0), (4, boxP b2 0), (6, v10), (8, .int .i64 i_23)]) [box b1 [m_0_Hubsv, m_0_Routesv], ro m_0_Hubsv 3 (m_0.Hubs.map S_api_Hub.enc), nro m_0_Routesv NC_api_Route_82 m_0.Routes, box b2 [.int .i64 0, .int .i64 0], ro v10 1 (l_9.map (eInt .i64))]
   refine run_seq ?_
   refine run_seq ?_
   refine run_region' ?_
   refine oy rfl rfl (y_move rfl) ?_
   refine oy rfl rfl (y_move rfl) ?_
   refine oy rfl rfl ((y_len 4 rfl Try.runUnderlying35 rfl rfl reads_ro).to (v_len (eInt .i64) _)) ?_
   refine oy rfl rfl (y_lss rfl rfl) ?_
   refine ops_nil ?_
   refine goes_code ?_
   refine run_cond (decide (i_23 < (l_9.length : Int))) rfl (fun hc28 => ?_) (fun hc28 => ?_)
   ·replace h := cond_t h hc28
    refine run_skip ?_
    refine goes_code ?_
    refine run_seq ?_
    refine run_block ?_
    refine run_seq ?_
    refine run_drawany [box b1 [m_0_Hubsv, m_0_Routesv], ro m_0_Hubsv 3 (m_0.Hubs.map S_api_Hub.enc), nro m_0_Routesv NC_api_Route_82 m_0.Routes, box b2 [.int .i64 0, .int .i64 0], ro v10 1 (l_9.map (eInt .i64))] (by kernel_rfl) ?_
    refine any_y 0 rfl (by kernel_rfl) (by kernel_rfl) (by kernel_rfl) (ss (ss (ss (ss (ss (sn)))))) (wn rfl) rfl (y_fieldAddr_box (sz := 0) Try.runUnderlying25 rfl Try.sizeOf22 rfl) ?_
    refine any_y 1 rfl (by kernel_rfl) (by kernel_rfl) (by kernel_rfl) (ss (ss (ss (ss (ss (sn)))))) (wn rfl) rfl (y_load_box 0 Try.isAgg22 rfl rfl rfl) ?_
    refine any_y 2 rfl (by kernel_rfl) (by kernel_rfl) (by kernel_rfl) (ss (ss (ss (ss (ss (sn)))))) (wn rfl) rfl (y_load_boxagg (c := [m_0_Hubsv, m_0_Routesv]) 0 Try.isAgg25 Try.sizeOf25 rfl rfl rfl) ?_
    refine any_y 3 rfl (by kernel_rfl) (by kernel_rfl) (by kernel_rfl) (ss (ss (ss (ss (ss (sn)))))) (wn rfl) rfl (y_move rfl) ?_
    refine any_y 4 rfl (by kernel_rfl) (by kernel_rfl) (by kernel_rfl) (ss (ss (ss (ss (ss (sn)))))) (wn rfl) rfl (y_move rfl) ?_
    obtain ⟨x29, hzx29, hlx29, hxx29, h⟩ := idx_some h
    refine any_y 5 rfl (by kernel_rfl) (by kernel_rfl) (by kernel_rfl) (ss (ss (ss (ss (ss (sn)))))) (wn rfl) rfl (y_indexAddrI (kd := .i64) (i := i_23) 4 Try.runUnderlying35 Try.sizeOf3 rfl rfl rfl reads_ro hzx29 (map_lt hlx29)) ?_
    refine any_y 6 rfl (by kernel_rfl) (by kernel_rfl) (by kernel_rfl) (ss (ss (ss (ss (ss (sn)))))) (wn rfl) rfl (y_load_elem (i := i_23.toNat) 4 Try.isAgg3 rfl rfl reads_ro (map_get hxx29)) ?_
    refine any_all [7] (by kernel_rfl) rfl (anyo_cons ?_ anyo_nil)
    obtain ⟨r30, hr31, h⟩ := obind_some h
    refine any_t rfl (wn rfl) rfl (t_callx (vs := [.agg #[m_0_Hubsv, m_0_Routesv], .int .i64 x29]) (cs := []) [(1, 0), (2, 0)] rfl Try.call38 rfl (ref42_hub_ok n m_0 x29 m_0_Hubsv m_0_Routesv hr31) (showsX_view 1 rfl views_ro (showsX_view 2 rfl views_nro showsX_nil)) rfl (.inl rfl)) ?_
    rintro _ _ ⟨_, ⟨rfl, rfl⟩, rfl⟩
    refine ⟨(ss (ss (ss (ss (ss (sn)))))), ?_⟩
    obtain ⟨x32, hzx32, hlx32, hxx32, h⟩ := idx_some h
    refine any_y 8 rfl (by kernel_rfl) (by kernel_rfl) (by kernel_rfl) (ss (ss (ss (ss (ss (sn)))))) (wn rfl) rfl (y_indexAddrI (kd := .i64) (i := r30) 1 Try.runUnderlying22 Try.sizeOf52 rfl rfl rfl reads_ro hzx32 (map_lt hlx32)) ?_
    refine any_y 9 rfl (by kernel_rfl) (by kernel_rfl) (by kernel_rfl) (ss (ss (ss (ss (ss (sn)))))) (wn rfl) rfl (y_fieldAddr_elem (sz := 0) Try.runUnderlying52 rfl Try.sizeOf4 rfl) ?_
    refine any_y 10 rfl (by kernel_rfl) (by kernel_rfl) (by kernel_rfl) (ss (ss (ss (ss (ss (sn)))))) (wn rfl) rfl (y_load_field (i := r30.toNat) (j := 2) 1 Try.isAgg4 rfl rfl reads_ro (map_get hxx32) rfl) ?_
    refine any_nil (by kernel_rfl) ?_
    refine goes_code ?_
    refine run_cond x32.Up rfl (fun hc33 => ?_) (fun hc33 => ?_)
    ·replace h := cond_t h hc33
     refine run_seq ?_
     refine run_weak [(4, boxP b2 0), (6, v10), (8, .int .i64 i_23)] [3, 4] [box b2 [.int .i64 0, .int .i64 0], ro v10 1 (l_9.map (eInt .i64))] (vcons rfl (vcons rfl (vcons rfl (vnil)))) (by decide) rfl ?_
     refine run_region' ?_
     refine oy rfl rfl (y_move rfl) ?_
     refine oy rfl rfl (y_move rfl) ?_
     refine oy rfl rfl (y_indexAddrI (kd := .i64) (i := i_23) 1 Try.runUnderlying35 Try.sizeOf3 rfl rfl rfl reads_ro hzx29 (map_lt hlx29)) ?_
     refine oy rfl rfl (y_load_elem (i := i_23.toNat) 1 Try.isAgg3 rfl rfl reads_ro (map_get hxx29)) ?_
     refine oy rfl rfl (y_build_struct (cells := #[.int .i64 x29, .int .i64 0]) [(0, .int .i64 x29)] [(0, [.int .i64 x29])] Try.zeroValue33 Try.runUnderlying33 (fs_cons Try.sizeOf3 (fs_cons Try.sizeOf29 fs_nil)) rfl rfl rfl) ?_
     refine ot rfl rfl (t_store 0 Try.sizeOf33 rfl rfl rfl rfl (by simp [Value.cells, boxP]) (by simp [Value.cells, Value.oneCell', boxP])) ?_
     rintro _ _ ⟨rfl, rfl⟩
     refine ops_turn (retell 0 (g := box b2 [.int .i64 x29, .int .i64 0]) rfl rfl) ?_
     refine ops_nil ?_
     refine goes_code ?_
     refine run_ret ?_
     obtain rfl := some_eq h
     obtain rfl := hstop26 _ rfl
     skip
     obtain rfl := after_stop ho20
     refine fin_res [.cell 4 33] [.agg #[.int .i64 x29, .int .i64 0]] [] [] Try.results10 rfl (rescons (res_box 0 Try.isAgg33 Try.sizeOf33 rfl rfl rfl) resnil) (by decide) rfl ?_
     exact ⟨rfl, rfl⟩
    ·replace h := cond_f h hc33
     refine run_skip ?_
     refine goes_blk ?_
     refine goes_code ?_
     refine run_weak [(2, boxP b1 0), (4, boxP b2 0), (6, v10), (8, .int .i64 i_23)] [0, 1, 2, 3, 4] [box b1 [m_0_Hubsv, m_0_Routesv], ro m_0_Hubsv 3 (m_0.Hubs.map S_api_Hub.enc), nro m_0_Routesv NC_api_Route_82 m_0.Routes, box b2 [.int .i64 0, .int .i64 0], ro v10 1 (l_9.map (eInt .i64))] (vcons rfl (vcons rfl (vcons rfl (vcons rfl (vnil))))) (by decide) rfl ?_
     refine run_region' ?_
     refine oy rfl rfl (y_move rfl) ?_
     refine oy rfl rfl (y_add rfl rfl) ?_
     refine oy rfl rfl (y_assign rfl) ?_
     refine ops_nil ?_
     obtain rfl := some_eq h
     exact goes_iter hgo25 (IntKind.i64.wrap (i_23 + 1)) () [0, 1, 2, 3, 4] rfl (vcons rfl (vcons rfl (vcons rfl (vcons rfl (vnil))))) (by decide) rfl
   ·replace h := cond_f h hc28
    refine run_exit _ rfl ?_
    obtain rfl := some_eq h
    obtain rfl := hstop26 _ rfl
    exact goes_cut hL21 ((), ()) [3] (vcons rfl (vnil)) (by decide) rfl rfl
  rintro ⟨_, _⟩ hj
  obtain rfl : o19 = _ := hj
  replace h := after_go ho20
  clear ho20
  change Run _ _ _ (VF.of [(4, boxP b2 0)]) [box b2 [.int .i64 0, .int .i64 0]]
  refine run_seq ?_
  refine run_region' ?_
  refine oy rfl rfl (y_build_struct (cells := #[.int .i64 0, .int .i64 5]) [(1, .int .i64 5)] [(1, [.int .i64 5])] Try.zeroValue33 Try.runUnderlying33 (fs_cons Try.sizeOf3 (fs_cons Try.sizeOf29 fs_nil)) rfl rfl rfl) ?_
  refine ot rfl rfl (t_store 0 Try.sizeOf33 rfl rfl rfl rfl (by simp [Value.cells, boxP]) (by simp [Value.cells, Value.oneCell', boxP])) ?_
  rintro _ _ ⟨rfl, rfl⟩
  refine ops_turn (retell 0 (g := box b2 [.int .i64 0, .int .i64 5]) rfl rfl) ?_
  refine ops_nil ?_
  refine goes_code ?_
  refine run_ret ?_
  obtain rfl := some_eq h
  refine fin_res [.cell 4 33] [.agg #[.int .i64 0, .int .i64 5]] [] [] Try.results10 rfl (rescons (res_box 0 Try.isAgg33 Try.sizeOf33 rfl rfl rfl) resnil) (by decide) rfl ?_
  exact ⟨rfl, rfl⟩

def ref42_Climb_L1 (n : Nat) (m_0 : S_api_Map) : (Int × (List Int)) → Option (Lp (Int × (List Int)) (Lp ((List Int)) (S_ref42_Sites))) :=
 fun (n_15, out_16) =>
  cond (decide (0 ≤ n_15))
   (obind (ref42_hub n m_0 n_15) fun r23 =>
   idx m_0.Hubs r23 fun x25 =>
   bindJ (S := (List Int))
    (cond x25.Up
     (need (out_16.length + ([n_15] : List Int).length ≤ 4294967296) (
     some (.go (out_16 ++ ([n_15] : List Int)))))
     (some (.go out_16)))
   (fun out_30 =>
    some (.go (x25.Parent, out_30))))
   (some (.stop (.go out_16)))
def ref42_Climb (n : Nat) (m_0 : S_api_Map) (n_1 : Int) : Option (S_ref42_Sites) :=
 obind (ref42_ValidMap n m_0) fun r3 =>
 cond (!r3)
  (some (S_ref42_Sites.mk ([] : List Int) 1))
  (obind (ref42_hub n m_0 n_1) fun r6 =>
  cond (decide (r6 < 0))
   (some (S_ref42_Sites.mk ([] : List Int) 5))
   (bindJ (S := (List Int))
    (iter (ref42_Climb_L1 n m_0) n (n_1, ([] : List Int)))
   (fun out_9 =>
    some (S_ref42_Sites.mk out_9 0))))
theorem ref42_Climb_ok (n : Nat) (m_0 : S_api_Map) (n_1 : Int) (m_0_Hubsv : Value) (m_0_Routesv : Value) {r : S_ref42_Sites} (h : ref42_Climb n m_0 n_1 = some r) :
  Meets Try.prog 14 [.agg #[m_0_Hubsv, m_0_Routesv], .int .i64 n_1] [ro m_0_Hubsv 3 (m_0.Hubs.map S_api_Hub.enc), nro m_0_Routesv NC_api_Route_82 m_0.Routes] (fun v G => ∃ v0, v = .agg #[v0, .int .i64 r.E] ∧ G = [row v0 1 (r.L.map (eInt .i64))]) := by
 refine fn_of_run Try.func14 rfl Try.ntmps14 rfl (fun w0 o0 => ?_)
 refine run_seq ?_
 refine run_region' ?_
 refine ot rfl rfl (t_box rfl) ?_
 rintro _ _ ⟨b1, rfl, rfl⟩
 refine ot rfl rfl (t_alloc Try.zeroValue42) ?_
 rintro _ _ ⟨b2, rfl, rfl⟩
 refine ops_nil ?_
 refine goes_code ?_
 refine run_seq ?_
 refine run_region' ?_
 refine oy rfl rfl (y_load_boxagg (c := [m_0_Hubsv, m_0_Routesv]) 2 Try.isAgg25 Try.sizeOf25 rfl rfl rfl) ?_
 obtain ⟨r3, hr4, h⟩ := obind_some h
 refine ot rfl rfl (t_callx (vs := [.agg #[m_0_Hubsv, m_0_Routesv]]) (cs := []) [(0, 0), (1, 0)] rfl Try.call18 rfl (ref42_ValidMap_ok n m_0 m_0_Hubsv m_0_Routesv hr4) (showsX_view 0 rfl views_ro (showsX_view 1 rfl views_nro showsX_nil)) rfl (.inl rfl)) ?_
 rintro _ _ ⟨_, ⟨rfl, rfl⟩, rfl⟩
 refine oy rfl rfl (y_assign rfl) ?_
 refine ops_nil ?_
 refine goes_code ?_
 refine run_seq ?_
 refine run_seq ?_
 refine run_region' ?_
 refine oy rfl rfl (y_move rfl) ?_
 refine oy rfl rfl (y_not rfl) ?_
 refine ops_nil ?_
 refine goes_code ?_
 refine run_cond (!r3) rfl (fun hc5 => ?_) (fun hc5 => ?_)
 ·replace h := cond_t h hc5
  refine run_seq ?_
  refine run_region' ?_
  refine oy rfl rfl (y_build_struct (cells := #[.slice none 0 0, .int .i64 1]) [(1, .int .i64 1)] [(1, [.int .i64 1])] Try.zeroValue42 Try.runUnderlying42 (fs_cons Try.sizeOf35 (fs_cons Try.sizeOf29 fs_nil)) rfl rfl rfl) ?_
  refine ot rfl rfl (t_store 3 Try.sizeOf42 rfl rfl rfl rfl (by simp [Value.cells, boxP]) (by simp [Value.cells, Value.oneCell', boxP])) ?_
  rintro _ _ ⟨rfl, rfl⟩
  refine ops_turn (retell 3 (g := box b2 [.slice none 0 0, .int .i64 1]) rfl rfl) ?_
  refine ops_nil ?_
  refine goes_code ?_
  refine run_ret ?_
  refine fin_turn (nilrow 1) ?_
  refine fin_turn (retell 4 (g := row (.slice none 0 0) 1 (([] : List Int).map (eInt .i64))) rfl rfl) ?_
  obtain rfl := some_eq h
  refine fin_res [.cell 4 42] [.agg #[(.slice none 0 0), .int .i64 1]] [4] [row (.slice none 0 0) 1 (([] : List Int).map (eInt .i64))] Try.results14 rfl (rescons (res_box 3 Try.isAgg42 Try.sizeOf42 rfl rfl rfl) resnil) (by decide) rfl ?_
  exact ⟨_, rfl, rfl⟩
 ·replace h := cond_f h hc5
  refine run_skip ?_
  refine goes_code ?_
  refine run_seq ?_
  refine run_seq ?_
  refine run_region' ?_
  refine oy rfl rfl (y_load_boxagg (c := [m_0_Hubsv, m_0_Routesv]) 2 Try.isAgg25 Try.sizeOf25 rfl rfl rfl) ?_
  refine oy rfl rfl (y_move rfl) ?_
  obtain ⟨r6, hr7, h⟩ := obind_some h
  refine ot rfl rfl (t_callx (vs := [.agg #[m_0_Hubsv, m_0_Routesv], .int .i64 n_1]) (cs := []) [(0, 0), (1, 0)] rfl Try.call38 rfl (ref42_hub_ok n m_0 n_1 m_0_Hubsv m_0_Routesv hr7) (showsX_view 0 rfl views_ro (showsX_view 1 rfl views_nro showsX_nil)) rfl (.inl rfl)) ?_
  rintro _ _ ⟨_, ⟨rfl, rfl⟩, rfl⟩
  refine oy rfl rfl (y_lss rfl rfl) ?_
  refine ops_nil ?_
  refine goes_code ?_
  refine run_cond (decide (r6 < 0)) rfl (fun hc8 => ?_) (fun hc8 => ?_)
  ·replace h := cond_t h hc8
   refine run_seq ?_
   refine run_weak [(4, boxP b2 0)] [3] [box b2 [.slice none 0 0, .int .i64 0]] (vcons rfl (vnil)) (by decide) rfl ?_
   refine run_region' ?_
   refine oy rfl rfl (y_build_struct (cells := #[.slice none 0 0, .int .i64 5]) [(1, .int .i64 5)] [(1, [.int .i64 5])] Try.zeroValue42 Try.runUnderlying42 (fs_cons Try.sizeOf35 (fs_cons Try.sizeOf29 fs_nil)) rfl rfl rfl) ?_
   refine ot rfl rfl (t_store 0 Try.sizeOf42 rfl rfl rfl rfl (by simp [Value.cells, boxP]) (by simp [Value.cells, Value.oneCell', boxP])) ?_
   rintro _ _ ⟨rfl, rfl⟩
   refine ops_turn (retell 0 (g := box b2 [.slice none 0 0, .int .i64 5]) rfl rfl) ?_
   refine ops_nil ?_
   refine goes_code ?_
   refine run_ret ?_
   refine fin_turn (nilrow 1) ?_
   refine fin_turn (retell 1 (g := row (.slice none 0 0) 1 (([] : List Int).map (eInt .i64))) rfl rfl) ?_
   obtain rfl := some_eq h
   refine fin_res [.cell 4 42] [.agg #[(.slice none 0 0), .int .i64 5]] [1] [row (.slice none 0 0) 1 (([] : List Int).map (eInt .i64))] Try.results14 rfl (rescons (res_box 0 Try.isAgg42 Try.sizeOf42 rfl rfl rfl) resnil) (by decide) rfl ?_
   exact ⟨_, rfl, rfl⟩
  ·replace h := cond_f h hc8
   refine run_skip ?_
   refine goes_code ?_
   refine run_seq ?_
   refine run_weak [(1, .int .i64 n_1), (2, boxP b1 0), (4, boxP b2 0)] [0, 1, 2, 3] [ro m_0_Hubsv 3 (m_0.Hubs.map S_api_Hub.enc), nro m_0_Routesv NC_api_Route_82 m_0.Routes, box b1 [m_0_Hubsv, m_0_Routesv], box b2 [.slice none 0 0, .int .i64 0]] (vcons rfl (vcons rfl (vcons rfl (vnil)))) (by decide) rfl ?_
   refine run_region' ?_
   refine oy rfl rfl (y_assign rfl) ?_
   refine ops_nil ?_
   refine goes_code ?_
   obtain ⟨o11, h, ho12⟩ := bindJ_some h
   refine run_cut (((List Int)) × (Value)) (fun σ => [(4, boxP b2 0), (6, σ.2)]) (fun σ => [box b2 [.slice none 0 0, .int .i64 0], row σ.2 1 (σ.1.map (eInt .i64))]) (fun σ => o11 = .go σ.1) (fun L14 hL13 => ?_) ?_
   ·
    refine run_block ?_
    refine run_turn (nilrow 1) ?_
    refine run_turn (retell 4 (g := row (.slice none 0 0) 1 (([] : List Int).map (eInt .i64))) rfl rfl) ?_
    refine run_iter (step := ref42_Climb_L1 n m_0) (n := n) (s0 := (n_1, ([] : List Int))) h (G := Value) (.slice none 0 0) (fun σ γ => [(1, .int .i64 σ.1), (2, boxP b1 0), (4, boxP b2 0), (6, γ)]) (fun σ γ => [box b1 [m_0_Hubsv, m_0_Routesv], ro m_0_Hubsv 3 (m_0.Hubs.map S_api_Hub.enc), nro m_0_Routesv NC_api_Route_82 m_0.Routes, box b2 [.slice none 0 0, .int .i64 0], row γ 1 (σ.2.map (eInt .i64))]) [2, 0, 1, 3, 4] (vcons rfl (vcons rfl (vcons rfl (vcons rfl (vnil))))) (by decide) rfl ?_
    rintro ⟨n_15, out_16⟩ v17 o18 h L21 hgo19 hstop20
    change Run _ _ _ (VF.of [(1, .int .i64 n_15), (2, boxP b1 0), (4, boxP b2 0), (6, v17)]) [box b1 [m_0_Hubsv, m_0_Routesv], ro m_0_Hubsv 3 (m_0.Hubs.map S_api_Hub.enc), nro m_0_Routesv NC_api_Route_82 m_0.Routes, box b2 [.slice none 0 0, .int .i64 0], row v17 1 (out_16.map (eInt .i64))]
    refine run_seq ?_
    refine run_seq ?_
    refine run_region' ?_
    refine oy rfl rfl (y_move rfl) ?_
    refine oy rfl rfl (y_geq rfl rfl) ?_
    refine ops_nil ?_
    refine goes_code ?_
    refine run_cond (decide (0 ≤ n_15)) rfl (fun hc22 => ?_) (fun hc22 => ?_)
    ·replace h := cond_t h hc22
     refine run_skip ?_
     refine goes_code ?_
     refine run_block ?_
     refine run_seq ?_
     obtain ⟨r23, hr24, h⟩ := obind_some h
     obtain ⟨x25, hzx25, hlx25, hxx25, h⟩ := idx_some h
     refine run_drawany [box b1 [m_0_Hubsv, m_0_Routesv], ro m_0_Hubsv 3 (m_0.Hubs.map S_api_Hub.enc), nro m_0_Routesv NC_api_Route_82 m_0.Routes, box b2 [.slice none 0 0, .int .i64 0], row v17 1 (out_16.map (eInt .i64))] (by kernel_rfl) ?_
     refine any_y 0 rfl (by kernel_rfl) (by kernel_rfl) (by kernel_rfl) (ss (ss (ss (ss (ss (sn)))))) (wn rfl) rfl (y_fieldAddr_box (sz := 0) Try.runUnderlying25 rfl Try.sizeOf22 rfl) ?_
     refine any_y 1 rfl (by kernel_rfl) (by kernel_rfl) (by kernel_rfl) (ss (ss (ss (ss (ss (sn)))))) (wn rfl) rfl (y_load_box 0 Try.isAgg22 rfl rfl rfl) ?_
     refine any_y 2 rfl (by kernel_rfl) (by kernel_rfl) (by kernel_rfl) (ss (ss (ss (ss (ss (sn)))))) (wn rfl) rfl (y_load_boxagg (c := [m_0_Hubsv, m_0_Routesv]) 0 Try.isAgg25 Try.sizeOf25 rfl rfl rfl) ?_
     refine any_y 3 rfl (by kernel_rfl) (by kernel_rfl) (by kernel_rfl) (ss (ss (ss (ss (ss (sn)))))) (wn rfl) rfl (y_move rfl) ?_
     refine any_cut2 #[true, true, true, true, true, true, true, true, true] 0 (Nat) (fun σ => [(1, .int .i64 n_15), (2, boxP b1 0), (4, boxP b2 0), (6, v17), (7, boxP σ 0)]) (fun σ => [box b1 [m_0_Hubsv, m_0_Routesv], ro m_0_Hubsv 3 (m_0.Hubs.map S_api_Hub.enc), nro m_0_Routesv NC_api_Route_82 m_0.Routes, box b2 [.slice none 0 0, .int .i64 0], row v17 1 (out_16.map (eInt .i64)), box σ [.int .i64 x25.Site, .int .i64 x25.Parent, .bool x25.Up]]) ?_ (fun hK29 => ?_)
     ·rintro b28
      change AnyL _ _ _ _ _ (VF.of [(1, .int .i64 n_15), (2, boxP b1 0), (4, boxP b2 0), (6, v17), (7, boxP b28 0)]) [box b1 [m_0_Hubsv, m_0_Routesv], ro m_0_Hubsv 3 (m_0.Hubs.map S_api_Hub.enc), nro m_0_Routesv NC_api_Route_82 m_0.Routes, box b2 [.slice none 0 0, .int .i64 0], row v17 1 (out_16.map (eInt .i64)), box b28 [.int .i64 x25.Site, .int .i64 x25.Parent, .bool x25.Up]] _
      refine any_nil (by kernel_rfl) ?_
      refine goes_code ?_
      obtain ⟨o32, h, ho33⟩ := bindJ_some h
      refine run_cut (((List Int)) × (Value)) (fun σ => [(2, boxP b1 0), (4, boxP b2 0), (6, σ.2), (7, boxP b28 0)]) (fun σ => [box b1 [m_0_Hubsv, m_0_Routesv], ro m_0_Hubsv 3 (m_0.Hubs.map S_api_Hub.enc), nro m_0_Routesv NC_api_Route_82 m_0.Routes, box b2 [.slice none 0 0, .int .i64 0], row σ.2 1 (σ.1.map (eInt .i64)), box b28 [.int .i64 x25.Site, .int .i64 x25.Parent, .bool x25.Up]]) (fun σ => o32 = .go σ.1) (fun L35 hL34 => ?_) ?_
      ·
       refine run_seq ?_
       refine run_region' ?_
       refine oy rfl rfl (y_fieldAddr_box (sz := 0) Try.runUnderlying52 rfl Try.sizeOf4 rfl) ?_
       refine oy rfl rfl (y_load_box 5 Try.isAgg4 rfl rfl rfl) ?_
       refine ops_nil ?_
       refine goes_code ?_
       refine run_cond x25.Up rfl (fun hc36 => ?_) (fun hc36 => ?_)
       ·replace h := cond_t h hc36
        refine run_region' ?_
        refine oy rfl rfl (y_move rfl) ?_
        refine oy rfl rfl (y_move rfl) ?_
        refine ot rfl rfl (t_lit [.int .i64 n_15] Try.runUnderlying35 Try.sizeOf3 Try.zeroValue3 rfl (by decide) (by decide) rfl (by simp [Value.cells, boxP])) ?_
        rintro v37 _ ⟨rfl, _⟩
        refine ops_turn (retell 6 (g := row v37 1 (([n_15] : List Int).map (eInt .i64))) rfl rfl) ?_
        obtain ⟨hr39, h⟩ := need_some h
        refine ot rfl rfl (t_append (es := 1) 4 rfl Try.runUnderlying35 rfl Try.runUnderlying35 (.inr ⟨_, rfl⟩) Try.typeInfo3 rfl (by decide) Try.zeroValue3 rfl rfl rfl rfl (src_reads 6 rfl reads_row (map_ok (eInt_ok _) _)) (map_room hr39 (by decide)) (map_fit hr39)) ?_
        rintro v38 _ rfl
        refine ops_turn (retell 4 (g := row v38 1 ((out_16 ++ ([n_15] : List Int)).map (eInt .i64))) rfl (congrArg (row _ _) List.map_append.symm)) ?_
        refine oy rfl rfl (y_assign rfl) ?_
        refine ops_nil ?_
        obtain rfl := some_eq h
        exact goes_cut hL34 ((out_16 ++ ([n_15] : List Int)), v38) [0, 1, 2, 3, 4, 5] (vcons rfl (vcons rfl (vcons rfl (vcons rfl (vnil))))) (by decide) rfl rfl
       ·replace h := cond_f h hc36
        refine run_skip ?_
        obtain rfl := some_eq h
        exact goes_cut hL34 (out_16, v17) [0, 1, 2, 3, 4, 5] (vcons rfl (vcons rfl (vcons rfl (vcons rfl (vnil))))) (by decide) rfl rfl
      rintro ⟨out_30, v31⟩ hj
      obtain rfl : o32 = _ := hj
      replace h := after_go ho33
      clear ho33
      change Run _ _ _ (VF.of [(2, boxP b1 0), (4, boxP b2 0), (6, v31), (7, boxP b28 0)]) [box b1 [m_0_Hubsv, m_0_Routesv], ro m_0_Hubsv 3 (m_0.Hubs.map S_api_Hub.enc), nro m_0_Routesv NC_api_Route_82 m_0.Routes, box b2 [.slice none 0 0, .int .i64 0], row v31 1 (out_30.map (eInt .i64)), box b28 [.int .i64 x25.Site, .int .i64 x25.Parent, .bool x25.Up]]
      refine run_region' ?_
      refine oy rfl rfl (y_fieldAddr_box (sz := 0) Try.runUnderlying52 rfl Try.sizeOf3 rfl) ?_
      refine oy rfl rfl (y_load_box 5 Try.isAgg3 rfl rfl rfl) ?_
      refine oy rfl rfl (y_assign rfl) ?_
      refine ops_nil ?_
      refine goes_blk ?_
      obtain rfl := some_eq h
      exact goes_iter hgo19 (x25.Parent, out_30) v31 [0, 1, 2, 3, 4] rfl (vcons rfl (vcons rfl (vcons rfl (vcons rfl (vnil))))) (by decide) rfl
     refine any_cut2 #[true, true, true, true, true, true, true, true, false] 1 (Nat) (fun σ => [(1, .int .i64 n_15), (2, boxP b1 0), (4, boxP b2 0), (6, v17), (26, .agg #[.int .i64 x25.Site, .int .i64 x25.Parent, .bool x25.Up]), (7, boxP σ 0)]) (fun σ => [box b1 [m_0_Hubsv, m_0_Routesv], ro m_0_Hubsv 3 (m_0.Hubs.map S_api_Hub.enc), nro m_0_Routesv NC_api_Route_82 m_0.Routes, box b2 [.slice none 0 0, .int .i64 0], row v17 1 (out_16.map (eInt .i64)), box σ [.int .i64 0, .int .i64 0, .bool false]]) ?_ (fun hK40 => ?_)
     ·rintro b28
      change AnyL _ _ _ _ _ (VF.of [(1, .int .i64 n_15), (2, boxP b1 0), (4, boxP b2 0), (6, v17), (26, .agg #[.int .i64 x25.Site, .int .i64 x25.Parent, .bool x25.Up]), (7, boxP b28 0)]) [box b1 [m_0_Hubsv, m_0_Routesv], ro m_0_Hubsv 3 (m_0.Hubs.map S_api_Hub.enc), nro m_0_Routesv NC_api_Route_82 m_0.Routes, box b2 [.slice none 0 0, .int .i64 0], row v17 1 (out_16.map (eInt .i64)), box b28 [.int .i64 0, .int .i64 0, .bool false]] _
      refine any_all [8] (by kernel_rfl) rfl ?_
      refine anyo_cons ?_ ?_
      ·
       refine any_t rfl (wn rfl) rfl (t_store 5 Try.sizeOf52 rfl rfl rfl rfl (by simp [Value.cells, boxP]) (by simp [Value.cells, Value.oneCell', boxP])) ?_
       rintro _ _ ⟨rfl, rfl⟩
       refine ⟨(ss (ss (ss (ss (ss (sn)))))), ?_⟩
       refine any_turn (retell 5 (g := box b28 [.int .i64 x25.Site, .int .i64 x25.Parent, .bool x25.Up]) rfl rfl) ?_
       exact any_weak2 (hK29 b28) [0, 1, 2, 3, 4, 5] (by kernel_rfl) (vcons rfl (vcons rfl (vcons rfl (vcons rfl (vcons rfl (vnil)))))) (by decide) rfl
      exact anyo_nil
     refine any_cut2 #[true, true, true, true, true, true, true, false, false] 2 (Unit) (fun σ => [(1, .int .i64 n_15), (2, boxP b1 0), (4, boxP b2 0), (6, v17), (26, .agg #[.int .i64 x25.Site, .int .i64 x25.Parent, .bool x25.Up])]) (fun σ => [box b1 [m_0_Hubsv, m_0_Routesv], ro m_0_Hubsv 3 (m_0.Hubs.map S_api_Hub.enc), nro m_0_Routesv NC_api_Route_82 m_0.Routes, box b2 [.slice none 0 0, .int .i64 0], row v17 1 (out_16.map (eInt .i64))]) ?_ (fun hK41 => ?_)
     ·rintro _
      change AnyL _ _ _ _ _ (VF.of [(1, .int .i64 n_15), (2, boxP b1 0), (4, boxP b2 0), (6, v17), (26, .agg #[.int .i64 x25.Site, .int .i64 x25.Parent, .bool x25.Up])]) [box b1 [m_0_Hubsv, m_0_Routesv], ro m_0_Hubsv 3 (m_0.Hubs.map S_api_Hub.enc), nro m_0_Routesv NC_api_Route_82 m_0.Routes, box b2 [.slice none 0 0, .int .i64 0], row v17 1 (out_16.map (eInt .i64))] _
      refine any_all [7] (by kernel_rfl) rfl ?_
      refine anyo_cons ?_ ?_
      ·
       refine any_t rfl (wn rfl) rfl (t_alloc Try.zeroValue52) ?_
       rintro _ _ ⟨b42, rfl, rfl⟩
       refine ⟨(ss (ss (ss (ss (ss (sn)))))), ?_⟩
       exact any_weak2 (hK40 b42) [0, 1, 2, 3, 4, 5] (by kernel_rfl) (vcons rfl (vcons rfl (vcons rfl (vcons rfl (vcons rfl (vcons rfl (vnil))))))) (by decide) rfl
      exact anyo_nil
     refine any_cut2 #[true, true, true, true, false, false, false, true, false] 4 (Nat) (fun σ => [(1, .int .i64 n_15), (2, boxP b1 0), (4, boxP b2 0), (6, v17), (21, m_0_Hubsv), (22, .agg #[m_0_Hubsv, m_0_Routesv]), (23, .int .i64 n_15), (7, boxP σ 0)]) (fun σ => [box b1 [m_0_Hubsv, m_0_Routesv], ro m_0_Hubsv 3 (m_0.Hubs.map S_api_Hub.enc), nro m_0_Routesv NC_api_Route_82 m_0.Routes, box b2 [.slice none 0 0, .int .i64 0], row v17 1 (out_16.map (eInt .i64)), box σ [.int .i64 0, .int .i64 0, .bool false]]) ?_ (fun hK43 => ?_)
     ·rintro b27
      change AnyL _ _ _ _ _ (VF.of [(1, .int .i64 n_15), (2, boxP b1 0), (4, boxP b2 0), (6, v17), (21, m_0_Hubsv), (22, .agg #[m_0_Hubsv, m_0_Routesv]), (23, .int .i64 n_15), (7, boxP b27 0)]) [box b1 [m_0_Hubsv, m_0_Routesv], ro m_0_Hubsv 3 (m_0.Hubs.map S_api_Hub.enc), nro m_0_Routesv NC_api_Route_82 m_0.Routes, box b2 [.slice none 0 0, .int .i64 0], row v17 1 (out_16.map (eInt .i64)), box b27 [.int .i64 0, .int .i64 0, .bool false]] _
      refine any_all [4] (by kernel_rfl) rfl ?_
      refine anyo_cons ?_ ?_
      ·
       refine any_t rfl (wn rfl) rfl (t_callx (vs := [.agg #[m_0_Hubsv, m_0_Routesv], .int .i64 n_15]) (cs := []) [(1, 0), (2, 0)] rfl Try.call38 rfl (ref42_hub_ok n m_0 n_15 m_0_Hubsv m_0_Routesv hr24) (showsX_view 1 rfl views_ro (showsX_view 2 rfl views_nro showsX_nil)) rfl (.inl rfl)) ?_
       rintro _ _ ⟨_, ⟨rfl, rfl⟩, rfl⟩
       refine ⟨(ss (ss (ss (ss (ss (sn)))))), ?_⟩
       refine any_y 5 rfl (by kernel_rfl) (by kernel_rfl) (by kernel_rfl) (ss (ss (ss (ss (ss (sn)))))) (wn rfl) rfl (y_indexAddrI (kd := .i64) (i := r23) 1 Try.runUnderlying22 Try.sizeOf52 rfl rfl rfl reads_ro hzx25 (map_lt hlx25)) ?_
       refine any_y 6 rfl (by kernel_rfl) (by kernel_rfl) (by kernel_rfl) (ss (ss (ss (ss (ss (sn)))))) (wn rfl) rfl (y_load_agg (i := r23.toNat) (c := [.int .i64 x25.Site, .int .i64 x25.Parent, .bool x25.Up]) 1 Try.isAgg52 Try.sizeOf52 rfl rfl reads_ro (map_get hxx25)) ?_
       exact any_weak2 (hK40 b27) [0, 1, 2, 3, 4, 5] (by kernel_rfl) (vcons rfl (vcons rfl (vcons rfl (vcons rfl (vcons rfl (vcons rfl (vnil))))))) (by decide) rfl
      exact anyo_nil
     refine any_all [4, 7] (by kernel_rfl) rfl ?_
     refine anyo_cons ?_ ?_
     ·
      refine any_t rfl (wn rfl) rfl (t_callx (vs := [.agg #[m_0_Hubsv, m_0_Routesv], .int .i64 n_15]) (cs := []) [(1, 0), (2, 0)] rfl Try.call38 rfl (ref42_hub_ok n m_0 n_15 m_0_Hubsv m_0_Routesv hr24) (showsX_view 1 rfl views_ro (showsX_view 2 rfl views_nro showsX_nil)) rfl (.inl rfl)) ?_
      rintro _ _ ⟨_, ⟨rfl, rfl⟩, rfl⟩
      refine ⟨(ss (ss (ss (ss (ss (sn)))))), ?_⟩
      refine any_y 5 rfl (by kernel_rfl) (by kernel_rfl) (by kernel_rfl) (ss (ss (ss (ss (ss (sn)))))) (wn rfl) rfl (y_indexAddrI (kd := .i64) (i := r23) 1 Try.runUnderlying22 Try.sizeOf52 rfl rfl rfl reads_ro hzx25 (map_lt hlx25)) ?_
      refine any_y 6 rfl (by kernel_rfl) (by kernel_rfl) (by kernel_rfl) (ss (ss (ss (ss (ss (sn)))))) (wn rfl) rfl (y_load_agg (i := r23.toNat) (c := [.int .i64 x25.Site, .int .i64 x25.Parent, .bool x25.Up]) 1 Try.isAgg52 Try.sizeOf52 rfl rfl reads_ro (map_get hxx25)) ?_
      exact any_weak2 (hK41 ()) [0, 1, 2, 3, 4] (by kernel_rfl) (vcons rfl (vcons rfl (vcons rfl (vcons rfl (vcons rfl (vnil)))))) (by decide) rfl
     refine anyo_cons ?_ ?_
     ·
      refine any_t rfl (wn rfl) rfl (t_alloc Try.zeroValue52) ?_
      rintro _ _ ⟨b44, rfl, rfl⟩
      refine ⟨(ss (ss (ss (ss (ss (sn)))))), ?_⟩
      exact any_weak2 (hK43 b44) [0, 1, 2, 3, 4, 5] (by kernel_rfl) (vcons rfl (vcons rfl (vcons rfl (vcons rfl (vcons rfl (vcons rfl (vcons rfl (vcons rfl (vnil))))))))) (by decide) rfl
     exact anyo_nil
    ·replace h := cond_f h hc22
     refine run_exit _ rfl ?_
     obtain rfl := some_eq h
     obtain rfl := hstop20 _ rfl
     exact goes_cut hL13 (out_16, v17) [3, 4] (vcons rfl (vcons rfl (vnil))) (by decide) rfl rfl
   rintro ⟨out_9, v10⟩ hj
   obtain rfl : o11 = _ := hj
   replace h := after_go ho12
   clear ho12
   change Run _ _ _ (VF.of [(4, boxP b2 0), (6, v10)]) [box b2 [.slice none 0 0, .int .i64 0], row v10 1 (out_9.map (eInt .i64))]
   refine run_seq ?_
   refine run_region' ?_
   refine oy rfl rfl (y_move rfl) ?_
   refine ops_slc 1 rfl reads_row (fun hs45 hs45o => ?_)
   refine oy rfl rfl (y_build_struct (cells := #[v10, .int .i64 0]) [(0, v10)] [(0, [v10])] Try.zeroValue42 Try.runUnderlying42 (fs_cons Try.sizeOf35 (fs_cons Try.sizeOf29 fs_nil)) rfl (by first | (simp only [List.map_cons, List.map_nil, hs45]; done) | (simp only [List.map_cons, List.map_nil, hs45]; rfl)) rfl) ?_
   refine ops_slc 1 rfl reads_row (fun hs46 hs46o => ?_)
   refine ot rfl rfl (t_store 0 Try.sizeOf42 rfl rfl rfl rfl (by simp [Value.cells, boxP]) (allL_cons hs46o (allL_cons rfl (allL_nil)))) ?_
   rintro _ _ ⟨rfl, rfl⟩
   refine ops_turn (retell 0 (g := box b2 [v10, .int .i64 0]) rfl rfl) ?_
   refine ops_nil ?_
   refine goes_code ?_
   refine run_ret ?_
   obtain rfl := some_eq h
   refine fin_res [.cell 4 42] [.agg #[v10, .int .i64 0]] [1] [row v10 1 (out_9.map (eInt .i64))] Try.results14 rfl (rescons (res_box 0 Try.isAgg42 Try.sizeOf42 rfl rfl rfl) resnil) (by decide) rfl ?_
   exact ⟨_, rfl, rfl⟩

def ref42_Turn (n : Nat) (m_0 : S_api_Map) (n_1 : Int) (up_2 : Bool) : Option (S_ref42_Mapped) :=
 obind (ref42_ValidMap n m_0) fun r3 =>
 cond (!r3)
  (some (S_ref42_Mapped.mk (S_api_Map.mk ([] : List S_api_Hub) ([] : List S_api_Route)) 1))
  (obind (ref42_hub n m_0 n_1) fun r6 =>
  cond (decide (r6 < 0))
   (some (S_ref42_Mapped.mk (S_api_Map.mk ([] : List S_api_Hub) ([] : List S_api_Route)) 5))
   (need (([] : List S_api_Hub).length + m_0.Hubs.length ≤ 4294967296) (
   idx (([] : List S_api_Hub) ++ m_0.Hubs) r6 fun x12 =>
   some (S_ref42_Mapped.mk (S_api_Map.mk ((([] : List S_api_Hub) ++ m_0.Hubs).set r6.toNat (S_api_Hub.mk x12.Site x12.Parent up_2)) m_0.Routes) 0))))
theorem ref42_Turn_ok (n : Nat) (m_0 : S_api_Map) (n_1 : Int) (up_2 : Bool) (m_0_Hubsv : Value) (m_0_Routesv : Value) {r : S_ref42_Mapped} (h : ref42_Turn n m_0 n_1 up_2 = some r) :
  Meets Try.prog 15 [.agg #[m_0_Hubsv, m_0_Routesv], .int .i64 n_1, .bool up_2] [ro m_0_Hubsv 3 (m_0.Hubs.map S_api_Hub.enc), nro m_0_Routesv NC_api_Route_82 m_0.Routes] (fun v G => ∃ v0 v1, v = .agg #[v0, v1, .int .i64 r.E] ∧ G = [row v0 3 (r.M.Hubs.map S_api_Hub.enc), nro v1 NC_api_Route_82 r.M.Routes]) := by
 refine fn_of_run Try.func15 rfl Try.ntmps15 rfl (fun w0 o0 => ?_)
 refine run_seq ?_
 refine run_region' ?_
 refine ot rfl rfl (t_box rfl) ?_
 rintro _ _ ⟨b1, rfl, rfl⟩
 refine ot rfl rfl (t_alloc Try.zeroValue45) ?_
 rintro _ _ ⟨b2, rfl, rfl⟩
 refine ops_nil ?_
 refine goes_code ?_
 refine run_seq ?_
 refine run_region' ?_
 refine oy rfl rfl (y_load_boxagg (c := [m_0_Hubsv, m_0_Routesv]) 2 Try.isAgg25 Try.sizeOf25 rfl rfl rfl) ?_
 obtain ⟨r3, hr4, h⟩ := obind_some h
 refine ot rfl rfl (t_callx (vs := [.agg #[m_0_Hubsv, m_0_Routesv]]) (cs := []) [(0, 0), (1, 0)] rfl Try.call18 rfl (ref42_ValidMap_ok n m_0 m_0_Hubsv m_0_Routesv hr4) (showsX_view 0 rfl views_ro (showsX_view 1 rfl views_nro showsX_nil)) rfl (.inl rfl)) ?_
 rintro _ _ ⟨_, ⟨rfl, rfl⟩, rfl⟩
 refine oy rfl rfl (y_assign rfl) ?_
 refine ops_nil ?_
 refine goes_code ?_
 refine run_seq ?_
 refine run_seq ?_
 refine run_region' ?_
 refine oy rfl rfl (y_move rfl) ?_
 refine oy rfl rfl (y_not rfl) ?_
 refine ops_nil ?_
 refine goes_code ?_
 refine run_cond (!r3) rfl (fun hc5 => ?_) (fun hc5 => ?_)
 ·replace h := cond_t h hc5
  refine run_seq ?_
  refine run_region' ?_
  refine oy rfl rfl (y_build_struct (cells := #[.slice none 0 0, .slice none 0 0, .int .i64 1]) [(1, .int .i64 1)] [(1, [.int .i64 1])] Try.zeroValue45 Try.runUnderlying45 (fs_cons Try.sizeOf25 (fs_cons Try.sizeOf29 fs_nil)) rfl rfl rfl) ?_
  refine ot rfl rfl (t_store 3 Try.sizeOf45 rfl rfl rfl rfl (by simp [Value.cells, boxP]) (by simp [Value.cells, Value.oneCell', boxP])) ?_
  rintro _ _ ⟨rfl, rfl⟩
  refine ops_turn (retell 3 (g := box b2 [.slice none 0 0, .slice none 0 0, .int .i64 1]) rfl rfl) ?_
  refine ops_nil ?_
  refine goes_code ?_
  refine run_ret ?_
  refine fin_turn (nilrow 3) ?_
  refine fin_turn (retell 4 (g := row (.slice none 0 0) 3 (([] : List S_api_Hub).map S_api_Hub.enc)) rfl rfl) ?_
  refine fin_turn (nilroN NC_api_Route_82) ?_
  obtain rfl := some_eq h
  refine fin_res [.cell 6 45] [.agg #[(.slice none 0 0), (.slice none 0 0), .int .i64 1]] [4, 5] [row (.slice none 0 0) 3 (([] : List S_api_Hub).map S_api_Hub.enc), nro (.slice none 0 0) NC_api_Route_82 ([] : List S_api_Route)] Try.results15 rfl (rescons (res_box 3 Try.isAgg45 Try.sizeOf45 rfl rfl rfl) resnil) (by decide) rfl ?_
  exact ⟨_, _, rfl, rfl⟩
 ·replace h := cond_f h hc5
  refine run_skip ?_
  refine goes_code ?_
  refine run_seq ?_
  refine run_region' ?_
  refine oy rfl rfl (y_load_boxagg (c := [m_0_Hubsv, m_0_Routesv]) 2 Try.isAgg25 Try.sizeOf25 rfl rfl rfl) ?_
  refine oy rfl rfl (y_move rfl) ?_
  obtain ⟨r6, hr7, h⟩ := obind_some h
  refine ot rfl rfl (t_callx (vs := [.agg #[m_0_Hubsv, m_0_Routesv], .int .i64 n_1]) (cs := []) [(0, 0), (1, 0)] rfl Try.call38 rfl (ref42_hub_ok n m_0 n_1 m_0_Hubsv m_0_Routesv hr7) (showsX_view 0 rfl views_ro (showsX_view 1 rfl views_nro showsX_nil)) rfl (.inl rfl)) ?_
  rintro _ _ ⟨_, ⟨rfl, rfl⟩, rfl⟩
  refine oy rfl rfl (y_assign rfl) ?_
  refine ops_nil ?_
  refine goes_code ?_
  refine run_seq ?_
  refine run_seq ?_
  refine run_weak [(2, .bool up_2), (3, boxP b1 0), (6, boxP b2 0), (8, .int .i64 r6)] [0, 1, 2, 3] [ro m_0_Hubsv 3 (m_0.Hubs.map S_api_Hub.enc), nro m_0_Routesv NC_api_Route_82 m_0.Routes, box b1 [m_0_Hubsv, m_0_Routesv], box b2 [.slice none 0 0, .slice none 0 0, .int .i64 0]] (vcons rfl (vcons rfl (vcons rfl (vcons rfl (vnil))))) (by decide) rfl ?_
  refine run_region' ?_
  refine oy rfl rfl (y_move rfl) ?_
  refine oy rfl rfl (y_lss rfl rfl) ?_
  refine ops_nil ?_
  refine goes_code ?_
  refine run_cond (decide (r6 < 0)) rfl (fun hc8 => ?_) (fun hc8 => ?_)
  ·replace h := cond_t h hc8
   refine run_seq ?_
   refine run_region' ?_
   refine oy rfl rfl (y_build_struct (cells := #[.slice none 0 0, .slice none 0 0, .int .i64 5]) [(1, .int .i64 5)] [(1, [.int .i64 5])] Try.zeroValue45 Try.runUnderlying45 (fs_cons Try.sizeOf25 (fs_cons Try.sizeOf29 fs_nil)) rfl rfl rfl) ?_
   refine ot rfl rfl (t_store 3 Try.sizeOf45 rfl rfl rfl rfl (by simp [Value.cells, boxP]) (by simp [Value.cells, Value.oneCell', boxP])) ?_
   rintro _ _ ⟨rfl, rfl⟩
   refine ops_turn (retell 3 (g := box b2 [.slice none 0 0, .slice none 0 0, .int .i64 5]) rfl rfl) ?_
   refine ops_nil ?_
   refine goes_code ?_
   refine run_ret ?_
   refine fin_turn (nilrow 3) ?_
   refine fin_turn (retell 4 (g := row (.slice none 0 0) 3 (([] : List S_api_Hub).map S_api_Hub.enc)) rfl rfl) ?_
   refine fin_turn (nilroN NC_api_Route_82) ?_
   obtain rfl := some_eq h
   refine fin_res [.cell 6 45] [.agg #[(.slice none 0 0), (.slice none 0 0), .int .i64 5]] [4, 5] [row (.slice none 0 0) 3 (([] : List S_api_Hub).map S_api_Hub.enc), nro (.slice none 0 0) NC_api_Route_82 ([] : List S_api_Route)] Try.results15 rfl (rescons (res_box 3 Try.isAgg45 Try.sizeOf45 rfl rfl rfl) resnil) (by decide) rfl ?_
   exact ⟨_, _, rfl, rfl⟩
  ·replace h := cond_f h hc8
   refine run_skip ?_
   refine goes_code ?_
   refine run_seq ?_
   refine run_region' ?_
   refine ot rfl rfl (t_lit [] Try.runUnderlying22 Try.sizeOf52 Try.zeroValue52 rfl (by decide) (by decide) rfl (by simp [Value.cells, boxP])) ?_
   rintro v9 _ ⟨rfl, _⟩
   refine ops_turn (retell 4 (g := row v9 3 (([] : List S_api_Hub).map S_api_Hub.enc)) rfl rfl) ?_
   refine oy rfl rfl (y_fieldAddr_box (sz := 0) Try.runUnderlying25 rfl Try.sizeOf22 rfl) ?_
   refine oy rfl rfl (y_load_box 2 Try.isAgg22 rfl rfl rfl) ?_
   obtain ⟨hr11, h⟩ := need_some h
   refine ot rfl rfl (t_append (es := 3) 4 rfl Try.runUnderlying22 rfl Try.runUnderlying22 (.inr ⟨_, rfl⟩) Try.typeInfo52 rfl (by decide) Try.zeroValue52 rfl rfl rfl rfl (src_reads 0 rfl reads_ro (map_ok S_api_Hub.enc_ok _)) (map_room hr11 (by decide)) (map_fit hr11)) ?_
   rintro v10 _ rfl
   refine ops_turn (retell 4 (g := row v10 3 ((([] : List S_api_Hub) ++ m_0.Hubs).map S_api_Hub.enc)) rfl (congrArg (row _ _) List.map_append.symm)) ?_
   refine oy rfl rfl (y_assign rfl) ?_
   refine ops_nil ?_
   refine goes_code ?_
   refine run_seq ?_
   refine run_region' ?_
   refine oy rfl rfl (y_move rfl) ?_
   refine oy rfl rfl (y_move rfl) ?_
   refine oy rfl rfl (y_move rfl) ?_
   obtain ⟨x12, hzx12, hlx12, hxx12, h⟩ := idx_some h
   refine oy rfl rfl (y_indexAddrI (kd := .i64) (i := r6) 4 Try.runUnderlying22 Try.sizeOf52 rfl rfl rfl reads_row hzx12 (map_lt hlx12)) ?_
   refine oy rfl rfl (y_fieldAddr_elem (sz := 0) Try.runUnderlying52 rfl Try.sizeOf4 rfl) ?_
   refine ot rfl rfl (t_store_row (i := r6.toNat) (j := 2) (c := S_api_Hub.enc x12) 4 Try.sizeOf4 rfl rfl rfl rfl (map_get hxx12) (by decide) (by simp [Value.cells, Value.oneCell', boxP])) ?_
   rintro _ _ ⟨rfl, rfl⟩
   obtain hxx13 : (((([] : List S_api_Hub) ++ m_0.Hubs).set r6.toNat (S_api_Hub.mk x12.Site x12.Parent up_2)) : List S_api_Hub)[r6.toNat]? = some (S_api_Hub.mk x12.Site x12.Parent up_2) := set_at hlx12
   obtain hlx13 : r6.toNat < (((([] : List S_api_Hub) ++ m_0.Hubs).set r6.toNat (S_api_Hub.mk x12.Site x12.Parent up_2)) : List S_api_Hub).length := set_lt hlx12
   obtain hzx13 : (0 : Int) ≤ r6 := id hzx12
   refine ops_turn (retell 4 (g := row v10 3 (((([] : List S_api_Hub) ++ m_0.Hubs).set r6.toNat (S_api_Hub.mk x12.Site x12.Parent up_2)).map S_api_Hub.enc)) rfl (congrArg (row _ _) (map_set_at rfl))) ?_
   refine ops_nil ?_
   refine goes_code ?_
   refine run_seq ?_
   refine run_weak [(3, boxP b1 0), (6, boxP b2 0), (9, v10)] [0, 1, 2, 3, 4] [ro m_0_Hubsv 3 (m_0.Hubs.map S_api_Hub.enc), nro m_0_Routesv NC_api_Route_82 m_0.Routes, box b1 [m_0_Hubsv, m_0_Routesv], box b2 [.slice none 0 0, .slice none 0 0, .int .i64 0], row v10 3 (((([] : List S_api_Hub) ++ m_0.Hubs).set r6.toNat (S_api_Hub.mk x12.Site x12.Parent up_2)).map S_api_Hub.enc)] (vcons rfl (vcons rfl (vcons rfl (vnil)))) (by decide) rfl ?_
   refine run_region' ?_
   refine oy rfl rfl (y_move rfl) ?_
   refine oy rfl rfl (y_fieldAddr_box (sz := 0) Try.runUnderlying25 rfl Try.sizeOf23 rfl) ?_
   refine oy rfl rfl (y_load_box 2 Try.isAgg23 rfl rfl rfl) ?_
   refine ops_slcN 1 rfl readsN_ro (fun hs14 hs14o => ?_)
   refine ops_slc 4 rfl reads_row (fun hs15 hs15o => ?_)
   refine oy rfl rfl (y_build_struct (cells := #[v10, m_0_Routesv]) [(0, v10), (1, m_0_Routesv)] [(0, [v10]), (1, [m_0_Routesv])] Try.zeroValue25 Try.runUnderlying25 (fs_cons Try.sizeOf22 (fs_cons Try.sizeOf23 fs_nil)) rfl (by first | (simp only [List.map_cons, List.map_nil, hs14, hs15]; done) | (simp only [List.map_cons, List.map_nil, hs14, hs15]; rfl)) rfl) ?_
   refine ops_slcN 1 rfl readsN_ro (fun hs16 hs16o => ?_)
   refine ops_slc 4 rfl reads_row (fun hs17 hs17o => ?_)
   refine oy rfl rfl (y_build_struct (cells := #[v10, m_0_Routesv, .int .i64 0]) [(0, .agg #[v10, m_0_Routesv])] [(0, [v10, m_0_Routesv])] Try.zeroValue45 Try.runUnderlying45 (fs_cons Try.sizeOf25 (fs_cons Try.sizeOf29 fs_nil)) rfl (by first | (simp only [List.map_cons, List.map_nil, hs16, hs17]; done) | (simp only [List.map_cons, List.map_nil, hs16, hs17]; rfl)) rfl) ?_
   refine ops_slc 4 rfl reads_row (fun hs18 hs18o => ?_)
   refine ops_slcN 1 rfl readsN_ro (fun hs19 hs19o => ?_)
   refine ot rfl rfl (t_store 3 Try.sizeOf45 rfl rfl rfl rfl (by simp [Value.cells, boxP]) (allL_cons hs18o (allL_cons hs19o (allL_cons rfl (allL_nil))))) ?_
   rintro _ _ ⟨rfl, rfl⟩
   refine ops_turn (retell 3 (g := box b2 [v10, m_0_Routesv, .int .i64 0]) rfl rfl) ?_
   refine ops_nil ?_
   refine goes_code ?_
   refine run_ret ?_
   obtain rfl := some_eq h
   refine fin_res [.cell 6 45] [.agg #[v10, m_0_Routesv, .int .i64 0]] [4, 1] [row v10 3 (((([] : List S_api_Hub) ++ m_0.Hubs).set r6.toNat (S_api_Hub.mk x12.Site x12.Parent up_2)).map S_api_Hub.enc), nro m_0_Routesv NC_api_Route_82 m_0.Routes] Try.results15 rfl (rescons (res_box 3 Try.isAgg45 Try.sizeOf45 rfl rfl rfl) resnil) (by decide) rfl ?_
   exact ⟨_, _, rfl, rfl⟩

def ref42_Moved_L1 (n : Nat) (a_0 : S_api_Map) (b_1 : S_api_Map) (l_2 : (List (List UInt8))) : ((List (List UInt8)) × Int) → Option (Lp ((List (List UInt8)) × Int) (Lp ((List (List UInt8))) ((List (List UInt8))))) :=
 fun (out_9, i_10) =>
  cond (decide (i_10 < (l_2.length : Int)))
   (bindJ (S := (List (List UInt8)))
    (idx l_2 i_10 fun x23 =>
    obind (ref42_Entry n a_0 x23) fun r24 =>
    obind (ref42_Entry n b_1 x23) fun r30 =>
    cond (decide (r24.N ≠ r30.N) || (!((decide (r24.E = 0)) == (decide (r30.E = 0)))))
     (need (out_9.length + ([x23] : List (List UInt8)).length ≤ 4294967296) (
     some (.go (out_9 ++ ([x23] : List (List UInt8))))))
     (some (.go out_9)))
   (fun out_17 =>
    some (.go (out_17, (IntKind.i64.wrap (i_10 + 1))))))
   (some (.stop (.go out_9)))
def ref42_Moved (n : Nat) (a_0 : S_api_Map) (b_1 : S_api_Map) (l_2 : (List (List UInt8))) : Option ((List (List UInt8))) :=
 bindJ (S := (List (List UInt8)))
  (iter (ref42_Moved_L1 n a_0 b_1 l_2) n (([] : List (List UInt8)), 0))
 (fun out_3 =>
  some out_3)
theorem ref42_Moved_ok (n : Nat) (a_0 : S_api_Map) (b_1 : S_api_Map) (l_2 : (List (List UInt8))) (a_0_Hubsv : Value) (a_0_Routesv : Value) (b_1_Hubsv : Value) (b_1_Routesv : Value) (l_2v : Value) {r : (List (List UInt8))} (h : ref42_Moved n a_0 b_1 l_2 = some r) :
  Meets Try.prog 16 [.agg #[a_0_Hubsv, a_0_Routesv], .agg #[b_1_Hubsv, b_1_Routesv], l_2v] [ro a_0_Hubsv 3 (a_0.Hubs.map S_api_Hub.enc), nro a_0_Routesv NC_api_Route_82 a_0.Routes, ro b_1_Hubsv 3 (b_1.Hubs.map S_api_Hub.enc), nro b_1_Routesv NC_api_Route_82 b_1.Routes, ro l_2v 1 (l_2.map eStr)] (fun v G => ∃ v0, v = v0 ∧ G = [row v0 1 (r.map eStr)]) := by
 refine fn_of_run Try.func16 rfl Try.ntmps16 rfl (fun w0 o0 => ?_)
 refine run_seq ?_
 refine run_region' ?_
 refine ot rfl rfl (t_box rfl) ?_
 rintro _ _ ⟨b1, rfl, rfl⟩
 refine ot rfl rfl (t_box rfl) ?_
 rintro _ _ ⟨b2, rfl, rfl⟩
 refine oy rfl rfl (y_assign rfl) ?_
 refine ops_nil ?_
 refine goes_code ?_
 refine run_seq ?_
 refine run_region' ?_
 refine oy rfl rfl (y_assign rfl) ?_
 refine ops_nil ?_
 refine goes_code ?_
 obtain ⟨o5, h, ho6⟩ := bindJ_some h
 refine run_cut (((List (List UInt8))) × (Value)) (fun σ => [(7, σ.2)]) (fun σ => [row σ.2 1 (σ.1.map eStr)]) (fun σ => o5 = .go σ.1) (fun L8 hL7 => ?_) ?_
 ·
  refine run_seq ?_
  refine run_region' ?_
  refine oy rfl rfl (y_assign rfl) ?_
  refine ops_nil ?_
  refine goes_code ?_
  refine run_block ?_
  refine run_turn (nilrow 1) ?_
  refine run_turn (retell 7 (g := row (.slice none 0 0) 1 (([] : List (List UInt8)).map eStr)) rfl rfl) ?_
  refine run_iter (step := ref42_Moved_L1 n a_0 b_1 l_2) (n := n) (s0 := (([] : List (List UInt8)), 0)) h (G := Value) (.slice none 0 0) (fun σ γ => [(2, l_2v), (3, boxP b1 0), (4, boxP b2 0), (7, γ), (8, .int .i64 σ.2)]) (fun σ γ => [ro l_2v 1 (l_2.map eStr), box b1 [a_0_Hubsv, a_0_Routesv], ro a_0_Hubsv 3 (a_0.Hubs.map S_api_Hub.enc), nro a_0_Routesv NC_api_Route_82 a_0.Routes, box b2 [b_1_Hubsv, b_1_Routesv], ro b_1_Hubsv 3 (b_1.Hubs.map S_api_Hub.enc), nro b_1_Routesv NC_api_Route_82 b_1.Routes, row γ 1 (σ.1.map eStr)]) [4, 5, 0, 1, 6, 2, 3, 7] (vcons rfl (vcons rfl (vcons rfl (vcons rfl (vcons rfl (vnil)))))) (by decide) rfl ?_
  rintro ⟨out_9, i_10⟩ v11 o12 h L15 hgo13 hstop14
  change Run _ _ _ (VF.of [(2, l_2v), (3, boxP b1 0), (4, boxP b2 0), (7, v11), (8, .int .i64 i_10)]) [ro l_2v 1 (l_2.map eStr), box b1 [a_0_Hubsv, a_0_Routesv], ro a_0_Hubsv 3 (a_0.Hubs.map S_api_Hub.enc), nro a_0_Routesv NC_api_Route_82 a_0.Routes, box b2 [b_1_Hubsv, b_1_Routesv], ro b_1_Hubsv 3 (b_1.Hubs.map S_api_Hub.enc), nro b_1_Routesv NC_api_Route_82 b_1.Routes, row v11 1 (out_9.map eStr)]
  refine run_seq ?_
  refine run_seq ?_
  refine run_region' ?_
  refine oy rfl rfl (y_move rfl) ?_
  refine oy rfl rfl (y_move rfl) ?_
  refine oy rfl rfl ((y_len 0 rfl Try.runUnderlying26 rfl rfl reads_ro).to (v_len eStr _)) ?_
  refine oy rfl rfl (y_lss rfl rfl) ?_
  refine ops_nil ?_
  refine goes_code ?_
  refine run_cond (decide (i_10 < (l_2.length : Int))) rfl (fun hc16 => ?_) (fun hc16 => ?_)
  ·replace h := cond_t h hc16
   refine run_skip ?_
   refine goes_code ?_
   obtain ⟨o19, h, ho20⟩ := bindJ_some h
   refine run_cut (((List (List UInt8))) × (Value)) (fun σ => [(2, l_2v), (3, boxP b1 0), (4, boxP b2 0), (7, σ.2), (8, .int .i64 i_10)]) (fun σ => [ro l_2v 1 (l_2.map eStr), box b1 [a_0_Hubsv, a_0_Routesv], ro a_0_Hubsv 3 (a_0.Hubs.map S_api_Hub.enc), nro a_0_Routesv NC_api_Route_82 a_0.Routes, box b2 [b_1_Hubsv, b_1_Routesv], ro b_1_Hubsv 3 (b_1.Hubs.map S_api_Hub.enc), nro b_1_Routesv NC_api_Route_82 b_1.Routes, row σ.2 1 (σ.1.map eStr)]) (fun σ => o19 = .go σ.1) (fun L22 hL21 => ?_) ?_
   ·
    refine run_block ?_
    refine run_seq ?_
    obtain ⟨x23, hzx23, hlx23, hxx23, h⟩ := idx_some h
    obtain ⟨r24, hr25, h⟩ := obind_some h
    refine run_drawany [ro l_2v 1 (l_2.map eStr), box b1 [a_0_Hubsv, a_0_Routesv], ro a_0_Hubsv 3 (a_0.Hubs.map S_api_Hub.enc), nro a_0_Routesv NC_api_Route_82 a_0.Routes, box b2 [b_1_Hubsv, b_1_Routesv], ro b_1_Hubsv 3 (b_1.Hubs.map S_api_Hub.enc), nro b_1_Routesv NC_api_Route_82 b_1.Routes, row v11 1 (out_9.map eStr)] (by kernel_rfl) ?_
    refine any_y 0 rfl (by kernel_rfl) (by kernel_rfl) (by kernel_rfl) (ss (ss (ss (ss (ss (ss (ss (ss (sn))))))))) (wn rfl) rfl (y_load_boxagg (c := [a_0_Hubsv, a_0_Routesv]) 1 Try.isAgg25 Try.sizeOf25 rfl rfl rfl) ?_
    refine any_y 1 rfl (by kernel_rfl) (by kernel_rfl) (by kernel_rfl) (ss (ss (ss (ss (ss (ss (ss (ss (sn))))))))) (wn rfl) rfl (y_move rfl) ?_
    refine any_y 2 rfl (by kernel_rfl) (by kernel_rfl) (by kernel_rfl) (ss (ss (ss (ss (ss (ss (ss (ss (sn))))))))) (wn rfl) rfl (y_move rfl) ?_
    refine any_y 3 rfl (by kernel_rfl) (by kernel_rfl) (by kernel_rfl) (ss (ss (ss (ss (ss (ss (ss (ss (sn))))))))) (wn rfl) rfl (y_indexAddrI (kd := .i64) (i := i_10) 0 Try.runUnderlying26 Try.sizeOf9 rfl rfl rfl reads_ro hzx23 (map_lt hlx23)) ?_
    refine any_y 4 rfl (by kernel_rfl) (by kernel_rfl) (by kernel_rfl) (ss (ss (ss (ss (ss (ss (ss (ss (sn))))))))) (wn rfl) rfl (y_load_elem (i := i_10.toNat) 0 Try.isAgg9 rfl rfl reads_ro (map_get hxx23)) ?_
    refine any_cut2 #[true, true, true, true, true, true, true, true] 0 (Nat) (fun σ => [(2, l_2v), (3, boxP b1 0), (4, boxP b2 0), (7, v11), (8, .int .i64 i_10), (9, boxP σ 0)]) (fun σ => [ro l_2v 1 (l_2.map eStr), box b1 [a_0_Hubsv, a_0_Routesv], ro a_0_Hubsv 3 (a_0.Hubs.map S_api_Hub.enc), nro a_0_Routesv NC_api_Route_82 a_0.Routes, box b2 [b_1_Hubsv, b_1_Routesv], ro b_1_Hubsv 3 (b_1.Hubs.map S_api_Hub.enc), nro b_1_Routesv NC_api_Route_82 b_1.Routes, row v11 1 (out_9.map eStr), box σ [.int .i64 r24.N, .int .i64 r24.E]]) ?_ (fun hK29 => ?_)
    ·rintro b28
     change AnyL _ _ _ _ _ (VF.of [(2, l_2v), (3, boxP b1 0), (4, boxP b2 0), (7, v11), (8, .int .i64 i_10), (9, boxP b28 0)]) [ro l_2v 1 (l_2.map eStr), box b1 [a_0_Hubsv, a_0_Routesv], ro a_0_Hubsv 3 (a_0.Hubs.map S_api_Hub.enc), nro a_0_Routesv NC_api_Route_82 a_0.Routes, box b2 [b_1_Hubsv, b_1_Routesv], ro b_1_Hubsv 3 (b_1.Hubs.map S_api_Hub.enc), nro b_1_Routesv NC_api_Route_82 b_1.Routes, row v11 1 (out_9.map eStr), box b28 [.int .i64 r24.N, .int .i64 r24.E]] _
     refine any_nil (by kernel_rfl) ?_
     refine goes_code ?_
     refine run_seq ?_
     obtain ⟨r30, hr31, h⟩ := obind_some h
     refine run_drawany [ro l_2v 1 (l_2.map eStr), box b1 [a_0_Hubsv, a_0_Routesv], ro a_0_Hubsv 3 (a_0.Hubs.map S_api_Hub.enc), nro a_0_Routesv NC_api_Route_82 a_0.Routes, box b2 [b_1_Hubsv, b_1_Routesv], ro b_1_Hubsv 3 (b_1.Hubs.map S_api_Hub.enc), nro b_1_Routesv NC_api_Route_82 b_1.Routes, row v11 1 (out_9.map eStr), box b28 [.int .i64 r24.N, .int .i64 r24.E]] (by kernel_rfl) ?_
     refine any_y 0 rfl (by kernel_rfl) (by kernel_rfl) (by kernel_rfl) (ss (ss (ss (ss (ss (ss (ss (ss (ss (sn)))))))))) (wn rfl) rfl (y_load_boxagg (c := [b_1_Hubsv, b_1_Routesv]) 4 Try.isAgg25 Try.sizeOf25 rfl rfl rfl) ?_
     refine any_y 1 rfl (by kernel_rfl) (by kernel_rfl) (by kernel_rfl) (ss (ss (ss (ss (ss (ss (ss (ss (ss (sn)))))))))) (wn rfl) rfl (y_move rfl) ?_
     refine any_y 2 rfl (by kernel_rfl) (by kernel_rfl) (by kernel_rfl) (ss (ss (ss (ss (ss (ss (ss (ss (ss (sn)))))))))) (wn rfl) rfl (y_move rfl) ?_
     refine any_y 3 rfl (by kernel_rfl) (by kernel_rfl) (by kernel_rfl) (ss (ss (ss (ss (ss (ss (ss (ss (ss (sn)))))))))) (wn rfl) rfl (y_indexAddrI (kd := .i64) (i := i_10) 0 Try.runUnderlying26 Try.sizeOf9 rfl rfl rfl reads_ro hzx23 (map_lt hlx23)) ?_
     refine any_y 4 rfl (by kernel_rfl) (by kernel_rfl) (by kernel_rfl) (ss (ss (ss (ss (ss (ss (ss (ss (ss (sn)))))))))) (wn rfl) rfl (y_load_elem (i := i_10.toNat) 0 Try.isAgg9 rfl rfl reads_ro (map_get hxx23)) ?_
     refine any_cut2 #[true, true, true, true, true, true, true, true] 0 (Nat) (fun σ => [(2, l_2v), (3, boxP b1 0), (4, boxP b2 0), (7, v11), (8, .int .i64 i_10), (9, boxP b28 0), (10, boxP σ 0)]) (fun σ => [ro l_2v 1 (l_2.map eStr), box b1 [a_0_Hubsv, a_0_Routesv], ro a_0_Hubsv 3 (a_0.Hubs.map S_api_Hub.enc), nro a_0_Routesv NC_api_Route_82 a_0.Routes, box b2 [b_1_Hubsv, b_1_Routesv], ro b_1_Hubsv 3 (b_1.Hubs.map S_api_Hub.enc), nro b_1_Routesv NC_api_Route_82 b_1.Routes, row v11 1 (out_9.map eStr), box b28 [.int .i64 r24.N, .int .i64 r24.E], box σ [.int .i64 r30.N, .int .i64 r30.E]]) ?_ (fun hK35 => ?_)
     ·rintro b34
      change AnyL _ _ _ _ _ (VF.of [(2, l_2v), (3, boxP b1 0), (4, boxP b2 0), (7, v11), (8, .int .i64 i_10), (9, boxP b28 0), (10, boxP b34 0)]) [ro l_2v 1 (l_2.map eStr), box b1 [a_0_Hubsv, a_0_Routesv], ro a_0_Hubsv 3 (a_0.Hubs.map S_api_Hub.enc), nro a_0_Routesv NC_api_Route_82 a_0.Routes, box b2 [b_1_Hubsv, b_1_Routesv], ro b_1_Hubsv 3 (b_1.Hubs.map S_api_Hub.enc), nro b_1_Routesv NC_api_Route_82 b_1.Routes, row v11 1 (out_9.map eStr), box b28 [.int .i64 r24.N, .int .i64 r24.E], box b34 [.int .i64 r30.N, .int .i64 r30.E]] _
      refine any_nil (by kernel_rfl) ?_
      refine goes_code ?_
      refine run_seq ?_
      refine run_region' ?_
      refine oy rfl rfl (y_fieldAddr_box (sz := 0) Try.runUnderlying33 rfl Try.sizeOf3 rfl) ?_
      refine oy rfl rfl (y_load_box 8 Try.isAgg3 rfl rfl rfl) ?_
      refine oy rfl rfl (y_fieldAddr_box (sz := 0) Try.runUnderlying33 rfl Try.sizeOf3 rfl) ?_
      refine oy rfl rfl (y_load_box 9 Try.isAgg3 rfl rfl rfl) ?_
      refine oy rfl rfl (y_neq rfl rfl) ?_
      refine oy rfl rfl (y_move rfl) ?_
      refine ops_cut 8 (Bool) (fun σ => [(2, l_2v), (3, boxP b1 0), (4, boxP b2 0), (7, v11), (8, .int .i64 i_10), (42, .bool σ)]) (fun σ => [ro l_2v 1 (l_2.map eStr), box b1 [a_0_Hubsv, a_0_Routesv], ro a_0_Hubsv 3 (a_0.Hubs.map S_api_Hub.enc), nro a_0_Routesv NC_api_Route_82 a_0.Routes, box b2 [b_1_Hubsv, b_1_Routesv], ro b_1_Hubsv 3 (b_1.Hubs.map S_api_Hub.enc), nro b_1_Routesv NC_api_Route_82 b_1.Routes, row v11 1 (out_9.map eStr)]) (fun σ => σ = (decide (r24.N ≠ r30.N) || (!((decide (r24.E = 0)) == (decide (r30.E = 0)))))) (fun L36 hL37 => ?_) ?_
      ·refine ops_split 34 (decide (r24.N ≠ r30.N)) rfl (fun hg38 => ?_) (fun hg38 => ?_)
       ·skip
        refine ops_no 5 false 34 rfl rfl rfl rfl rfl ?_
        refine ops_no 5 false 34 rfl rfl rfl rfl rfl ?_
        refine ops_no 5 false 34 rfl rfl rfl rfl rfl ?_
        refine ops_no 5 false 34 rfl rfl rfl rfl rfl ?_
        refine ops_no 5 false 34 rfl rfl rfl rfl rfl ?_
        refine ops_weak [(2, l_2v), (3, boxP b1 0), (4, boxP b2 0), (7, v11), (8, .int .i64 i_10), (34, .bool true), (37, undef), (39, undef)] [0, 1, 2, 3, 4, 5, 6, 7] [ro l_2v 1 (l_2.map eStr), box b1 [a_0_Hubsv, a_0_Routesv], ro a_0_Hubsv 3 (a_0.Hubs.map S_api_Hub.enc), nro a_0_Routesv NC_api_Route_82 a_0.Routes, box b2 [b_1_Hubsv, b_1_Routesv], ro b_1_Hubsv 3 (b_1.Hubs.map S_api_Hub.enc), nro b_1_Routesv NC_api_Route_82 b_1.Routes, row v11 1 (out_9.map eStr)] (vcons rfl (vcons rfl (vcons rfl (vcons rfl (vcons rfl (vcons rfl (vcons rfl (vcons rfl (vnil))))))))) (by decide) rfl ?_
        refine ops_no 5 false 34 rfl rfl rfl rfl rfl ?_
        refine ops_no 5 false 34 rfl rfl rfl rfl rfl ?_
        refine oy rfl rfl (y_pick (b := true) rfl rfl) ?_
        refine ops_nil ?_
        exact goes_cut hL37 true [0, 1, 2, 3, 4, 5, 6, 7] (vcons rfl (vcons rfl (vcons rfl (vcons rfl (vcons rfl (vcons rfl (vnil))))))) (by decide) rfl (by rw [hg38]; simp)
       ·skip
        refine ops_y (wg 5 false 34 rfl rfl rfl rfl) rfl (y_fieldAddr_box (sz := 0) Try.runUnderlying33 rfl Try.sizeOf29 rfl) ?_
        refine ops_y (wg 5 false 34 rfl rfl rfl rfl) rfl (y_load_box 8 Try.isAgg29 rfl rfl rfl) ?_
        refine ops_y (wg 5 false 34 rfl rfl rfl rfl) rfl (y_eql rfl rfl) ?_
        refine ops_y (wg 5 false 34 rfl rfl rfl rfl) rfl (y_fieldAddr_box (sz := 0) Try.runUnderlying33 rfl Try.sizeOf29 rfl) ?_
        refine ops_y (wg 5 false 34 rfl rfl rfl rfl) rfl (y_load_box 9 Try.isAgg29 rfl rfl rfl) ?_
        refine ops_weak [(2, l_2v), (3, boxP b1 0), (4, boxP b2 0), (7, v11), (8, .int .i64 i_10), (34, .bool false), (37, .bool (decide (r24.E = 0))), (39, .int .i64 r30.E)] [0, 1, 2, 3, 4, 5, 6, 7] [ro l_2v 1 (l_2.map eStr), box b1 [a_0_Hubsv, a_0_Routesv], ro a_0_Hubsv 3 (a_0.Hubs.map S_api_Hub.enc), nro a_0_Routesv NC_api_Route_82 a_0.Routes, box b2 [b_1_Hubsv, b_1_Routesv], ro b_1_Hubsv 3 (b_1.Hubs.map S_api_Hub.enc), nro b_1_Routesv NC_api_Route_82 b_1.Routes, row v11 1 (out_9.map eStr)] (vcons rfl (vcons rfl (vcons rfl (vcons rfl (vcons rfl (vcons rfl (vcons rfl (vcons rfl (vnil))))))))) (by decide) rfl ?_
        refine ops_y (wg 5 false 34 rfl rfl rfl rfl) rfl (y_eql rfl rfl) ?_
        refine ops_y (wg 5 false 34 rfl rfl rfl rfl) rfl (y_bneq Try.runUnderlying4 rfl rfl) ?_
        refine oy rfl rfl (y_pick (b := false) rfl rfl) ?_
        refine ops_nil ?_
        exact goes_cut hL37 (!((decide (r24.E = 0)) == (decide (r30.E = 0)))) [0, 1, 2, 3, 4, 5, 6, 7] (vcons rfl (vcons rfl (vcons rfl (vcons rfl (vcons rfl (vcons rfl (vnil))))))) (by decide) rfl (by rw [hg38]; simp)
      rintro _ rfl
      refine ops_nil ?_
      refine goes_code ?_
      refine run_cond (decide (r24.N ≠ r30.N) || (!((decide (r24.E = 0)) == (decide (r30.E = 0))))) rfl (fun hc39 => ?_) (fun hc39 => ?_)
      ·replace h := cond_t h hc39
       refine run_region' ?_
       refine oy rfl rfl (y_move rfl) ?_
       refine oy rfl rfl (y_move rfl) ?_
       refine oy rfl rfl (y_move rfl) ?_
       refine oy rfl rfl (y_indexAddrI (kd := .i64) (i := i_10) 0 Try.runUnderlying26 Try.sizeOf9 rfl rfl rfl reads_ro hzx23 (map_lt hlx23)) ?_
       refine oy rfl rfl (y_load_elem (i := i_10.toNat) 0 Try.isAgg9 rfl rfl reads_ro (map_get hxx23)) ?_
       refine ot rfl rfl (t_lit [.string (bs x23)] Try.runUnderlying26 Try.sizeOf9 Try.zeroValue9 rfl (by decide) (by decide) rfl (by simp [Value.cells, boxP])) ?_
       rintro v40 _ ⟨rfl, _⟩
       refine ops_turn (retell 8 (g := row v40 1 (([x23] : List (List UInt8)).map eStr)) rfl rfl) ?_
       obtain ⟨hr42, h⟩ := need_some h
       refine ot rfl rfl (t_append (es := 1) 7 rfl Try.runUnderlying26 rfl Try.runUnderlying26 (.inr ⟨_, rfl⟩) Try.typeInfo9 rfl (by decide) Try.zeroValue9 rfl rfl rfl rfl (src_reads 8 rfl reads_row (map_ok eStr_ok _)) (map_room hr42 (by decide)) (map_fit hr42)) ?_
       rintro v41 _ rfl
       refine ops_turn (retell 7 (g := row v41 1 ((out_9 ++ ([x23] : List (List UInt8))).map eStr)) rfl (congrArg (row _ _) List.map_append.symm)) ?_
       refine oy rfl rfl (y_assign rfl) ?_
       refine ops_nil ?_
       refine goes_blk ?_
       obtain rfl := some_eq h
       exact goes_cut hL21 ((out_9 ++ ([x23] : List (List UInt8))), v41) [0, 1, 2, 3, 4, 5, 6, 7] (vcons rfl (vcons rfl (vcons rfl (vcons rfl (vcons rfl (vnil)))))) (by decide) rfl rfl
      ·replace h := cond_f h hc39
       refine run_skip ?_
       refine goes_blk ?_
       obtain rfl := some_eq h
       exact goes_cut hL21 (out_9, v11) [0, 1, 2, 3, 4, 5, 6, 7] (vcons rfl (vcons rfl (vcons rfl (vcons rfl (vcons rfl (vnil)))))) (by decide) rfl rfl
     refine any_cut2 #[true, true, true, true, true, true, true, false] 1 (Nat) (fun σ => [(2, l_2v), (3, boxP b1 0), (4, boxP b2 0), (7, v11), (8, .int .i64 i_10), (9, boxP b28 0), (28, .agg #[.int .i64 r30.N, .int .i64 r30.E]), (10, boxP σ 0)]) (fun σ => [ro l_2v 1 (l_2.map eStr), box b1 [a_0_Hubsv, a_0_Routesv], ro a_0_Hubsv 3 (a_0.Hubs.map S_api_Hub.enc), nro a_0_Routesv NC_api_Route_82 a_0.Routes, box b2 [b_1_Hubsv, b_1_Routesv], ro b_1_Hubsv 3 (b_1.Hubs.map S_api_Hub.enc), nro b_1_Routesv NC_api_Route_82 b_1.Routes, row v11 1 (out_9.map eStr), box b28 [.int .i64 r24.N, .int .i64 r24.E], box σ [.int .i64 0, .int .i64 0]]) ?_ (fun hK43 => ?_)
     ·rintro b34
      change AnyL _ _ _ _ _ (VF.of [(2, l_2v), (3, boxP b1 0), (4, boxP b2 0), (7, v11), (8, .int .i64 i_10), (9, boxP b28 0), (28, .agg #[.int .i64 r30.N, .int .i64 r30.E]), (10, boxP b34 0)]) [ro l_2v 1 (l_2.map eStr), box b1 [a_0_Hubsv, a_0_Routesv], ro a_0_Hubsv 3 (a_0.Hubs.map S_api_Hub.enc), nro a_0_Routesv NC_api_Route_82 a_0.Routes, box b2 [b_1_Hubsv, b_1_Routesv], ro b_1_Hubsv 3 (b_1.Hubs.map S_api_Hub.enc), nro b_1_Routesv NC_api_Route_82 b_1.Routes, row v11 1 (out_9.map eStr), box b28 [.int .i64 r24.N, .int .i64 r24.E], box b34 [.int .i64 0, .int .i64 0]] _
      refine any_all [7] (by kernel_rfl) rfl ?_
      refine anyo_cons ?_ ?_
      ·
       refine any_t rfl (wn rfl) rfl (t_store 9 Try.sizeOf33 rfl rfl rfl rfl (by simp [Value.cells, boxP]) (by simp [Value.cells, Value.oneCell', boxP])) ?_
       rintro _ _ ⟨rfl, rfl⟩
       refine ⟨(ss (ss (ss (ss (ss (ss (ss (ss (ss (sn)))))))))), ?_⟩
       refine any_turn (retell 9 (g := box b34 [.int .i64 r30.N, .int .i64 r30.E]) rfl rfl) ?_
       exact any_weak2 (hK35 b34) [0, 1, 2, 3, 4, 5, 6, 7, 8, 9] (by kernel_rfl) (vcons rfl (vcons rfl (vcons rfl (vcons rfl (vcons rfl (vcons rfl (vcons rfl (vnil)))))))) (by decide) rfl
      exact anyo_nil
     refine any_cut2 #[true, true, true, true, true, true, false, false] 2 (Unit) (fun σ => [(2, l_2v), (3, boxP b1 0), (4, boxP b2 0), (7, v11), (8, .int .i64 i_10), (9, boxP b28 0), (28, .agg #[.int .i64 r30.N, .int .i64 r30.E])]) (fun σ => [ro l_2v 1 (l_2.map eStr), box b1 [a_0_Hubsv, a_0_Routesv], ro a_0_Hubsv 3 (a_0.Hubs.map S_api_Hub.enc), nro a_0_Routesv NC_api_Route_82 a_0.Routes, box b2 [b_1_Hubsv, b_1_Routesv], ro b_1_Hubsv 3 (b_1.Hubs.map S_api_Hub.enc), nro b_1_Routesv NC_api_Route_82 b_1.Routes, row v11 1 (out_9.map eStr), box b28 [.int .i64 r24.N, .int .i64 r24.E]]) ?_ (fun hK44 => ?_)
     ·rintro _
      change AnyL _ _ _ _ _ (VF.of [(2, l_2v), (3, boxP b1 0), (4, boxP b2 0), (7, v11), (8, .int .i64 i_10), (9, boxP b28 0), (28, .agg #[.int .i64 r30.N, .int .i64 r30.E])]) [ro l_2v 1 (l_2.map eStr), box b1 [a_0_Hubsv, a_0_Routesv], ro a_0_Hubsv 3 (a_0.Hubs.map S_api_Hub.enc), nro a_0_Routesv NC_api_Route_82 a_0.Routes, box b2 [b_1_Hubsv, b_1_Routesv], ro b_1_Hubsv 3 (b_1.Hubs.map S_api_Hub.enc), nro b_1_Routesv NC_api_Route_82 b_1.Routes, row v11 1 (out_9.map eStr), box b28 [.int .i64 r24.N, .int .i64 r24.E]] _
      refine any_all [6] (by kernel_rfl) rfl ?_
      refine anyo_cons ?_ ?_
      ·
       refine any_t rfl (wn rfl) rfl (t_alloc Try.zeroValue33) ?_
       rintro _ _ ⟨b45, rfl, rfl⟩
       refine ⟨(ss (ss (ss (ss (ss (ss (ss (ss (ss (sn)))))))))), ?_⟩
       exact any_weak2 (hK43 b45) [0, 1, 2, 3, 4, 5, 6, 7, 8, 9] (by kernel_rfl) (vcons rfl (vcons rfl (vcons rfl (vcons rfl (vcons rfl (vcons rfl (vcons rfl (vcons rfl (vnil))))))))) (by decide) rfl
      exact anyo_nil
     refine any_cut2 #[true, true, true, true, true, false, true, false] 2 (Nat) (fun σ => [(2, l_2v), (3, boxP b1 0), (4, boxP b2 0), (7, v11), (8, .int .i64 i_10), (9, boxP b28 0), (23, .agg #[b_1_Hubsv, b_1_Routesv]), (27, .string (bs x23)), (10, boxP σ 0)]) (fun σ => [ro l_2v 1 (l_2.map eStr), box b1 [a_0_Hubsv, a_0_Routesv], ro a_0_Hubsv 3 (a_0.Hubs.map S_api_Hub.enc), nro a_0_Routesv NC_api_Route_82 a_0.Routes, box b2 [b_1_Hubsv, b_1_Routesv], ro b_1_Hubsv 3 (b_1.Hubs.map S_api_Hub.enc), nro b_1_Routesv NC_api_Route_82 b_1.Routes, row v11 1 (out_9.map eStr), box b28 [.int .i64 r24.N, .int .i64 r24.E], box σ [.int .i64 0, .int .i64 0]]) ?_ (fun hK46 => ?_)
     ·rintro b33
      change AnyL _ _ _ _ _ (VF.of [(2, l_2v), (3, boxP b1 0), (4, boxP b2 0), (7, v11), (8, .int .i64 i_10), (9, boxP b28 0), (23, .agg #[b_1_Hubsv, b_1_Routesv]), (27, .string (bs x23)), (10, boxP b33 0)]) [ro l_2v 1 (l_2.map eStr), box b1 [a_0_Hubsv, a_0_Routesv], ro a_0_Hubsv 3 (a_0.Hubs.map S_api_Hub.enc), nro a_0_Routesv NC_api_Route_82 a_0.Routes, box b2 [b_1_Hubsv, b_1_Routesv], ro b_1_Hubsv 3 (b_1.Hubs.map S_api_Hub.enc), nro b_1_Routesv NC_api_Route_82 b_1.Routes, row v11 1 (out_9.map eStr), box b28 [.int .i64 r24.N, .int .i64 r24.E], box b33 [.int .i64 0, .int .i64 0]] _
      refine any_all [5] (by kernel_rfl) rfl ?_
      refine anyo_cons ?_ ?_
      ·
       refine any_t rfl (wn rfl) rfl (t_callx (vs := [.agg #[b_1_Hubsv, b_1_Routesv], .string (bs x23)]) (cs := []) [(5, 0), (6, 0)] rfl Try.call10 rfl (ref42_Entry_ok n b_1 x23 b_1_Hubsv b_1_Routesv hr31) (showsX_view 5 rfl views_ro (showsX_view 6 rfl views_nro showsX_nil)) rfl (.inl rfl)) ?_
       rintro _ _ ⟨_, ⟨rfl, rfl⟩, rfl⟩
       refine ⟨(ss (ss (ss (ss (ss (ss (ss (ss (ss (sn)))))))))), ?_⟩
       exact any_weak2 (hK43 b33) [0, 1, 2, 3, 4, 5, 6, 7, 8, 9] (by kernel_rfl) (vcons rfl (vcons rfl (vcons rfl (vcons rfl (vcons rfl (vcons rfl (vcons rfl (vcons rfl (vnil))))))))) (by decide) rfl
      exact anyo_nil
     refine any_all [5, 6] (by kernel_rfl) rfl ?_
     refine anyo_cons ?_ ?_
     ·
      refine any_t rfl (wn rfl) rfl (t_callx (vs := [.agg #[b_1_Hubsv, b_1_Routesv], .string (bs x23)]) (cs := []) [(5, 0), (6, 0)] rfl Try.call10 rfl (ref42_Entry_ok n b_1 x23 b_1_Hubsv b_1_Routesv hr31) (showsX_view 5 rfl views_ro (showsX_view 6 rfl views_nro showsX_nil)) rfl (.inl rfl)) ?_
      rintro _ _ ⟨_, ⟨rfl, rfl⟩, rfl⟩
      refine ⟨(ss (ss (ss (ss (ss (ss (ss (ss (ss (sn)))))))))), ?_⟩
      exact any_weak2 (hK44 ()) [0, 1, 2, 3, 4, 5, 6, 7, 8] (by kernel_rfl) (vcons rfl (vcons rfl (vcons rfl (vcons rfl (vcons rfl (vcons rfl (vcons rfl (vnil)))))))) (by decide) rfl
     refine anyo_cons ?_ ?_
     ·
      refine any_t rfl (wn rfl) rfl (t_alloc Try.zeroValue33) ?_
      rintro _ _ ⟨b47, rfl, rfl⟩
      refine ⟨(ss (ss (ss (ss (ss (ss (ss (ss (ss (sn)))))))))), ?_⟩
      exact any_weak2 (hK46 b47) [0, 1, 2, 3, 4, 5, 6, 7, 8, 9] (by kernel_rfl) (vcons rfl (vcons rfl (vcons rfl (vcons rfl (vcons rfl (vcons rfl (vcons rfl (vcons rfl (vcons rfl (vnil)))))))))) (by decide) rfl
     exact anyo_nil
    refine any_cut2 #[true, true, true, true, true, true, true, false] 1 (Nat) (fun σ => [(2, l_2v), (3, boxP b1 0), (4, boxP b2 0), (7, v11), (8, .int .i64 i_10), (22, .agg #[.int .i64 r24.N, .int .i64 r24.E]), (9, boxP σ 0)]) (fun σ => [ro l_2v 1 (l_2.map eStr), box b1 [a_0_Hubsv, a_0_Routesv], ro a_0_Hubsv 3 (a_0.Hubs.map S_api_Hub.enc), nro a_0_Routesv NC_api_Route_82 a_0.Routes, box b2 [b_1_Hubsv, b_1_Routesv], ro b_1_Hubsv 3 (b_1.Hubs.map S_api_Hub.enc), nro b_1_Routesv NC_api_Route_82 b_1.Routes, row v11 1 (out_9.map eStr), box σ [.int .i64 0, .int .i64 0]]) ?_ (fun hK48 => ?_)
    ·rintro b28
     change AnyL _ _ _ _ _ (VF.of [(2, l_2v), (3, boxP b1 0), (4, boxP b2 0), (7, v11), (8, .int .i64 i_10), (22, .agg #[.int .i64 r24.N, .int .i64 r24.E]), (9, boxP b28 0)]) [ro l_2v 1 (l_2.map eStr), box b1 [a_0_Hubsv, a_0_Routesv], ro a_0_Hubsv 3 (a_0.Hubs.map S_api_Hub.enc), nro a_0_Routesv NC_api_Route_82 a_0.Routes, box b2 [b_1_Hubsv, b_1_Routesv], ro b_1_Hubsv 3 (b_1.Hubs.map S_api_Hub.enc), nro b_1_Routesv NC_api_Route_82 b_1.Routes, row v11 1 (out_9.map eStr), box b28 [.int .i64 0, .int .i64 0]] _
     refine any_all [7] (by kernel_rfl) rfl ?_
     refine anyo_cons ?_ ?_
     ·
      refine any_t rfl (wn rfl) rfl (t_store 8 Try.sizeOf33 rfl rfl rfl rfl (by simp [Value.cells, boxP]) (by simp [Value.cells, Value.oneCell', boxP])) ?_
      rintro _ _ ⟨rfl, rfl⟩
      refine ⟨(ss (ss (ss (ss (ss (ss (ss (ss (sn))))))))), ?_⟩
      refine any_turn (retell 8 (g := box b28 [.int .i64 r24.N, .int .i64 r24.E]) rfl rfl) ?_
      exact any_weak2 (hK29 b28) [0, 1, 2, 3, 4, 5, 6, 7, 8] (by kernel_rfl) (vcons rfl (vcons rfl (vcons rfl (vcons rfl (vcons rfl (vcons rfl (vnil))))))) (by decide) rfl
     exact anyo_nil
    refine any_cut2 #[true, true, true, true, true, true, false, false] 2 (Unit) (fun σ => [(2, l_2v), (3, boxP b1 0), (4, boxP b2 0), (7, v11), (8, .int .i64 i_10), (22, .agg #[.int .i64 r24.N, .int .i64 r24.E])]) (fun σ => [ro l_2v 1 (l_2.map eStr), box b1 [a_0_Hubsv, a_0_Routesv], ro a_0_Hubsv 3 (a_0.Hubs.map S_api_Hub.enc), nro a_0_Routesv NC_api_Route_82 a_0.Routes, box b2 [b_1_Hubsv, b_1_Routesv], ro b_1_Hubsv 3 (b_1.Hubs.map S_api_Hub.enc), nro b_1_Routesv NC_api_Route_82 b_1.Routes, row v11 1 (out_9.map eStr)]) ?_ (fun hK49 => ?_)
    ·rintro _
     change AnyL _ _ _ _ _ (VF.of [(2, l_2v), (3, boxP b1 0), (4, boxP b2 0), (7, v11), (8, .int .i64 i_10), (22, .agg #[.int .i64 r24.N, .int .i64 r24.E])]) [ro l_2v 1 (l_2.map eStr), box b1 [a_0_Hubsv, a_0_Routesv], ro a_0_Hubsv 3 (a_0.Hubs.map S_api_Hub.enc), nro a_0_Routesv NC_api_Route_82 a_0.Routes, box b2 [b_1_Hubsv, b_1_Routesv], ro b_1_Hubsv 3 (b_1.Hubs.map S_api_Hub.enc), nro b_1_Routesv NC_api_Route_82 b_1.Routes, row v11 1 (out_9.map eStr)] _
     refine any_all [6] (by kernel_rfl) rfl ?_
     refine anyo_cons ?_ ?_
     ·
      refine any_t rfl (wn rfl) rfl (t_alloc Try.zeroValue33) ?_
      rintro _ _ ⟨b50, rfl, rfl⟩
      refine ⟨(ss (ss (ss (ss (ss (ss (ss (ss (sn))))))))), ?_⟩
      exact any_weak2 (hK48 b50) [0, 1, 2, 3, 4, 5, 6, 7, 8] (by kernel_rfl) (vcons rfl (vcons rfl (vcons rfl (vcons rfl (vcons rfl (vcons rfl (vcons rfl (vnil)))))))) (by decide) rfl
     exact anyo_nil
    refine any_cut2 #[true, true, true, true, true, false, true, false] 2 (Nat) (fun σ => [(2, l_2v), (3, boxP b1 0), (4, boxP b2 0), (7, v11), (8, .int .i64 i_10), (17, .agg #[a_0_Hubsv, a_0_Routesv]), (21, .string (bs x23)), (9, boxP σ 0)]) (fun σ => [ro l_2v 1 (l_2.map eStr), box b1 [a_0_Hubsv, a_0_Routesv], ro a_0_Hubsv 3 (a_0.Hubs.map S_api_Hub.enc), nro a_0_Routesv NC_api_Route_82 a_0.Routes, box b2 [b_1_Hubsv, b_1_Routesv], ro b_1_Hubsv 3 (b_1.Hubs.map S_api_Hub.enc), nro b_1_Routesv NC_api_Route_82 b_1.Routes, row v11 1 (out_9.map eStr), box σ [.int .i64 0, .int .i64 0]]) ?_ (fun hK51 => ?_)
    ·rintro b27
     change AnyL _ _ _ _ _ (VF.of [(2, l_2v), (3, boxP b1 0), (4, boxP b2 0), (7, v11), (8, .int .i64 i_10), (17, .agg #[a_0_Hubsv, a_0_Routesv]), (21, .string (bs x23)), (9, boxP b27 0)]) [ro l_2v 1 (l_2.map eStr), box b1 [a_0_Hubsv, a_0_Routesv], ro a_0_Hubsv 3 (a_0.Hubs.map S_api_Hub.enc), nro a_0_Routesv NC_api_Route_82 a_0.Routes, box b2 [b_1_Hubsv, b_1_Routesv], ro b_1_Hubsv 3 (b_1.Hubs.map S_api_Hub.enc), nro b_1_Routesv NC_api_Route_82 b_1.Routes, row v11 1 (out_9.map eStr), box b27 [.int .i64 0, .int .i64 0]] _
     refine any_all [5] (by kernel_rfl) rfl ?_
     refine anyo_cons ?_ ?_
     ·
      refine any_t rfl (wn rfl) rfl (t_callx (vs := [.agg #[a_0_Hubsv, a_0_Routesv], .string (bs x23)]) (cs := []) [(2, 0), (3, 0)] rfl Try.call10 rfl (ref42_Entry_ok n a_0 x23 a_0_Hubsv a_0_Routesv hr25) (showsX_view 2 rfl views_ro (showsX_view 3 rfl views_nro showsX_nil)) rfl (.inl rfl)) ?_
      rintro _ _ ⟨_, ⟨rfl, rfl⟩, rfl⟩
      refine ⟨(ss (ss (ss (ss (ss (ss (ss (ss (sn))))))))), ?_⟩
      exact any_weak2 (hK48 b27) [0, 1, 2, 3, 4, 5, 6, 7, 8] (by kernel_rfl) (vcons rfl (vcons rfl (vcons rfl (vcons rfl (vcons rfl (vcons rfl (vcons rfl (vnil)))))))) (by decide) rfl
     exact anyo_nil
    refine any_all [5, 6] (by kernel_rfl) rfl ?_
    refine anyo_cons ?_ ?_
    ·
     refine any_t rfl (wn rfl) rfl (t_callx (vs := [.agg #[a_0_Hubsv, a_0_Routesv], .string (bs x23)]) (cs := []) [(2, 0), (3, 0)] rfl Try.call10 rfl (ref42_Entry_ok n a_0 x23 a_0_Hubsv a_0_Routesv hr25) (showsX_view 2 rfl views_ro (showsX_view 3 rfl views_nro showsX_nil)) rfl (.inl rfl)) ?_
     rintro _ _ ⟨_, ⟨rfl, rfl⟩, rfl⟩
     refine ⟨(ss (ss (ss (ss (ss (ss (ss (ss (sn))))))))), ?_⟩
     exact any_weak2 (hK49 ()) [0, 1, 2, 3, 4, 5, 6, 7] (by kernel_rfl) (vcons rfl (vcons rfl (vcons rfl (vcons rfl (vcons rfl (vcons rfl (vnil))))))) (by decide) rfl
    refine anyo_cons ?_ ?_
    ·
     refine any_t rfl (wn rfl) rfl (t_alloc Try.zeroValue33) ?_
     rintro _ _ ⟨b52, rfl, rfl⟩
     refine ⟨(ss (ss (ss (ss (ss (ss (ss (ss (sn))))))))), ?_⟩
     exact any_weak2 (hK51 b52) [0, 1, 2, 3, 4, 5, 6, 7, 8] (by kernel_rfl) (vcons rfl (vcons rfl (vcons rfl (vcons rfl (vcons rfl (vcons rfl (vcons rfl (vcons rfl (vnil))))))))) (by decide) rfl
    exact anyo_nil
   rintro ⟨out_17, v18⟩ hj
   obtain rfl : o19 = _ := hj
   replace h := after_go ho20
   clear ho20
   change Run _ _ _ (VF.of [(2, l_2v), (3, boxP b1 0), (4, boxP b2 0), (7, v18), (8, .int .i64 i_10)]) [ro l_2v 1 (l_2.map eStr), box b1 [a_0_Hubsv, a_0_Routesv], ro a_0_Hubsv 3 (a_0.Hubs.map S_api_Hub.enc), nro a_0_Routesv NC_api_Route_82 a_0.Routes, box b2 [b_1_Hubsv, b_1_Routesv], ro b_1_Hubsv 3 (b_1.Hubs.map S_api_Hub.enc), nro b_1_Routesv NC_api_Route_82 b_1.Routes, row v18 1 (out_17.map eStr)]
   refine run_region' ?_
   refine oy rfl rfl (y_move rfl) ?_
   refine oy rfl rfl (y_add rfl rfl) ?_
   refine oy rfl rfl (y_assign rfl) ?_
   refine ops_nil ?_
   obtain rfl := some_eq h
   exact goes_iter hgo13 (out_17, (IntKind.i64.wrap (i_10 + 1))) v18 [0, 1, 2, 3, 4, 5, 6, 7] rfl (vcons rfl (vcons rfl (vcons rfl (vcons rfl (vcons rfl (vnil)))))) (by decide) rfl
  ·replace h := cond_f h hc16
   refine run_exit _ rfl ?_
   obtain rfl := some_eq h
   obtain rfl := hstop14 _ rfl
   exact goes_cut hL7 (out_9, v11) [7] (vcons rfl (vnil)) (by decide) rfl rfl
 rintro ⟨out_3, v4⟩ hj
 obtain rfl : o5 = _ := hj
 replace h := after_go ho6
 clear ho6
 change Run _ _ _ (VF.of [(7, v4)]) [row v4 1 (out_3.map eStr)]
 refine run_seq ?_
 refine run_region' ?_
 refine oy rfl rfl (y_move rfl) ?_
 refine oy rfl rfl (y_assign rfl) ?_
 refine ops_nil ?_
 refine goes_code ?_
 refine run_ret ?_
 obtain rfl := some_eq h
 refine fin_slots [6] [v4] [0] [row v4 1 (out_3.map eStr)] Try.results16 rfl (by decide) rfl ?_
 exact ⟨_, rfl, rfl⟩

end Go.Proofs.Ytigiikkenamneaa
