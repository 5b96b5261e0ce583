/-
  Functions that the law TopoEntriesAreUp needs, lifted.
-/
import Derived.Test.YtigiikkenamneaaFd
namespace Go.Proofs.Ytigiikkenamneaa
open Go.Abs
set_option linter.unusedVariables false
set_option linter.unusedSimpArgs false
set_option maxRecDepth 20000
set_option maxHeartbeats 4000000


def ref42_Few_L1 (m_0 : S_api_Map) : (Int) → Option (Lp (Int) (Lp (Unit) (Bool))) :=
 fun i_6 =>
  cond (decide (i_6 < (m_0.Routes.length : Int)))
   (idx m_0.Routes i_6 fun x12 =>
   cond (decide (70 < (x12.Sites.length : Int)))
    (some (.stop (.stop false)))
    (some (.go (IntKind.i64.wrap (i_6 + 1)))))
   (some (.stop (.go ())))
def ref42_Few (n : Nat) (m_0 : S_api_Map) : Option (Bool) :=
 bindJ (S := Unit)
  (iter (ref42_Few_L1 m_0) n 0)
 (fun _ =>
  some (decide ((m_0.Hubs.length : Int) ≤ 70) && decide ((m_0.Routes.length : Int) ≤ 20)))
theorem ref42_Few_ok (n : Nat) (m_0 : S_api_Map) (m_0_Hubsv : Value) (m_0_Routesv : Value) {r : Bool} (h : ref42_Few n m_0 = some r) :
  Meets Try.prog 7 [.agg #[m_0_Hubsv, m_0_Routesv]] [ro m_0_Hubsv 3 (m_0.Hubs.map S_api_Hub.enc), nro m_0_Routesv NC_api_Route_82 m_0.Routes] (fun v G => v = .bool r ∧ G = []) := by
 refine fn_of_run Try.func7 rfl Try.ntmps7 rfl (fun w0 o0 => ?_)
 refine run_seq ?_
 refine run_region' ?_
 refine ot rfl rfl (t_box rfl) ?_
 rintro _ _ ⟨b1, rfl, rfl⟩
 refine oy rfl rfl (y_assign rfl) ?_
 refine ops_nil ?_
 refine goes_code ?_
 obtain ⟨o2, h, ho3⟩ := bindJ_some h
 refine run_cut ((Unit) × (Unit)) (fun σ => [(1, boxP b1 0)]) (fun σ => [box b1 [m_0_Hubsv, m_0_Routesv], ro m_0_Hubsv 3 (m_0.Hubs.map S_api_Hub.enc), nro m_0_Routesv NC_api_Route_82 m_0.Routes]) (fun σ => o2 = .go σ.1) (fun L5 hL4 => ?_) ?_
 ·
  refine run_seq ?_
  refine run_region' ?_
  refine oy rfl rfl (y_assign rfl) ?_
  refine ops_nil ?_
  refine goes_code ?_
  refine run_block ?_
  refine run_iter (step := ref42_Few_L1 m_0) (n := n) (s0 := 0) h (G := Unit) () (fun σ γ => [(1, boxP b1 0), (3, .int .i64 σ)]) (fun σ γ => [box b1 [m_0_Hubsv, m_0_Routesv], ro m_0_Hubsv 3 (m_0.Hubs.map S_api_Hub.enc), nro m_0_Routesv NC_api_Route_82 m_0.Routes]) [2, 0, 1] (vcons rfl (vcons rfl (vnil))) (by decide) rfl ?_
  rintro i_6 _ o7 h L10 hgo8 hstop9
  change Run _ _ _ (VF.of [(1, boxP b1 0), (3, .int .i64 i_6)]) [box b1 [m_0_Hubsv, m_0_Routesv], ro m_0_Hubsv 3 (m_0.Hubs.map S_api_Hub.enc), nro m_0_Routesv NC_api_Route_82 m_0.Routes]
  refine run_seq ?_
  refine run_seq ?_
  refine run_region' ?_
  refine oy rfl rfl (y_move rfl) ?_
  refine oy rfl rfl (y_fieldAddr_box (sz := 0) Try.runUnderlying25 rfl Try.sizeOf23 rfl) ?_
  refine oy rfl rfl (y_load_box 0 Try.isAgg23 rfl rfl rfl) ?_
  refine oy rfl rfl (y_lenN 2 rfl Try.runUnderlying23 rfl rfl readsN_ro) ?_
  refine oy rfl rfl (y_lss rfl rfl) ?_
  refine ops_nil ?_
  refine goes_code ?_
  refine run_cond (decide (i_6 < (m_0.Routes.length : Int))) rfl (fun hc11 => ?_) (fun hc11 => ?_)
  ·replace h := cond_t h hc11
   refine run_skip ?_
   refine goes_code ?_
   refine run_seq ?_
   refine run_block ?_
   refine run_seq ?_
   refine run_region' ?_
   refine oy rfl rfl (y_fieldAddr_box (sz := 0) Try.runUnderlying25 rfl Try.sizeOf23 rfl) ?_
   refine oy rfl rfl (y_load_box 0 Try.isAgg23 rfl rfl rfl) ?_
   refine oy rfl rfl (y_move rfl) ?_
   obtain ⟨x12, hzx12, hlx12, hxx12, h⟩ := idx_some h
   refine oy rfl rfl (y_indexAddrN (kd := .i64) (i := i_6) 2 Try.runUnderlying23 Try.sizeOf82 rfl rfl rfl readsN_ro hzx12 hlx12) ?_
   refine ops_ex (exAt (C := NC_api_Route_82) (i := i_6.toNat) 2 rfl hxx12) ?_
   rintro g13
   refine oy rfl rfl (y_fieldAddr_elem (sz := 0) Try.runUnderlying82 rfl Try.sizeOf35 rfl) ?_
   refine oy rfl rfl (y_load_at (n := i_6.toNat * 2) (j := 1) 3 Try.isAgg35 rfl rfl rfl) ?_
   refine oy rfl rfl ((y_len 4 rfl Try.runUnderlying35 rfl rfl reads_ro).to (v_len (eInt .i64) _)) ?_
   refine oy rfl rfl (y_gtr rfl rfl) ?_
   refine ops_nil ?_
   refine goes_code ?_
   refine run_cond (decide (70 < (x12.Sites.length : Int))) rfl (fun hc14 => ?_) (fun hc14 => ?_)
   ·replace h := cond_t h hc14
    refine run_seq ?_
    refine run_weak [] [] [] vnil (by decide) rfl ?_
    refine run_region' ?_
    refine oy rfl rfl (y_assign rfl) ?_
    refine ops_nil ?_
    refine goes_code ?_
    refine run_ret ?_
    obtain rfl := some_eq h
    obtain rfl := hstop9 _ rfl
    skip
    obtain rfl := after_stop ho3
    refine fin_slots [2] [.bool false] [] [] Try.results7 rfl (by decide) rfl ?_
    exact ⟨rfl, rfl⟩
   ·replace h := cond_f h hc14
    refine run_skip ?_
    refine goes_blk ?_
    refine goes_code ?_
    refine run_weak [(1, boxP b1 0), (3, .int .i64 i_6)] [0, 1, 2] [box b1 [m_0_Hubsv, m_0_Routesv], ro m_0_Hubsv 3 (m_0.Hubs.map S_api_Hub.enc), nro m_0_Routesv NC_api_Route_82 m_0.Routes] (vcons rfl (vcons rfl (vnil))) (by decide) rfl ?_
    refine run_region' ?_
    refine oy rfl rfl (y_move rfl) ?_
    refine oy rfl rfl (y_add rfl rfl) ?_
    refine oy rfl rfl (y_assign rfl) ?_
    refine ops_nil ?_
    obtain rfl := some_eq h
    exact goes_iter hgo8 (IntKind.i64.wrap (i_6 + 1)) () [0, 1, 2] rfl (vcons rfl (vcons rfl (vnil))) (by decide) rfl
  ·replace h := cond_f h hc11
   refine run_exit _ rfl ?_
   obtain rfl := some_eq h
   obtain rfl := hstop9 _ rfl
   exact goes_cut hL4 ((), ()) [0, 1, 2] (vcons rfl (vnil)) (by decide) rfl rfl
 rintro ⟨_, _⟩ hj
 obtain rfl : o2 = _ := hj
 replace h := after_go ho3
 clear ho3
 change Run _ _ _ (VF.of [(1, boxP b1 0)]) [box b1 [m_0_Hubsv, m_0_Routesv], ro m_0_Hubsv 3 (m_0.Hubs.map S_api_Hub.enc), nro m_0_Routesv NC_api_Route_82 m_0.Routes]
 refine run_seq ?_
 refine run_region' ?_
 refine oy rfl rfl (y_fieldAddr_box (sz := 0) Try.runUnderlying25 rfl Try.sizeOf22 rfl) ?_
 refine oy rfl rfl (y_load_box 0 Try.isAgg22 rfl rfl rfl) ?_
 refine oy rfl rfl ((y_len 1 rfl Try.runUnderlying22 rfl rfl reads_ro).to (v_len S_api_Hub.enc _)) ?_
 refine oy rfl rfl (y_leq rfl rfl) ?_
 refine oy rfl rfl (y_move rfl) ?_
 refine ops_cut 5 (Bool) (fun σ => [(28, .bool σ)]) (fun σ => []) (fun σ => σ = (decide ((m_0.Hubs.length : Int) ≤ 70) && decide ((m_0.Routes.length : Int) ≤ 20))) (fun L15 hL16 => ?_) ?_
 ·refine ops_split 23 (decide ((m_0.Hubs.length : Int) ≤ 70)) rfl (fun hg17 => ?_) (fun hg17 => ?_)
  ·skip
   refine ops_y (wg 4 true 23 rfl rfl rfl rfl) rfl (y_fieldAddr_box (sz := 0) Try.runUnderlying25 rfl Try.sizeOf23 rfl) ?_
   refine ops_y (wg 4 true 23 rfl rfl rfl rfl) rfl (y_load_box 0 Try.isAgg23 rfl rfl rfl) ?_
   refine ops_y (wg 4 true 23 rfl rfl rfl rfl) rfl (y_lenN 2 rfl Try.runUnderlying23 rfl rfl readsN_ro) ?_
   refine ops_y (wg 4 true 23 rfl rfl rfl rfl) rfl (y_leq rfl rfl) ?_
   refine oy rfl rfl (y_pick (b := true) rfl rfl) ?_
   refine ops_nil ?_
   exact goes_cut hL16 (decide ((m_0.Routes.length : Int) ≤ 20)) [] (vcons rfl (vnil)) (by decide) rfl (by rw [hg17]; simp)
  ·skip
   refine ops_no 4 true 23 rfl rfl rfl rfl rfl ?_
   refine ops_no 4 true 23 rfl rfl rfl rfl rfl ?_
   refine ops_no 4 true 23 rfl rfl rfl rfl rfl ?_
   refine ops_no 4 true 23 rfl rfl rfl rfl rfl ?_
   refine oy rfl rfl (y_pick (b := false) rfl rfl) ?_
   refine ops_nil ?_
   exact goes_cut hL16 false [] (vcons rfl (vnil)) (by decide) rfl (by rw [hg17]; simp)
 rintro _ rfl
 refine oy rfl rfl (y_assign rfl) ?_
 refine ops_nil ?_
 refine goes_code ?_
 refine run_ret ?_
 obtain rfl := some_eq h
 refine fin_slots [2] [.bool (decide ((m_0.Hubs.length : Int) ≤ 70) && decide ((m_0.Routes.length : Int) ≤ 20))] [] [] Try.results7 rfl (by decide) rfl ?_
 exact ⟨rfl, rfl⟩

def topo_Moved_L1 (n : Nat) (a_0 : S_api_Map) (b_1 : S_api_Map) (countries_2 : (List (List UInt8))) : ((List (List UInt8)) × Int) → Option (Lp ((List (List UInt8)) × Int) (Lp ((List (List UInt8))) ((List (List UInt8))))) :=
 fun (out_9, s_10) =>
  cond (decide (s_10 < (countries_2.length : Int)))
   (bindJ (S := (List (List UInt8)))
    (idx countries_2 s_10 fun x23 =>
    obind (topo_Entry n a_0 x23) fun r24 =>
    obind (topo_Entry n b_1 x23) fun r26 =>
    cond (decide (r24.1 ≠ r26.1) || (!((decide (r24.2 = 0)) == (decide (r26.2 = 0)))))
     (need (out_9.length + ([x23] : List (List UInt8)).length ≤ 4294967296) (
     some (.go (out_9 ++ ([x23] : List (List UInt8))))))
     (some (.go out_9)))
   (fun out_17 =>
    some (.go (out_17, (IntKind.i64.wrap (s_10 + 1))))))
   (some (.stop (.go out_9)))
def topo_Moved (n : Nat) (a_0 : S_api_Map) (b_1 : S_api_Map) (countries_2 : (List (List UInt8))) : Option ((List (List UInt8))) :=
 bindJ (S := (List (List UInt8)))
  (iter (topo_Moved_L1 n a_0 b_1 countries_2) n (([] : List (List UInt8)), 0))
 (fun out_3 =>
  some out_3)
theorem topo_Moved_ok (n : Nat) (a_0 : S_api_Map) (b_1 : S_api_Map) (countries_2 : (List (List UInt8))) (a_0_Hubsv : Value) (a_0_Routesv : Value) (b_1_Hubsv : Value) (b_1_Routesv : Value) (countries_2v : Value) {r : (List (List UInt8))} (h : topo_Moved n a_0 b_1 countries_2 = some r) :
  Meets Try.prog 13 [.agg #[a_0_Hubsv, a_0_Routesv], .agg #[b_1_Hubsv, b_1_Routesv], countries_2v] [ro a_0_Hubsv 3 (a_0.Hubs.map S_api_Hub.enc), nro a_0_Routesv NC_api_Route_82 a_0.Routes, ro b_1_Hubsv 3 (b_1.Hubs.map S_api_Hub.enc), nro b_1_Routesv NC_api_Route_82 b_1.Routes, ro countries_2v 1 (countries_2.map eStr)] (fun v G => ∃ v0, v = v0 ∧ G = [row v0 1 (r.map eStr)]) := by
 refine fn_of_run Try.func13 rfl Try.ntmps13 rfl (fun w0 o0 => ?_)
 refine run_seq ?_
 refine run_region' ?_
 refine ot rfl rfl (t_box rfl) ?_
 rintro _ _ ⟨b1, rfl, rfl⟩
 refine ot rfl rfl (t_box rfl) ?_
 rintro _ _ ⟨b2, rfl, rfl⟩
 refine oy rfl rfl (y_assign rfl) ?_
 refine ops_nil ?_
 refine goes_code ?_
 refine run_seq ?_
 refine run_region' ?_
 refine oy rfl rfl (y_assign rfl) ?_
 refine ops_nil ?_
 refine goes_code ?_
 obtain ⟨o5, h, ho6⟩ := bindJ_some h
 refine run_cut (((List (List UInt8))) × (Value)) (fun σ => [(7, σ.2)]) (fun σ => [row σ.2 1 (σ.1.map eStr)]) (fun σ => o5 = .go σ.1) (fun L8 hL7 => ?_) ?_
 ·
  refine run_seq ?_
  refine run_region' ?_
  refine oy rfl rfl (y_move rfl) ?_
  refine oy rfl rfl ((y_len 4 rfl Try.runUnderlying26 rfl rfl reads_ro).to (v_len eStr _)) ?_
  refine oy rfl rfl (y_move rfl) ?_
  refine ops_nil ?_
  refine goes_code ?_
  refine run_block ?_
  refine run_turn (nilrow 1) ?_
  refine run_turn (retell 7 (g := row (.slice none 0 0) 1 (([] : List (List UInt8)).map eStr)) rfl rfl) ?_
  refine run_iter (step := topo_Moved_L1 n a_0 b_1 countries_2) (n := n) (s0 := (([] : List (List UInt8)), 0)) h (G := Value) (.slice none 0 0) (fun σ γ => [(3, boxP b1 0), (4, boxP b2 0), (7, γ), (14, countries_2v), (15, .int .i64 (countries_2.length : Int)), (16, .int .i64 σ.2)]) (fun σ γ => [box b1 [a_0_Hubsv, a_0_Routesv], ro a_0_Hubsv 3 (a_0.Hubs.map S_api_Hub.enc), nro a_0_Routesv NC_api_Route_82 a_0.Routes, box b2 [b_1_Hubsv, b_1_Routesv], ro b_1_Hubsv 3 (b_1.Hubs.map S_api_Hub.enc), nro b_1_Routesv NC_api_Route_82 b_1.Routes, row γ 1 (σ.1.map eStr), ro countries_2v 1 (countries_2.map eStr)]) [5, 0, 1, 6, 2, 3, 7, 4] (vcons rfl (vcons rfl (vcons rfl (vcons rfl (vcons rfl (vcons rfl (vnil))))))) (by decide) rfl ?_
  rintro ⟨out_9, s_10⟩ v11 o12 h L15 hgo13 hstop14
  change Run _ _ _ (VF.of [(3, boxP b1 0), (4, boxP b2 0), (7, v11), (14, countries_2v), (15, .int .i64 (countries_2.length : Int)), (16, .int .i64 s_10)]) [box b1 [a_0_Hubsv, a_0_Routesv], ro a_0_Hubsv 3 (a_0.Hubs.map S_api_Hub.enc), nro a_0_Routesv NC_api_Route_82 a_0.Routes, box b2 [b_1_Hubsv, b_1_Routesv], ro b_1_Hubsv 3 (b_1.Hubs.map S_api_Hub.enc), nro b_1_Routesv NC_api_Route_82 b_1.Routes, row v11 1 (out_9.map eStr), ro countries_2v 1 (countries_2.map eStr)]
  refine run_seq ?_
  refine run_region' ?_
  refine oy rfl rfl (y_lss rfl rfl) ?_
  refine ops_nil ?_
  refine goes_code ?_
  refine run_seq ?_
  refine run_cond (decide (s_10 < (countries_2.length : Int))) rfl (fun hc16 => ?_) (fun hc16 => ?_)
  ·replace h := cond_t h hc16
   refine run_skip ?_
   refine goes_code ?_
   obtain ⟨o19, h, ho20⟩ := bindJ_some h
   refine run_cut (((List (List UInt8))) × (Value)) (fun σ => [(3, boxP b1 0), (4, boxP b2 0), (7, σ.2), (14, countries_2v), (15, .int .i64 (countries_2.length : Int)), (16, .int .i64 s_10)]) (fun σ => [box b1 [a_0_Hubsv, a_0_Routesv], ro a_0_Hubsv 3 (a_0.Hubs.map S_api_Hub.enc), nro a_0_Routesv NC_api_Route_82 a_0.Routes, box b2 [b_1_Hubsv, b_1_Routesv], ro b_1_Hubsv 3 (b_1.Hubs.map S_api_Hub.enc), nro b_1_Routesv NC_api_Route_82 b_1.Routes, row σ.2 1 (σ.1.map eStr), ro countries_2v 1 (countries_2.map eStr)]) (fun σ => o19 = .go σ.1) (fun L22 hL21 => ?_) ?_
   ·
    refine run_block ?_
    refine run_seq ?_
    refine run_region' ?_
    obtain ⟨x23, hzx23, hlx23, hxx23, h⟩ := idx_some h
    refine oy rfl rfl (y_indexAddrI (kd := .i64) (i := s_10) 7 Try.runUnderlying26 Try.sizeOf9 rfl rfl rfl reads_ro hzx23 (map_lt hlx23)) ?_
    refine oy rfl rfl (y_load_elem (i := s_10.toNat) 7 Try.isAgg9 rfl rfl reads_ro (map_get hxx23)) ?_
    refine oy rfl rfl (y_assign rfl) ?_
    refine ops_nil ?_
    refine goes_code ?_
    refine run_seq ?_
    refine run_region' ?_
    refine oy rfl rfl (y_load_boxagg (c := [a_0_Hubsv, a_0_Routesv]) 0 Try.isAgg25 Try.sizeOf25 rfl rfl rfl) ?_
    refine oy rfl rfl (y_move rfl) ?_
    obtain ⟨r24, hr25, h⟩ := obind_some h
    refine ot rfl rfl (t_callx (vs := [.agg #[a_0_Hubsv, a_0_Routesv], .string (bs x23)]) (cs := []) [(1, 0), (2, 0)] rfl Try.call9 rfl (topo_Entry_ok n a_0 x23 a_0_Hubsv a_0_Routesv hr25) (showsX_view 1 rfl views_ro (showsX_view 2 rfl views_nro showsX_nil)) rfl (.inl rfl)) ?_
    rintro _ _ ⟨_, ⟨rfl, rfl⟩, rfl⟩
    refine oy rfl rfl (y_move rfl) ?_
    refine oy rfl rfl (y_extract rfl rfl) ?_
    refine oy rfl rfl (y_extract rfl rfl) ?_
    refine oy rfl rfl (y_assign rfl) ?_
    refine oy rfl rfl (y_assign rfl) ?_
    refine ops_nil ?_
    refine goes_code ?_
    refine run_seq ?_
    refine run_weak [(3, boxP b1 0), (4, boxP b2 0), (7, v11), (14, countries_2v), (15, .int .i64 (countries_2.length : Int)), (16, .int .i64 s_10), (9, .string (bs x23)), (10, .int .i64 r24.1), (11, .int .i64 r24.2)] [0, 1, 2, 3, 4, 5, 6, 7] [box b1 [a_0_Hubsv, a_0_Routesv], ro a_0_Hubsv 3 (a_0.Hubs.map S_api_Hub.enc), nro a_0_Routesv NC_api_Route_82 a_0.Routes, box b2 [b_1_Hubsv, b_1_Routesv], ro b_1_Hubsv 3 (b_1.Hubs.map S_api_Hub.enc), nro b_1_Routesv NC_api_Route_82 b_1.Routes, row v11 1 (out_9.map eStr), ro countries_2v 1 (countries_2.map eStr)] (vcons rfl (vcons rfl (vcons rfl (vcons rfl (vcons rfl (vcons rfl (vcons rfl (vcons rfl (vcons rfl (vnil)))))))))) (by decide) rfl ?_
    refine run_region' ?_
    refine oy rfl rfl (y_load_boxagg (c := [b_1_Hubsv, b_1_Routesv]) 3 Try.isAgg25 Try.sizeOf25 rfl rfl rfl) ?_
    refine oy rfl rfl (y_move rfl) ?_
    obtain ⟨r26, hr27, h⟩ := obind_some h
    refine ot rfl rfl (t_callx (vs := [.agg #[b_1_Hubsv, b_1_Routesv], .string (bs x23)]) (cs := []) [(4, 0), (5, 0)] rfl Try.call9 rfl (topo_Entry_ok n b_1 x23 b_1_Hubsv b_1_Routesv hr27) (showsX_view 4 rfl views_ro (showsX_view 5 rfl views_nro showsX_nil)) rfl (.inl rfl)) ?_
    rintro _ _ ⟨_, ⟨rfl, rfl⟩, rfl⟩
    refine oy rfl rfl (y_move rfl) ?_
    refine oy rfl rfl (y_extract rfl rfl) ?_
    refine oy rfl rfl (y_extract rfl rfl) ?_
    refine oy rfl rfl (y_assign rfl) ?_
    refine oy rfl rfl (y_assign rfl) ?_
    refine ops_nil ?_
    refine goes_code ?_
    refine run_seq ?_
    refine run_weak [(3, boxP b1 0), (4, boxP b2 0), (7, v11), (14, countries_2v), (15, .int .i64 (countries_2.length : Int)), (16, .int .i64 s_10), (9, .string (bs x23)), (10, .int .i64 r24.1), (11, .int .i64 r24.2), (12, .int .i64 r26.1), (13, .int .i64 r26.2)] [0, 1, 2, 3, 4, 5, 6, 7] [box b1 [a_0_Hubsv, a_0_Routesv], ro a_0_Hubsv 3 (a_0.Hubs.map S_api_Hub.enc), nro a_0_Routesv NC_api_Route_82 a_0.Routes, box b2 [b_1_Hubsv, b_1_Routesv], ro b_1_Hubsv 3 (b_1.Hubs.map S_api_Hub.enc), nro b_1_Routesv NC_api_Route_82 b_1.Routes, row v11 1 (out_9.map eStr), ro countries_2v 1 (countries_2.map eStr)] (vcons rfl (vcons rfl (vcons rfl (vcons rfl (vcons rfl (vcons rfl (vcons rfl (vcons rfl (vcons rfl (vcons rfl (vcons rfl (vnil)))))))))))) (by decide) rfl ?_
    refine run_region' ?_
    refine oy rfl rfl (y_move rfl) ?_
    refine oy rfl rfl (y_move rfl) ?_
    refine oy rfl rfl (y_neq rfl rfl) ?_
    refine oy rfl rfl (y_move rfl) ?_
    refine ops_cut 6 (Bool) (fun σ => [(3, boxP b1 0), (4, boxP b2 0), (7, v11), (14, countries_2v), (15, .int .i64 (countries_2.length : Int)), (16, .int .i64 s_10), (9, .string (bs x23)), (41, .bool σ)]) (fun σ => [box b1 [a_0_Hubsv, a_0_Routesv], ro a_0_Hubsv 3 (a_0.Hubs.map S_api_Hub.enc), nro a_0_Routesv NC_api_Route_82 a_0.Routes, box b2 [b_1_Hubsv, b_1_Routesv], ro b_1_Hubsv 3 (b_1.Hubs.map S_api_Hub.enc), nro b_1_Routesv NC_api_Route_82 b_1.Routes, row v11 1 (out_9.map eStr), ro countries_2v 1 (countries_2.map eStr)]) (fun σ => σ = (decide (r24.1 ≠ r26.1) || (!((decide (r24.2 = 0)) == (decide (r26.2 = 0)))))) (fun L28 hL29 => ?_) ?_
    ·refine ops_split 35 (decide (r24.1 ≠ r26.1)) rfl (fun hg30 => ?_) (fun hg30 => ?_)
     ·skip
      refine ops_no 3 false 35 rfl rfl rfl rfl rfl ?_
      refine ops_no 3 false 35 rfl rfl rfl rfl rfl ?_
      refine ops_no 3 false 35 rfl rfl rfl rfl rfl ?_
      refine ops_no 3 false 35 rfl rfl rfl rfl rfl ?_
      refine ops_no 3 false 35 rfl rfl rfl rfl rfl ?_
      refine oy rfl rfl (y_pick (b := true) rfl rfl) ?_
      refine ops_nil ?_
      exact goes_cut hL29 true [0, 1, 2, 3, 4, 5, 6, 7] (vcons rfl (vcons rfl (vcons rfl (vcons rfl (vcons rfl (vcons rfl (vcons rfl (vcons rfl (vnil))))))))) (by decide) rfl (by rw [hg30]; simp)
     ·skip
      refine ops_y (wg 3 false 35 rfl rfl rfl rfl) rfl (y_move rfl) ?_
      refine ops_y (wg 3 false 35 rfl rfl rfl rfl) rfl (y_eql rfl rfl) ?_
      refine ops_y (wg 3 false 35 rfl rfl rfl rfl) rfl (y_move rfl) ?_
      refine ops_y (wg 3 false 35 rfl rfl rfl rfl) rfl (y_eql rfl rfl) ?_
      refine ops_y (wg 3 false 35 rfl rfl rfl rfl) rfl (y_bneq Try.runUnderlying4 rfl rfl) ?_
      refine oy rfl rfl (y_pick (b := false) rfl rfl) ?_
      refine ops_nil ?_
      exact goes_cut hL29 (!((decide (r24.2 = 0)) == (decide (r26.2 = 0)))) [0, 1, 2, 3, 4, 5, 6, 7] (vcons rfl (vcons rfl (vcons rfl (vcons rfl (vcons rfl (vcons rfl (vcons rfl (vcons rfl (vnil))))))))) (by decide) rfl (by rw [hg30]; simp)
    rintro _ rfl
    refine ops_nil ?_
    refine goes_code ?_
    refine run_cond (decide (r24.1 ≠ r26.1) || (!((decide (r24.2 = 0)) == (decide (r26.2 = 0))))) rfl (fun hc31 => ?_) (fun hc31 => ?_)
    ·replace h := cond_t h hc31
     refine run_region' ?_
     refine oy rfl rfl (y_move rfl) ?_
     refine oy rfl rfl (y_move rfl) ?_
     refine ot rfl rfl (t_lit [.string (bs x23)] Try.runUnderlying26 Try.sizeOf9 Try.zeroValue9 rfl (by decide) (by decide) rfl (by simp [Value.cells, boxP])) ?_
     rintro v32 _ ⟨rfl, _⟩
     refine ops_turn (retell 8 (g := row v32 1 (([x23] : List (List UInt8)).map eStr)) rfl rfl) ?_
     obtain ⟨hr34, h⟩ := need_some h
     refine ot rfl rfl (t_append (es := 1) 6 rfl Try.runUnderlying26 rfl Try.runUnderlying26 (.inr ⟨_, rfl⟩) Try.typeInfo9 rfl (by decide) Try.zeroValue9 rfl rfl rfl rfl (src_reads 8 rfl reads_row (map_ok eStr_ok _)) (map_room hr34 (by decide)) (map_fit hr34)) ?_
     rintro v33 _ rfl
     refine ops_turn (retell 6 (g := row v33 1 ((out_9 ++ ([x23] : List (List UInt8))).map eStr)) rfl (congrArg (row _ _) List.map_append.symm)) ?_
     refine oy rfl rfl (y_assign rfl) ?_
     refine ops_nil ?_
     refine goes_blk ?_
     obtain rfl := some_eq h
     exact goes_cut hL21 ((out_9 ++ ([x23] : List (List UInt8))), v33) [0, 1, 2, 3, 4, 5, 6, 7] (vcons rfl (vcons rfl (vcons rfl (vcons rfl (vcons rfl (vcons rfl (vnil))))))) (by decide) rfl rfl
    ·replace h := cond_f h hc31
     refine run_skip ?_
     refine goes_blk ?_
     obtain rfl := some_eq h
     exact goes_cut hL21 (out_9, v11) [0, 1, 2, 3, 4, 5, 6, 7] (vcons rfl (vcons rfl (vcons rfl (vcons rfl (vcons rfl (vcons rfl (vnil))))))) (by decide) rfl rfl
   rintro ⟨out_17, v18⟩ hj
   obtain rfl : o19 = _ := hj
   replace h := after_go ho20
   clear ho20
   change Run _ _ _ (VF.of [(3, boxP b1 0), (4, boxP b2 0), (7, v18), (14, countries_2v), (15, .int .i64 (countries_2.length : Int)), (16, .int .i64 s_10)]) [box b1 [a_0_Hubsv, a_0_Routesv], ro a_0_Hubsv 3 (a_0.Hubs.map S_api_Hub.enc), nro a_0_Routesv NC_api_Route_82 a_0.Routes, box b2 [b_1_Hubsv, b_1_Routesv], ro b_1_Hubsv 3 (b_1.Hubs.map S_api_Hub.enc), nro b_1_Routesv NC_api_Route_82 b_1.Routes, row v18 1 (out_17.map eStr), ro countries_2v 1 (countries_2.map eStr)]
   refine run_region' ?_
   refine oy rfl rfl (y_add rfl rfl) ?_
   refine oy rfl rfl (y_move rfl) ?_
   refine ops_nil ?_
   obtain rfl := some_eq h
   exact goes_iter hgo13 (out_17, (IntKind.i64.wrap (s_10 + 1))) v18 [0, 1, 2, 3, 4, 5, 6, 7] rfl (vcons rfl (vcons rfl (vcons rfl (vcons rfl (vcons rfl (vcons rfl (vnil))))))) (by decide) rfl
  ·replace h := cond_f h hc16
   refine run_exit _ rfl ?_
   obtain rfl := some_eq h
   obtain rfl := hstop14 _ rfl
   exact goes_cut hL7 (out_9, v11) [6] (vcons rfl (vnil)) (by decide) rfl rfl
 rintro ⟨out_3, v4⟩ hj
 obtain rfl : o5 = _ := hj
 replace h := after_go ho6
 clear ho6
 change Run _ _ _ (VF.of [(7, v4)]) [row v4 1 (out_3.map eStr)]
 refine run_seq ?_
 refine run_region' ?_
 refine oy rfl rfl (y_move rfl) ?_
 refine oy rfl rfl (y_assign rfl) ?_
 refine ops_nil ?_
 refine goes_code ?_
 refine run_ret ?_
 obtain rfl := some_eq h
 refine fin_slots [6] [v4] [0] [row v4 1 (out_3.map eStr)] Try.results13 rfl (by decide) rfl ?_
 exact ⟨_, rfl, rfl⟩

def ref42_SameMap_L1 (a_0 : S_api_Map) (b_1 : S_api_Map) : (Int) → Option (Lp (Int) (Lp (Unit) (Bool))) :=
 fun i_11 =>
  cond (decide (i_11 < (a_0.Hubs.length : Int)))
   (idx a_0.Hubs i_11 fun x17 =>
   idx b_1.Hubs i_11 fun x18 =>
   cond (!(decide (x17.Site = x18.Site) && (decide (x17.Parent = x18.Parent) && ((x17.Up == x18.Up)))))
    (some (.stop (.stop false)))
    (some (.go (IntKind.i64.wrap (i_11 + 1)))))
   (some (.stop (.go ())))
def ref42_SameMap_L2 (n : Nat) (a_0 : S_api_Map) (b_1 : S_api_Map) : (Int) → Option (Lp (Int) (Lp (Unit) (Bool))) :=
 fun i_24 =>
  cond (decide (i_24 < (a_0.Routes.length : Int)))
   (idx a_0.Routes i_24 fun x30 =>
   idx b_1.Routes i_24 fun x32 =>
   bindJ (S := Bool)
    (cond (!decide (x30.Country = x32.Country))
     (some (.go true))
     (obind (ref42_SameList n x30.Sites x32.Sites) fun r40 =>
     some (.go (!r40))))
   (fun b34 =>
    cond b34
     (some (.stop (.stop false)))
     (some (.go (IntKind.i64.wrap (i_24 + 1))))))
   (some (.stop (.go ())))
def ref42_SameMap (n : Nat) (a_0 : S_api_Map) (b_1 : S_api_Map) : Option (Bool) :=
 cond (decide ((a_0.Hubs.length : Int) ≠ (b_1.Hubs.length : Int)) || decide ((a_0.Routes.length : Int) ≠ (b_1.Routes.length : Int)))
  (some false)
  (bindJ (S := Unit)
   (iter (ref42_SameMap_L1 a_0 b_1) n 0)
  (fun _ =>
   bindJ (S := Unit)
    (iter (ref42_SameMap_L2 n a_0 b_1) n 0)
   (fun _ =>
    some true)))
theorem ref42_SameMap_ok (n : Nat) (a_0 : S_api_Map) (b_1 : S_api_Map) (a_0_Hubsv : Value) (a_0_Routesv : Value) (b_1_Hubsv : Value) (b_1_Routesv : Value) {r : Bool} (h : ref42_SameMap n a_0 b_1 = some r) :
  Meets Try.prog 20 [.agg #[a_0_Hubsv, a_0_Routesv], .agg #[b_1_Hubsv, b_1_Routesv]] [ro a_0_Hubsv 3 (a_0.Hubs.map S_api_Hub.enc), nro a_0_Routesv NC_api_Route_82 a_0.Routes, ro b_1_Hubsv 3 (b_1.Hubs.map S_api_Hub.enc), nro b_1_Routesv NC_api_Route_82 b_1.Routes] (fun v G => v = .bool r ∧ G = []) := by
 refine fn_of_run Try.func20 rfl Try.ntmps20 rfl (fun w0 o0 => ?_)
 refine run_seq ?_
 refine run_region' ?_
 refine ot rfl rfl (t_box rfl) ?_
 rintro _ _ ⟨b1, rfl, rfl⟩
 refine ot rfl rfl (t_box rfl) ?_
 rintro _ _ ⟨b2, rfl, rfl⟩
 refine oy rfl rfl (y_assign rfl) ?_
 refine ops_nil ?_
 refine goes_code ?_
 refine run_seq ?_
 refine run_seq ?_
 refine run_region' ?_
 refine oy rfl rfl (y_fieldAddr_box (sz := 0) Try.runUnderlying25 rfl Try.sizeOf22 rfl) ?_
 refine oy rfl rfl (y_load_box 4 Try.isAgg22 rfl rfl rfl) ?_
 refine oy rfl rfl ((y_len 0 rfl Try.runUnderlying22 rfl rfl reads_ro).to (v_len S_api_Hub.enc _)) ?_
 refine oy rfl rfl (y_fieldAddr_box (sz := 0) Try.runUnderlying25 rfl Try.sizeOf22 rfl) ?_
 refine oy rfl rfl (y_load_box 5 Try.isAgg22 rfl rfl rfl) ?_
 refine oy rfl rfl ((y_len 2 rfl Try.runUnderlying22 rfl rfl reads_ro).to (v_len S_api_Hub.enc _)) ?_
 refine oy rfl rfl (y_neq rfl rfl) ?_
 refine oy rfl rfl (y_move rfl) ?_
 refine ops_cut 8 (Bool) (fun σ => [(2, boxP b1 0), (3, boxP b2 0), (22, .bool σ)]) (fun σ => [ro a_0_Hubsv 3 (a_0.Hubs.map S_api_Hub.enc), nro a_0_Routesv NC_api_Route_82 a_0.Routes, ro b_1_Hubsv 3 (b_1.Hubs.map S_api_Hub.enc), nro b_1_Routesv NC_api_Route_82 b_1.Routes, box b1 [a_0_Hubsv, a_0_Routesv], box b2 [b_1_Hubsv, b_1_Routesv]]) (fun σ => σ = (decide ((a_0.Hubs.length : Int) ≠ (b_1.Hubs.length : Int)) || decide ((a_0.Routes.length : Int) ≠ (b_1.Routes.length : Int)))) (fun L3 hL4 => ?_) ?_
 ·refine ops_split 14 (decide ((a_0.Hubs.length : Int) ≠ (b_1.Hubs.length : Int))) rfl (fun hg5 => ?_) (fun hg5 => ?_)
  ·skip
   refine ops_no 7 false 14 rfl rfl rfl rfl rfl ?_
   refine ops_no 7 false 14 rfl rfl rfl rfl rfl ?_
   refine ops_no 7 false 14 rfl rfl rfl rfl rfl ?_
   refine ops_no 7 false 14 rfl rfl rfl rfl rfl ?_
   refine ops_weak [(2, boxP b1 0), (3, boxP b2 0), (14, .bool true), (17, undef), (18, undef)] [0, 1, 2, 3, 4, 5] [ro a_0_Hubsv 3 (a_0.Hubs.map S_api_Hub.enc), nro a_0_Routesv NC_api_Route_82 a_0.Routes, ro b_1_Hubsv 3 (b_1.Hubs.map S_api_Hub.enc), nro b_1_Routesv NC_api_Route_82 b_1.Routes, box b1 [a_0_Hubsv, a_0_Routesv], box b2 [b_1_Hubsv, b_1_Routesv]] (vcons rfl (vcons rfl (vcons rfl (vcons rfl (vcons rfl (vnil)))))) (by decide) rfl ?_
   refine ops_no 7 false 14 rfl rfl rfl rfl rfl ?_
   refine ops_no 7 false 14 rfl rfl rfl rfl rfl ?_
   refine ops_no 7 false 14 rfl rfl rfl rfl rfl ?_
   refine oy rfl rfl (y_pick (b := true) rfl rfl) ?_
   refine ops_nil ?_
   exact goes_cut hL4 true [0, 1, 2, 3, 4, 5] (vcons rfl (vcons rfl (vcons rfl (vnil)))) (by decide) rfl (by rw [hg5]; simp)
  ·skip
   refine ops_y (wg 7 false 14 rfl rfl rfl rfl) rfl (y_fieldAddr_box (sz := 0) Try.runUnderlying25 rfl Try.sizeOf23 rfl) ?_
   refine ops_y (wg 7 false 14 rfl rfl rfl rfl) rfl (y_load_box 4 Try.isAgg23 rfl rfl rfl) ?_
   refine ops_y (wg 7 false 14 rfl rfl rfl rfl) rfl (y_lenN 1 rfl Try.runUnderlying23 rfl rfl readsN_ro) ?_
   refine ops_y (wg 7 false 14 rfl rfl rfl rfl) rfl (y_fieldAddr_box (sz := 0) Try.runUnderlying25 rfl Try.sizeOf23 rfl) ?_
   refine ops_weak [(2, boxP b1 0), (3, boxP b2 0), (14, .bool false), (17, .int .i64 (a_0.Routes.length : Int)), (18, boxP b2 1)] [0, 1, 2, 3, 4, 5] [ro a_0_Hubsv 3 (a_0.Hubs.map S_api_Hub.enc), nro a_0_Routesv NC_api_Route_82 a_0.Routes, ro b_1_Hubsv 3 (b_1.Hubs.map S_api_Hub.enc), nro b_1_Routesv NC_api_Route_82 b_1.Routes, box b1 [a_0_Hubsv, a_0_Routesv], box b2 [b_1_Hubsv, b_1_Routesv]] (vcons rfl (vcons rfl (vcons rfl (vcons rfl (vcons rfl (vnil)))))) (by decide) rfl ?_
   refine ops_y (wg 7 false 14 rfl rfl rfl rfl) rfl (y_load_box 5 Try.isAgg23 rfl rfl rfl) ?_
   refine ops_y (wg 7 false 14 rfl rfl rfl rfl) rfl (y_lenN 3 rfl Try.runUnderlying23 rfl rfl readsN_ro) ?_
   refine ops_y (wg 7 false 14 rfl rfl rfl rfl) rfl (y_neq rfl rfl) ?_
   refine oy rfl rfl (y_pick (b := false) rfl rfl) ?_
   refine ops_nil ?_
   exact goes_cut hL4 (decide ((a_0.Routes.length : Int) ≠ (b_1.Routes.length : Int))) [0, 1, 2, 3, 4, 5] (vcons rfl (vcons rfl (vcons rfl (vnil)))) (by decide) rfl (by rw [hg5]; simp)
 rintro _ rfl
 refine ops_nil ?_
 refine goes_code ?_
 refine run_cond (decide ((a_0.Hubs.length : Int) ≠ (b_1.Hubs.length : Int)) || decide ((a_0.Routes.length : Int) ≠ (b_1.Routes.length : Int))) rfl (fun hc6 => ?_) (fun hc6 => ?_)
 ·replace h := cond_t h hc6
  refine run_seq ?_
  refine run_region' ?_
  refine oy rfl rfl (y_assign rfl) ?_
  refine ops_nil ?_
  refine goes_code ?_
  refine run_ret ?_
  obtain rfl := some_eq h
  refine fin_slots [4] [.bool false] [] [] Try.results20 rfl (by decide) rfl ?_
  exact ⟨rfl, rfl⟩
 ·replace h := cond_f h hc6
  refine run_skip ?_
  refine goes_code ?_
  obtain ⟨o7, h, ho8⟩ := bindJ_some h
  refine run_cut ((Unit) × (Unit)) (fun σ => [(2, boxP b1 0), (3, boxP b2 0)]) (fun σ => [box b1 [a_0_Hubsv, a_0_Routesv], ro a_0_Hubsv 3 (a_0.Hubs.map S_api_Hub.enc), nro a_0_Routesv NC_api_Route_82 a_0.Routes, box b2 [b_1_Hubsv, b_1_Routesv], ro b_1_Hubsv 3 (b_1.Hubs.map S_api_Hub.enc), nro b_1_Routesv NC_api_Route_82 b_1.Routes]) (fun σ => o7 = .go σ.1) (fun L10 hL9 => ?_) ?_
  ·
   refine run_seq ?_
   refine run_region' ?_
   refine oy rfl rfl (y_assign rfl) ?_
   refine ops_nil ?_
   refine goes_code ?_
   refine run_block ?_
   refine run_iter (step := ref42_SameMap_L1 a_0 b_1) (n := n) (s0 := 0) h (G := Unit) () (fun σ γ => [(2, boxP b1 0), (3, boxP b2 0), (5, .int .i64 σ)]) (fun σ γ => [box b1 [a_0_Hubsv, a_0_Routesv], ro a_0_Hubsv 3 (a_0.Hubs.map S_api_Hub.enc), nro a_0_Routesv NC_api_Route_82 a_0.Routes, box b2 [b_1_Hubsv, b_1_Routesv], ro b_1_Hubsv 3 (b_1.Hubs.map S_api_Hub.enc), nro b_1_Routesv NC_api_Route_82 b_1.Routes]) [4, 0, 1, 5, 2, 3] (vcons rfl (vcons rfl (vcons rfl (vnil)))) (by decide) rfl ?_
   rintro i_11 _ o12 h L15 hgo13 hstop14
   change Run _ _ _ (VF.of [(2, boxP b1 0), (3, boxP b2 0), (5, .int .i64 i_11)]) [box b1 [a_0_Hubsv, a_0_Routesv], ro a_0_Hubsv 3 (a_0.Hubs.map S_api_Hub.enc), nro a_0_Routesv NC_api_Route_82 a_0.Routes, box b2 [b_1_Hubsv, b_1_Routesv], ro b_1_Hubsv 3 (b_1.Hubs.map S_api_Hub.enc), nro b_1_Routesv NC_api_Route_82 b_1.Routes]
   refine run_seq ?_
   refine run_seq ?_
   refine run_region' ?_
   refine oy rfl rfl (y_move rfl) ?_
   refine oy rfl rfl (y_fieldAddr_box (sz := 0) Try.runUnderlying25 rfl Try.sizeOf22 rfl) ?_
   refine oy rfl rfl (y_load_box 0 Try.isAgg22 rfl rfl rfl) ?_
   refine oy rfl rfl ((y_len 1 rfl Try.runUnderlying22 rfl rfl reads_ro).to (v_len S_api_Hub.enc _)) ?_
   refine oy rfl rfl (y_lss rfl rfl) ?_
   refine ops_nil ?_
   refine goes_code ?_
   refine run_cond (decide (i_11 < (a_0.Hubs.length : Int))) rfl (fun hc16 => ?_) (fun hc16 => ?_)
   ·replace h := cond_t h hc16
    refine run_skip ?_
    refine goes_code ?_
    refine run_seq ?_
    refine run_block ?_
    refine run_seq ?_
    refine run_draw (by kernel_rfl) (by kernel_rfl) ?_
    refine sy rfl rfl (y_fieldAddr_box (sz := 0) Try.runUnderlying25 rfl Try.sizeOf22 rfl) ?_
    refine sy rfl rfl (y_load_box 0 Try.isAgg22 rfl rfl rfl) ?_
    refine sy rfl rfl (y_move rfl) ?_
    obtain ⟨x17, hzx17, hlx17, hxx17, h⟩ := idx_some h
    refine sy rfl rfl (y_indexAddrI (kd := .i64) (i := i_11) 1 Try.runUnderlying22 Try.sizeOf52 rfl rfl rfl reads_ro hzx17 (map_lt hlx17)) ?_
    refine sy rfl rfl (y_load_agg (i := i_11.toNat) (c := [.int .i64 x17.Site, .int .i64 x17.Parent, .bool x17.Up]) 1 Try.isAgg52 Try.sizeOf52 rfl rfl reads_ro (map_get hxx17)) ?_
    refine sy rfl rfl (y_fieldAddr_box (sz := 0) Try.runUnderlying25 rfl Try.sizeOf22 rfl) ?_
    refine sy rfl rfl (y_load_box 3 Try.isAgg22 rfl rfl rfl) ?_
    refine sy rfl rfl (y_move rfl) ?_
    obtain ⟨x18, hzx18, hlx18, hxx18, h⟩ := idx_some h
    refine sy rfl rfl (y_indexAddrI (kd := .i64) (i := i_11) 4 Try.runUnderlying22 Try.sizeOf52 rfl rfl rfl reads_ro hzx18 (map_lt hlx18)) ?_
    refine sy rfl rfl (y_load_agg (i := i_11.toNat) (c := [.int .i64 x18.Site, .int .i64 x18.Parent, .bool x18.Up]) 4 Try.isAgg52 Try.sizeOf52 rfl rfl reads_ro (map_get hxx18)) ?_
    refine sy rfl rfl (y_neS (by kernel_rfl) (by kernel_rfl) Try.runUnderlying52 rfl rfl (.cons (eqf_int (by decide) Try.runUnderlying3 Try.isAgg3 rfl rfl) (.cons (eqf_int (by decide) Try.runUnderlying3 Try.isAgg3 rfl rfl) (.cons (eqf_bool (by decide) Try.runUnderlying4 Try.isAgg4 rfl rfl) EqFs.nil)))) ?_
    refine still_nil ?_
    refine goes_code ?_
    refine run_cond (!(decide (x17.Site = x18.Site) && (decide (x17.Parent = x18.Parent) && ((x17.Up == x18.Up))))) rfl (fun hc19 => ?_) (fun hc19 => ?_)
    ·replace h := cond_t h hc19
     refine run_seq ?_
     refine run_weak [] [] [] vnil (by decide) rfl ?_
     refine run_region' ?_
     refine oy rfl rfl (y_assign rfl) ?_
     refine ops_nil ?_
     refine goes_code ?_
     refine run_ret ?_
     obtain rfl := some_eq h
     obtain rfl := hstop14 _ rfl
     skip
     obtain rfl := after_stop ho8
     refine fin_slots [4] [.bool false] [] [] Try.results20 rfl (by decide) rfl ?_
     exact ⟨rfl, rfl⟩
    ·replace h := cond_f h hc19
     refine run_skip ?_
     refine goes_blk ?_
     refine goes_code ?_
     refine run_weak [(2, boxP b1 0), (3, boxP b2 0), (5, .int .i64 i_11)] [0, 1, 2, 3, 4, 5] [box b1 [a_0_Hubsv, a_0_Routesv], ro a_0_Hubsv 3 (a_0.Hubs.map S_api_Hub.enc), nro a_0_Routesv NC_api_Route_82 a_0.Routes, box b2 [b_1_Hubsv, b_1_Routesv], ro b_1_Hubsv 3 (b_1.Hubs.map S_api_Hub.enc), nro b_1_Routesv NC_api_Route_82 b_1.Routes] (vcons rfl (vcons rfl (vcons rfl (vnil)))) (by decide) rfl ?_
     refine run_region' ?_
     refine oy rfl rfl (y_move rfl) ?_
     refine oy rfl rfl (y_add rfl rfl) ?_
     refine oy rfl rfl (y_assign rfl) ?_
     refine ops_nil ?_
     obtain rfl := some_eq h
     exact goes_iter hgo13 (IntKind.i64.wrap (i_11 + 1)) () [0, 1, 2, 3, 4, 5] rfl (vcons rfl (vcons rfl (vcons rfl (vnil)))) (by decide) rfl
   ·replace h := cond_f h hc16
    refine run_exit _ rfl ?_
    obtain rfl := some_eq h
    obtain rfl := hstop14 _ rfl
    exact goes_cut hL9 ((), ()) [0, 1, 2, 3, 4, 5] (vcons rfl (vcons rfl (vnil))) (by decide) rfl rfl
  rintro ⟨_, _⟩ hj
  obtain rfl : o7 = _ := hj
  replace h := after_go ho8
  clear ho8
  change Run _ _ _ (VF.of [(2, boxP b1 0), (3, boxP b2 0)]) [box b1 [a_0_Hubsv, a_0_Routesv], ro a_0_Hubsv 3 (a_0.Hubs.map S_api_Hub.enc), nro a_0_Routesv NC_api_Route_82 a_0.Routes, box b2 [b_1_Hubsv, b_1_Routesv], ro b_1_Hubsv 3 (b_1.Hubs.map S_api_Hub.enc), nro b_1_Routesv NC_api_Route_82 b_1.Routes]
  obtain ⟨o20, h, ho21⟩ := bindJ_some h
  refine run_cut ((Unit) × (Unit)) (fun σ => []) (fun σ => []) (fun σ => o20 = .go σ.1) (fun L23 hL22 => ?_) ?_
  ·
   refine run_seq ?_
   refine run_region' ?_
   refine oy rfl rfl (y_assign rfl) ?_
   refine ops_nil ?_
   refine goes_code ?_
   refine run_block ?_
   refine run_iter (step := ref42_SameMap_L2 n a_0 b_1) (n := n) (s0 := 0) h (G := Unit) () (fun σ γ => [(2, boxP b1 0), (3, boxP b2 0), (6, .int .i64 σ)]) (fun σ γ => [box b1 [a_0_Hubsv, a_0_Routesv], ro a_0_Hubsv 3 (a_0.Hubs.map S_api_Hub.enc), nro a_0_Routesv NC_api_Route_82 a_0.Routes, box b2 [b_1_Hubsv, b_1_Routesv], ro b_1_Hubsv 3 (b_1.Hubs.map S_api_Hub.enc), nro b_1_Routesv NC_api_Route_82 b_1.Routes]) [0, 1, 2, 3, 4, 5] (vcons rfl (vcons rfl (vcons rfl (vnil)))) (by decide) rfl ?_
   rintro i_24 _ o25 h L28 hgo26 hstop27
   change Run _ _ _ (VF.of [(2, boxP b1 0), (3, boxP b2 0), (6, .int .i64 i_24)]) [box b1 [a_0_Hubsv, a_0_Routesv], ro a_0_Hubsv 3 (a_0.Hubs.map S_api_Hub.enc), nro a_0_Routesv NC_api_Route_82 a_0.Routes, box b2 [b_1_Hubsv, b_1_Routesv], ro b_1_Hubsv 3 (b_1.Hubs.map S_api_Hub.enc), nro b_1_Routesv NC_api_Route_82 b_1.Routes]
   refine run_seq ?_
   refine run_seq ?_
   refine run_region' ?_
   refine oy rfl rfl (y_move rfl) ?_
   refine oy rfl rfl (y_fieldAddr_box (sz := 0) Try.runUnderlying25 rfl Try.sizeOf23 rfl) ?_
   refine oy rfl rfl (y_load_box 0 Try.isAgg23 rfl rfl rfl) ?_
   refine oy rfl rfl (y_lenN 2 rfl Try.runUnderlying23 rfl rfl readsN_ro) ?_
   refine oy rfl rfl (y_lss rfl rfl) ?_
   refine ops_nil ?_
   refine goes_code ?_
   refine run_cond (decide (i_24 < (a_0.Routes.length : Int))) rfl (fun hc29 => ?_) (fun hc29 => ?_)
   ·replace h := cond_t h hc29
    refine run_skip ?_
    refine goes_code ?_
    refine run_seq ?_
    refine run_block ?_
    refine run_seq ?_
    refine run_drawany [box b1 [a_0_Hubsv, a_0_Routesv], ro a_0_Hubsv 3 (a_0.Hubs.map S_api_Hub.enc), nro a_0_Routesv NC_api_Route_82 a_0.Routes, box b2 [b_1_Hubsv, b_1_Routesv], ro b_1_Hubsv 3 (b_1.Hubs.map S_api_Hub.enc), nro b_1_Routesv NC_api_Route_82 b_1.Routes] (by kernel_rfl) ?_
    refine any_y 0 rfl (by kernel_rfl) (by kernel_rfl) (by kernel_rfl) (ss (ss (ss (ss (ss (ss (sn))))))) (wn rfl) rfl (y_fieldAddr_box (sz := 0) Try.runUnderlying25 rfl Try.sizeOf23 rfl) ?_
    refine any_y 1 rfl (by kernel_rfl) (by kernel_rfl) (by kernel_rfl) (ss (ss (ss (ss (ss (ss (sn))))))) (wn rfl) rfl (y_load_box 0 Try.isAgg23 rfl rfl rfl) ?_
    refine any_y 2 rfl (by kernel_rfl) (by kernel_rfl) (by kernel_rfl) (ss (ss (ss (ss (ss (ss (sn))))))) (wn rfl) rfl (y_move rfl) ?_
    obtain ⟨x30, hzx30, hlx30, hxx30, h⟩ := idx_some h
    refine any_y 3 rfl (by kernel_rfl) (by kernel_rfl) (by kernel_rfl) (ss (ss (ss (ss (ss (ss (sn))))))) (wn rfl) rfl (y_indexAddrN (kd := .i64) (i := i_24) 2 Try.runUnderlying23 Try.sizeOf82 rfl rfl rfl readsN_ro hzx30 hlx30) ?_
    refine any_ex (exAt (C := NC_api_Route_82) (i := i_24.toNat) 2 rfl hxx30) ?_
    rintro g31
    refine any_grow [box b1 [a_0_Hubsv, a_0_Routesv], ro a_0_Hubsv 3 (a_0.Hubs.map S_api_Hub.enc), nro a_0_Routesv NC_api_Route_82 a_0.Routes, box b2 [b_1_Hubsv, b_1_Routesv], ro b_1_Hubsv 3 (b_1.Hubs.map S_api_Hub.enc), nro b_1_Routesv NC_api_Route_82 b_1.Routes, atc a_0_Routesv (i_24.toNat * 2) [.string (bs x30.Country), g31]] (ss (ss (ss (ss (ss (ss (sn))))))) ?_
    refine any_grow [box b1 [a_0_Hubsv, a_0_Routesv], ro a_0_Hubsv 3 (a_0.Hubs.map S_api_Hub.enc), nro a_0_Routesv NC_api_Route_82 a_0.Routes, box b2 [b_1_Hubsv, b_1_Routesv], ro b_1_Hubsv 3 (b_1.Hubs.map S_api_Hub.enc), nro b_1_Routesv NC_api_Route_82 b_1.Routes, atc a_0_Routesv (i_24.toNat * 2) [.string (bs x30.Country), g31], ro g31 1 (x30.Sites.map (eInt .i64))] (ss (ss (ss (ss (ss (ss (ss (sn)))))))) ?_
    refine any_y 4 rfl (by kernel_rfl) (by kernel_rfl) (by kernel_rfl) (ss (ss (ss (ss (ss (ss (ss (ss (sn))))))))) (wn rfl) rfl (y_fieldAddr_elem (sz := 0) Try.runUnderlying82 rfl Try.sizeOf9 rfl) ?_
    refine any_y 5 rfl (by kernel_rfl) (by kernel_rfl) (by kernel_rfl) (ss (ss (ss (ss (ss (ss (ss (ss (sn))))))))) (wn rfl) rfl (y_load_at (n := i_24.toNat * 2) (j := 0) 6 Try.isAgg9 rfl rfl rfl) ?_
    refine any_y 6 rfl (by kernel_rfl) (by kernel_rfl) (by kernel_rfl) (ss (ss (ss (ss (ss (ss (ss (ss (sn))))))))) (wn rfl) rfl (y_fieldAddr_box (sz := 0) Try.runUnderlying25 rfl Try.sizeOf23 rfl) ?_
    refine any_y 7 rfl (by kernel_rfl) (by kernel_rfl) (by kernel_rfl) (ss (ss (ss (ss (ss (ss (ss (ss (sn))))))))) (wn rfl) rfl (y_load_box 3 Try.isAgg23 rfl rfl rfl) ?_
    refine any_y 8 rfl (by kernel_rfl) (by kernel_rfl) (by kernel_rfl) (ss (ss (ss (ss (ss (ss (ss (ss (sn))))))))) (wn rfl) rfl (y_move rfl) ?_
    obtain ⟨x32, hzx32, hlx32, hxx32, h⟩ := idx_some h
    refine any_y 9 rfl (by kernel_rfl) (by kernel_rfl) (by kernel_rfl) (ss (ss (ss (ss (ss (ss (ss (ss (sn))))))))) (wn rfl) rfl (y_indexAddrN (kd := .i64) (i := i_24) 5 Try.runUnderlying23 Try.sizeOf82 rfl rfl rfl readsN_ro hzx32 hlx32) ?_
    refine any_ex (exAt (C := NC_api_Route_82) (i := i_24.toNat) 5 rfl hxx32) ?_
    rintro g33
    refine any_grow [box b1 [a_0_Hubsv, a_0_Routesv], ro a_0_Hubsv 3 (a_0.Hubs.map S_api_Hub.enc), nro a_0_Routesv NC_api_Route_82 a_0.Routes, box b2 [b_1_Hubsv, b_1_Routesv], ro b_1_Hubsv 3 (b_1.Hubs.map S_api_Hub.enc), nro b_1_Routesv NC_api_Route_82 b_1.Routes, atc a_0_Routesv (i_24.toNat * 2) [.string (bs x30.Country), g31], ro g31 1 (x30.Sites.map (eInt .i64)), atc b_1_Routesv (i_24.toNat * 2) [.string (bs x32.Country), g33]] (ss (ss (ss (ss (ss (ss (ss (ss (sn))))))))) ?_
    refine any_grow [box b1 [a_0_Hubsv, a_0_Routesv], ro a_0_Hubsv 3 (a_0.Hubs.map S_api_Hub.enc), nro a_0_Routesv NC_api_Route_82 a_0.Routes, box b2 [b_1_Hubsv, b_1_Routesv], ro b_1_Hubsv 3 (b_1.Hubs.map S_api_Hub.enc), nro b_1_Routesv NC_api_Route_82 b_1.Routes, atc a_0_Routesv (i_24.toNat * 2) [.string (bs x30.Country), g31], ro g31 1 (x30.Sites.map (eInt .i64)), atc b_1_Routesv (i_24.toNat * 2) [.string (bs x32.Country), g33], ro g33 1 (x32.Sites.map (eInt .i64))] (ss (ss (ss (ss (ss (ss (ss (ss (ss (sn)))))))))) ?_
    refine any_y 10 rfl (by kernel_rfl) (by kernel_rfl) (by kernel_rfl) (ss (ss (ss (ss (ss (ss (ss (ss (ss (ss (sn))))))))))) (wn rfl) rfl (y_fieldAddr_elem (sz := 0) Try.runUnderlying82 rfl Try.sizeOf9 rfl) ?_
    refine any_y 11 rfl (by kernel_rfl) (by kernel_rfl) (by kernel_rfl) (ss (ss (ss (ss (ss (ss (ss (ss (ss (ss (sn))))))))))) (wn rfl) rfl (y_load_at (n := i_24.toNat * 2) (j := 0) 8 Try.isAgg9 rfl rfl rfl) ?_
    refine any_y 12 rfl (by kernel_rfl) (by kernel_rfl) (by kernel_rfl) (ss (ss (ss (ss (ss (ss (ss (ss (ss (ss (sn))))))))))) (wn rfl) rfl (y_sneq rfl rfl) ?_
    refine any_y 13 rfl (by kernel_rfl) (by kernel_rfl) (by kernel_rfl) (ss (ss (ss (ss (ss (ss (ss (ss (ss (ss (sn))))))))))) (wn rfl) rfl (y_move rfl) ?_
    obtain ⟨o35, h, ho36⟩ := bindJ_some h
    refine any_cut #[true, true, true, true, true, true, true, true, true, true, true, true, true, true, true, true, true, true, true, true, true, true, true, true, true, true, true, true, true] 0 Bool (fun σ => [(2, boxP b1 0), (3, boxP b2 0), (6, .int .i64 i_24), (76, .bool σ)]) (fun σ => [box b1 [a_0_Hubsv, a_0_Routesv], ro a_0_Hubsv 3 (a_0.Hubs.map S_api_Hub.enc), nro a_0_Routesv NC_api_Route_82 a_0.Routes, box b2 [b_1_Hubsv, b_1_Routesv], ro b_1_Hubsv 3 (b_1.Hubs.map S_api_Hub.enc), nro b_1_Routesv NC_api_Route_82 b_1.Routes, atc a_0_Routesv (i_24.toNat * 2) [.string (bs x30.Country), g31], ro g31 1 (x30.Sites.map (eInt .i64)), atc b_1_Routesv (i_24.toNat * 2) [.string (bs x32.Country), g33], ro g33 1 (x32.Sites.map (eInt .i64))]) (fun σ => o35 = .go σ) (fun hL38 => ?_) ?_
    ·refine any_split 61 (!decide (x30.Country = x32.Country)) rfl (fun hg39 => ?_) (fun hg39 => ?_)
     ·replace h := cond_t h hg39
      refine any_no 14 rfl (by kernel_rfl) (by kernel_rfl) (by kernel_rfl) (ss (ss (ss (ss (ss (ss (ss (ss (ss (ss (sn))))))))))) 13 false 61 rfl rfl rfl rfl rfl ?_
      refine any_no 15 rfl (by kernel_rfl) (by kernel_rfl) (by kernel_rfl) (ss (ss (ss (ss (ss (ss (ss (ss (ss (ss (sn))))))))))) 13 false 61 rfl rfl rfl rfl rfl ?_
      refine any_no 16 rfl (by kernel_rfl) (by kernel_rfl) (by kernel_rfl) (ss (ss (ss (ss (ss (ss (ss (ss (ss (ss (sn))))))))))) 13 false 61 rfl rfl rfl rfl rfl ?_
      refine any_no 17 rfl (by kernel_rfl) (by kernel_rfl) (by kernel_rfl) (ss (ss (ss (ss (ss (ss (ss (ss (ss (ss (sn))))))))))) 13 false 61 rfl rfl rfl rfl rfl ?_
      refine any_no 18 rfl (by kernel_rfl) (by kernel_rfl) (by kernel_rfl) (ss (ss (ss (ss (ss (ss (ss (ss (ss (ss (sn))))))))))) 13 false 61 rfl rfl rfl rfl rfl ?_
      refine any_no 19 rfl (by kernel_rfl) (by kernel_rfl) (by kernel_rfl) (ss (ss (ss (ss (ss (ss (ss (ss (ss (ss (sn))))))))))) 13 false 61 rfl rfl rfl rfl rfl ?_
      refine any_no 20 rfl (by kernel_rfl) (by kernel_rfl) (by kernel_rfl) (ss (ss (ss (ss (ss (ss (ss (ss (ss (ss (sn))))))))))) 13 false 61 rfl rfl rfl rfl rfl ?_
      refine any_no 21 rfl (by kernel_rfl) (by kernel_rfl) (by kernel_rfl) (ss (ss (ss (ss (ss (ss (ss (ss (ss (ss (sn))))))))))) 13 false 61 rfl rfl rfl rfl rfl ?_
      refine any_no 22 rfl (by kernel_rfl) (by kernel_rfl) (by kernel_rfl) (ss (ss (ss (ss (ss (ss (ss (ss (ss (ss (sn))))))))))) 13 false 61 rfl rfl rfl rfl rfl ?_
      refine any_no 23 rfl (by kernel_rfl) (by kernel_rfl) (by kernel_rfl) (ss (ss (ss (ss (ss (ss (ss (ss (ss (ss (sn))))))))))) 13 false 61 rfl rfl rfl rfl rfl ?_
      refine any_no 24 rfl (by kernel_rfl) (by kernel_rfl) (by kernel_rfl) (ss (ss (ss (ss (ss (ss (ss (ss (ss (ss (sn))))))))))) 13 false 61 rfl rfl rfl rfl rfl ?_
      refine any_no 25 rfl (by kernel_rfl) (by kernel_rfl) (by kernel_rfl) (ss (ss (ss (ss (ss (ss (ss (ss (ss (ss (sn))))))))))) 13 false 61 rfl rfl rfl rfl rfl ?_
      refine any_no 26 rfl (by kernel_rfl) (by kernel_rfl) (by kernel_rfl) (ss (ss (ss (ss (ss (ss (ss (ss (ss (ss (sn))))))))))) 13 false 61 rfl rfl rfl rfl rfl ?_
      refine any_no 27 rfl (by kernel_rfl) (by kernel_rfl) (by kernel_rfl) (ss (ss (ss (ss (ss (ss (ss (ss (ss (ss (sn))))))))))) 13 false 61 rfl rfl rfl rfl rfl ?_
      refine any_y 28 rfl (by kernel_rfl) (by kernel_rfl) (by kernel_rfl) (ss (ss (ss (ss (ss (ss (ss (ss (ss (ss (sn))))))))))) (wn rfl) rfl (y_pick (b := true) rfl rfl) ?_
      obtain rfl := some_eq h
      exact any_weak [(2, boxP b1 0), (3, boxP b2 0), (6, .int .i64 i_24), (76, .bool true)] [0, 1, 2, 3, 4, 5, 6, 7, 8, 9] [box b1 [a_0_Hubsv, a_0_Routesv], ro a_0_Hubsv 3 (a_0.Hubs.map S_api_Hub.enc), nro a_0_Routesv NC_api_Route_82 a_0.Routes, box b2 [b_1_Hubsv, b_1_Routesv], ro b_1_Hubsv 3 (b_1.Hubs.map S_api_Hub.enc), nro b_1_Routesv NC_api_Route_82 b_1.Routes, atc a_0_Routesv (i_24.toNat * 2) [.string (bs x30.Country), g31], ro g31 1 (x30.Sites.map (eInt .i64)), atc b_1_Routesv (i_24.toNat * 2) [.string (bs x32.Country), g33], ro g33 1 (x32.Sites.map (eInt .i64))] (by kernel_rfl) (vcons rfl (vcons rfl (vcons rfl (vcons rfl (vnil))))) (by decide) rfl (hL38 true rfl)
     ·replace h := cond_f h hg39
      refine any_y 14 rfl (by kernel_rfl) (by kernel_rfl) (by kernel_rfl) (ss (ss (ss (ss (ss (ss (ss (ss (ss (ss (sn))))))))))) (wg 13 false 61 rfl rfl rfl rfl) rfl (y_fieldAddr_box (sz := 0) Try.runUnderlying25 rfl Try.sizeOf23 rfl) ?_
      refine any_y 15 rfl (by kernel_rfl) (by kernel_rfl) (by kernel_rfl) (ss (ss (ss (ss (ss (ss (ss (ss (ss (ss (sn))))))))))) (wg 13 false 61 rfl rfl rfl rfl) rfl (y_load_box 0 Try.isAgg23 rfl rfl rfl) ?_
      refine any_y 16 rfl (by kernel_rfl) (by kernel_rfl) (by kernel_rfl) (ss (ss (ss (ss (ss (ss (ss (ss (ss (ss (sn))))))))))) (wg 13 false 61 rfl rfl rfl rfl) rfl (y_move rfl) ?_
      refine any_y 17 rfl (by kernel_rfl) (by kernel_rfl) (by kernel_rfl) (ss (ss (ss (ss (ss (ss (ss (ss (ss (ss (sn))))))))))) (wg 13 false 61 rfl rfl rfl rfl) rfl (y_indexAddrN (kd := .i64) (i := i_24) 2 Try.runUnderlying23 Try.sizeOf82 rfl rfl rfl readsN_ro hzx30 hlx30) ?_
      refine any_y 18 rfl (by kernel_rfl) (by kernel_rfl) (by kernel_rfl) (ss (ss (ss (ss (ss (ss (ss (ss (ss (ss (sn))))))))))) (wg 13 false 61 rfl rfl rfl rfl) rfl (y_fieldAddr_elem (sz := 0) Try.runUnderlying82 rfl Try.sizeOf35 rfl) ?_
      refine any_y 19 rfl (by kernel_rfl) (by kernel_rfl) (by kernel_rfl) (ss (ss (ss (ss (ss (ss (ss (ss (ss (ss (sn))))))))))) (wg 13 false 61 rfl rfl rfl rfl) rfl (y_load_at (n := i_24.toNat * 2) (j := 1) 6 Try.isAgg35 rfl rfl rfl) ?_
      refine any_y 20 rfl (by kernel_rfl) (by kernel_rfl) (by kernel_rfl) (ss (ss (ss (ss (ss (ss (ss (ss (ss (ss (sn))))))))))) (wg 13 false 61 rfl rfl rfl rfl) rfl (y_fieldAddr_box (sz := 0) Try.runUnderlying25 rfl Try.sizeOf23 rfl) ?_
      refine any_y 21 rfl (by kernel_rfl) (by kernel_rfl) (by kernel_rfl) (ss (ss (ss (ss (ss (ss (ss (ss (ss (ss (sn))))))))))) (wg 13 false 61 rfl rfl rfl rfl) rfl (y_load_box 3 Try.isAgg23 rfl rfl rfl) ?_
      refine any_y 22 rfl (by kernel_rfl) (by kernel_rfl) (by kernel_rfl) (ss (ss (ss (ss (ss (ss (ss (ss (ss (ss (sn))))))))))) (wg 13 false 61 rfl rfl rfl rfl) rfl (y_move rfl) ?_
      refine any_y 23 rfl (by kernel_rfl) (by kernel_rfl) (by kernel_rfl) (ss (ss (ss (ss (ss (ss (ss (ss (ss (ss (sn))))))))))) (wg 13 false 61 rfl rfl rfl rfl) rfl (y_indexAddrN (kd := .i64) (i := i_24) 5 Try.runUnderlying23 Try.sizeOf82 rfl rfl rfl readsN_ro hzx32 hlx32) ?_
      refine any_y 24 rfl (by kernel_rfl) (by kernel_rfl) (by kernel_rfl) (ss (ss (ss (ss (ss (ss (ss (ss (ss (ss (sn))))))))))) (wg 13 false 61 rfl rfl rfl rfl) rfl (y_fieldAddr_elem (sz := 0) Try.runUnderlying82 rfl Try.sizeOf35 rfl) ?_
      refine any_y 25 rfl (by kernel_rfl) (by kernel_rfl) (by kernel_rfl) (ss (ss (ss (ss (ss (ss (ss (ss (ss (ss (sn))))))))))) (wg 13 false 61 rfl rfl rfl rfl) rfl (y_load_at (n := i_24.toNat * 2) (j := 1) 8 Try.isAgg35 rfl rfl rfl) ?_
      refine any_all [26] (by kernel_rfl) rfl (anyo_cons ?_ anyo_nil)
      obtain ⟨r40, hr41, h⟩ := obind_some h
      refine any_t rfl (wg 13 false 61 rfl rfl rfl rfl) rfl (t_callx (vs := [g31, g33]) (cs := []) [(7, 0), (9, 0)] rfl Try.call19 rfl (ref42_SameList_ok n x30.Sites x32.Sites g31 g33 hr41) (showsX_view 7 rfl views_ro (showsX_view 9 rfl views_ro showsX_nil)) rfl (.inl rfl)) ?_
      rintro _ _ ⟨_, ⟨rfl, rfl⟩, rfl⟩
      refine ⟨(ss (ss (ss (ss (ss (ss (ss (ss (ss (ss (sn))))))))))), ?_⟩
      refine any_y 27 rfl (by kernel_rfl) (by kernel_rfl) (by kernel_rfl) (ss (ss (ss (ss (ss (ss (ss (ss (ss (ss (sn))))))))))) (wg 13 false 61 rfl rfl rfl rfl) rfl (y_not rfl) ?_
      refine any_y 28 rfl (by kernel_rfl) (by kernel_rfl) (by kernel_rfl) (ss (ss (ss (ss (ss (ss (ss (ss (ss (ss (sn))))))))))) (wn rfl) rfl (y_pick (b := false) rfl rfl) ?_
      obtain rfl := some_eq h
      exact any_weak [(2, boxP b1 0), (3, boxP b2 0), (6, .int .i64 i_24), (76, .bool (!r40))] [0, 1, 2, 3, 4, 5, 6, 7, 8, 9] [box b1 [a_0_Hubsv, a_0_Routesv], ro a_0_Hubsv 3 (a_0.Hubs.map S_api_Hub.enc), nro a_0_Routesv NC_api_Route_82 a_0.Routes, box b2 [b_1_Hubsv, b_1_Routesv], ro b_1_Hubsv 3 (b_1.Hubs.map S_api_Hub.enc), nro b_1_Routesv NC_api_Route_82 b_1.Routes, atc a_0_Routesv (i_24.toNat * 2) [.string (bs x30.Country), g31], ro g31 1 (x30.Sites.map (eInt .i64)), atc b_1_Routesv (i_24.toNat * 2) [.string (bs x32.Country), g33], ro g33 1 (x32.Sites.map (eInt .i64))] (by kernel_rfl) (vcons rfl (vcons rfl (vcons rfl (vcons rfl (vnil))))) (by decide) rfl (hL38 (!r40) rfl)
    rintro b34 hj
    obtain rfl : o35 = _ := hj
    replace h := after_go ho36
    clear ho36
    refine any_nil (by kernel_rfl) ?_
    refine goes_code ?_
    refine run_cond b34 rfl (fun hc42 => ?_) (fun hc42 => ?_)
    ·replace h := cond_t h hc42
     refine run_seq ?_
     refine run_region' ?_
     refine oy rfl rfl (y_assign rfl) ?_
     refine ops_nil ?_
     refine goes_code ?_
     refine run_ret ?_
     obtain rfl := some_eq h
     obtain rfl := hstop27 _ rfl
     skip
     obtain rfl := after_stop ho21
     refine fin_slots [4] [.bool false] [] [] Try.results20 rfl (by decide) rfl ?_
     exact ⟨rfl, rfl⟩
    ·replace h := cond_f h hc42
     refine run_skip ?_
     refine goes_blk ?_
     refine goes_code ?_
     refine run_region' ?_
     refine oy rfl rfl (y_move rfl) ?_
     refine oy rfl rfl (y_add rfl rfl) ?_
     refine oy rfl rfl (y_assign rfl) ?_
     refine ops_nil ?_
     obtain rfl := some_eq h
     exact goes_iter hgo26 (IntKind.i64.wrap (i_24 + 1)) () [0, 1, 2, 3, 4, 5] rfl (vcons rfl (vcons rfl (vcons rfl (vnil)))) (by decide) rfl
   ·replace h := cond_f h hc29
    refine run_exit _ rfl ?_
    obtain rfl := some_eq h
    obtain rfl := hstop27 _ rfl
    exact goes_cut hL22 ((), ()) [] vnil (by decide) rfl rfl
  rintro ⟨_, _⟩ hj
  obtain rfl : o20 = _ := hj
  replace h := after_go ho21
  clear ho21
  change Run _ _ _ (VF.of []) []
  refine run_seq ?_
  refine run_region' ?_
  refine oy rfl rfl (y_assign rfl) ?_
  refine ops_nil ?_
  refine goes_code ?_
  refine run_ret ?_
  obtain rfl := some_eq h
  refine fin_slots [4] [.bool true] [] [] Try.results20 rfl (by decide) rfl ?_
  exact ⟨rfl, rfl⟩

end Go.Proofs.Ytigiikkenamneaa
