/-
  Functions of the program, lifted: part 2.
-/
import Derived.Test.YtigiikkenamneaaBFa
namespace Go.Proofs.Ytigiikkenamneaa
open Go.Abs
set_option linter.unusedVariables false
set_option linter.unusedSimpArgs false
set_option maxRecDepth 20000
set_option maxHeartbeats 4000000

def topo_stageOf_L2 (s_9 : Int) (x22 : (List Int)) : (Bool × Int × (List (Int × Int))) → Option (Lp (Bool × Int × (List (Int × Int))) (Lp (Bool × (List (Int × Int))) (Lp (Bool × Int × (List (Int × Int))) (Lp (Bool × (List (Int × Int))) ((List (Int × Int)) × Bool))))) :=
 fun (ok_24, s_25, x_26) =>
  cond (decide (s_25 < (x22.length : Int)))
   (idx x22 s_25 fun x32 =>
   some (.go ((ok_24 && (!((mget x_26 x32).isSome))), (IntKind.i64.wrap (s_25 + 1)), (mput x_26 x32 s_9))))
   (some (.stop (.go (ok_24, x_26))))
def topo_stageOf_L1 (n : Nat) (stages_0 : (List (List Int))) : (Bool × Int × (List (Int × Int))) → Option (Lp (Bool × Int × (List (Int × Int))) (Lp (Bool × (List (Int × Int))) ((List (Int × Int)) × Bool))) :=
 fun (ok_8, s_9, x_10) =>
  cond (decide (s_9 < (stages_0.length : Int)))
   (bindJ (S := Bool × (List (Int × Int)))
    (idx stages_0 s_9 fun x22 =>
    iter (topo_stageOf_L2 s_9 x22) n (ok_8, 0, x_10))
   (fun (ok_16, x_17) =>
    some (.go (ok_16, (IntKind.i64.wrap (s_9 + 1)), x_17))))
   (some (.stop (.go (ok_8, x_10))))
def topo_stageOf (n : Nat) (stages_0 : (List (List Int))) : Option ((List (Int × Int)) × Bool) :=
 bindJ (S := Bool × (List (Int × Int)))
  (iter (topo_stageOf_L1 n stages_0) n (true, 0, ([] : (List (Int × Int)))))
 (fun (ok_2, x_3) =>
  some (x_3, ok_2))
theorem topo_stageOf_ok (n : Nat) (stages_0 : (List (List Int))) (stages_0v : Value) {r : (List (Int × Int)) × Bool} (h : topo_stageOf n stages_0 = some r) :
  Meets Try.prog 70 [stages_0v] [nro stages_0v NC_L_int_35 stages_0] (fun v G => ∃ v0, v = .tuple #[.map (some v0), .bool r.2] ∧ G = [mapis v0 (mcells (fun n : Int => Value.int .i64 n) (fun n : Int => Value.int .i64 n) r.1)]) := by
 refine fn_of_run Try.func70 rfl Try.ntmps70 rfl (fun w0 o0 => ?_)
 refine run_seq ?_
 refine run_region' ?_
 refine oy rfl rfl (y_assign rfl) ?_
 refine oy rfl rfl (y_assign rfl) ?_
 refine ops_nil ?_
 refine goes_code ?_
 refine run_seq ?_
 refine run_region' ?_
 refine ot rfl rfl (t_makeMap) ?_
 rintro _ _ ⟨b1, rfl, rfl⟩
 refine ops_turn (retell 1 (g := mapis b1 (mcells (fun n : Int => Value.int .i64 n) (fun n : Int => Value.int .i64 n) ([] : (List (Int × Int))))) rfl rfl) ?_
 refine oy rfl rfl (y_assign rfl) ?_
 refine oy rfl rfl (y_assign rfl) ?_
 refine ops_nil ?_
 refine goes_code ?_
 obtain ⟨o4, h, ho5⟩ := bindJ_some h
 refine run_cut ((Bool × (List (Int × Int))) × (Unit)) (fun σ => [(4, .map (some b1)), (5, .bool σ.1.1)]) (fun σ => [mapis b1 (mcells (fun n : Int => Value.int .i64 n) (fun n : Int => Value.int .i64 n) σ.1.2)]) (fun σ => o4 = .go σ.1) (fun L7 hL6 => ?_) ?_
 ·
  refine run_seq ?_
  refine run_region' ?_
  refine oy rfl rfl (y_move rfl) ?_
  refine oy rfl rfl (y_lenN 0 rfl Try.runUnderlying56 rfl rfl readsN_ro) ?_
  refine oy rfl rfl (y_move rfl) ?_
  refine ops_nil ?_
  refine goes_code ?_
  refine run_block ?_
  refine run_iter (step := topo_stageOf_L1 n stages_0) (n := n) (s0 := (true, 0, ([] : (List (Int × Int))))) h (G := Unit) () (fun σ γ => [(4, .map (some b1)), (5, .bool σ.1), (13, stages_0v), (14, .int .i64 (stages_0.length : Int)), (15, .int .i64 σ.2.1)]) (fun σ γ => [mapis b1 (mcells (fun n : Int => Value.int .i64 n) (fun n : Int => Value.int .i64 n) σ.2.2), nro stages_0v NC_L_int_35 stages_0]) [1, 0] (qv5 rfl rfl rfl rfl rfl) (by decide) rfl ?_
  rintro ⟨ok_8, s_9, x_10⟩ _ o11 h L14 hgo12 hstop13
  change Run _ _ _ (VF.of [(4, .map (some b1)), (5, .bool ok_8), (13, stages_0v), (14, .int .i64 (stages_0.length : Int)), (15, .int .i64 s_9)]) [mapis b1 (mcells (fun n : Int => Value.int .i64 n) (fun n : Int => Value.int .i64 n) x_10), nro stages_0v NC_L_int_35 stages_0]
  refine run_seq ?_
  refine run_region' ?_
  refine oy rfl rfl (y_lss rfl rfl) ?_
  refine ops_nil ?_
  refine goes_code ?_
  refine run_seq ?_
  refine run_cond (decide (s_9 < (stages_0.length : Int))) rfl (fun hc15 => ?_) (fun hc15 => ?_)
  ·replace h := cond_t h hc15
   refine run_skip ?_
   refine goes_code ?_
   obtain ⟨o18, h, ho19⟩ := bindJ_some h
   refine run_cut ((Bool × (List (Int × Int))) × (Unit)) (fun σ => [(4, .map (some b1)), (5, .bool σ.1.1), (13, stages_0v), (14, .int .i64 (stages_0.length : Int)), (15, .int .i64 s_9)]) (fun σ => [mapis b1 (mcells (fun n : Int => Value.int .i64 n) (fun n : Int => Value.int .i64 n) σ.1.2), nro stages_0v NC_L_int_35 stages_0]) (fun σ => o18 = .go σ.1) (fun L21 hL20 => ?_) ?_
   ·
    refine run_block ?_
    refine run_seq ?_
    refine run_region' ?_
    refine oy rfl rfl (y_move rfl) ?_
    obtain ⟨x22, hzx22, hlx22, hxx22, h⟩ := idx_some h
    refine oy rfl rfl (y_indexAddrN (kd := .i64) (i := s_9) 1 Try.runUnderlying56 Try.sizeOf35 rfl rfl rfl readsN_ro hzx22 hlx22) ?_
    refine ops_ex (exAt (C := NC_L_int_35) (i := s_9.toNat) 1 rfl hxx22) ?_
    rintro g23
    refine oy rfl rfl (y_load_at (n := s_9.toNat * 1) (j := 0) 2 Try.isAgg35 rfl rfl rfl) ?_
    refine oy rfl rfl (y_assign rfl) ?_
    refine oy rfl rfl (y_assign rfl) ?_
    refine ops_nil ?_
    refine goes_code ?_
    refine run_seq ?_
    refine run_region' ?_
    refine oy rfl rfl (y_move rfl) ?_
    refine oy rfl rfl ((y_len 3 rfl Try.runUnderlying35 rfl rfl reads_ro).to (v_len (eInt .i64) _)) ?_
    refine oy rfl rfl (y_move rfl) ?_
    refine ops_nil ?_
    refine goes_code ?_
    refine run_block ?_
    refine run_iter (step := topo_stageOf_L2 s_9 x22) (n := n) (s0 := (ok_8, 0, x_10)) h (G := Unit) () (fun σ γ => [(4, .map (some b1)), (5, .bool σ.1), (6, .int .i64 s_9), (13, stages_0v), (14, .int .i64 (stages_0.length : Int)), (15, .int .i64 s_9), (20, g23), (21, .int .i64 (x22.length : Int)), (22, .int .i64 σ.2.1)]) (fun σ γ => [mapis b1 (mcells (fun n : Int => Value.int .i64 n) (fun n : Int => Value.int .i64 n) σ.2.2), nro stages_0v NC_L_int_35 stages_0, ro g23 1 (x22.map (eInt .i64))]) [0, 1, 3] (qv9 rfl rfl rfl rfl rfl rfl rfl rfl rfl) (by decide) rfl ?_
    rintro ⟨ok_24, s_25, x_26⟩ _ o27 h L30 hgo28 hstop29
    change Run _ _ _ (VF.of [(4, .map (some b1)), (5, .bool ok_24), (6, .int .i64 s_9), (13, stages_0v), (14, .int .i64 (stages_0.length : Int)), (15, .int .i64 s_9), (20, g23), (21, .int .i64 (x22.length : Int)), (22, .int .i64 s_25)]) [mapis b1 (mcells (fun n : Int => Value.int .i64 n) (fun n : Int => Value.int .i64 n) x_26), nro stages_0v NC_L_int_35 stages_0, ro g23 1 (x22.map (eInt .i64))]
    refine run_seq ?_
    refine run_region' ?_
    refine oy rfl rfl (y_lss rfl rfl) ?_
    refine ops_nil ?_
    refine goes_code ?_
    refine run_seq ?_
    refine run_cond (decide (s_25 < (x22.length : Int))) rfl (fun hc31 => ?_) (fun hc31 => ?_)
    ·replace h := cond_t h hc31
     refine run_skip ?_
     refine goes_code ?_
     refine run_seq ?_
     refine run_block ?_
     refine run_seq ?_
     refine run_region' ?_
     obtain ⟨x32, hzx32, hlx32, hxx32, h⟩ := idx_some h
     refine oy rfl rfl (y_indexAddrI (kd := .i64) (i := s_25) 2 Try.runUnderlying35 Try.sizeOf3 rfl rfl rfl reads_ro hzx32 (map_lt hlx32)) ?_
     refine oy rfl rfl (y_load_elem (i := s_25.toNat) 2 Try.isAgg3 rfl rfl reads_ro (map_get hxx32)) ?_
     refine oy rfl rfl (y_assign rfl) ?_
     refine ops_nil ?_
     refine goes_code ?_
     refine run_seq ?_
     refine run_region' ?_
     refine oy rfl rfl (y_move rfl) ?_
     refine oy rfl rfl (y_move rfl) ?_
     refine oy rfl rfl (y_lookup2 (k := x32) (d0 := 0) 0 (key_int .i64) Try.runUnderlying85 Try.runUnderlying3 Try.zeroValue3 rfl rfl rfl) ?_
     refine oy rfl rfl (y_move rfl) ?_
     refine oy rfl rfl (y_extract rfl rfl) ?_
     refine oy rfl rfl (y_extract rfl rfl) ?_
     refine oy rfl rfl (y_assign rfl) ?_
     refine oy rfl rfl (y_assign rfl) ?_
     refine ops_nil ?_
     refine goes_code ?_
     refine run_seq ?_
     refine run_weak [(4, .map (some b1)), (5, .bool ok_24), (6, .int .i64 s_9), (13, stages_0v), (14, .int .i64 (stages_0.length : Int)), (15, .int .i64 s_9), (20, g23), (21, .int .i64 (x22.length : Int)), (22, .int .i64 s_25), (9, .int .i64 x32), (11, .bool ((mget x_26 x32).isSome))] [0, 1, 2] [mapis b1 (mcells (fun n : Int => Value.int .i64 n) (fun n : Int => Value.int .i64 n) x_26), nro stages_0v NC_L_int_35 stages_0, ro g23 1 (x22.map (eInt .i64))] (qv11 rfl rfl rfl rfl rfl rfl rfl rfl rfl rfl rfl) (by decide) rfl ?_
     refine run_region' ?_
     refine oy rfl rfl (y_move rfl) ?_
     refine oy rfl rfl (y_move rfl) ?_
     refine ops_cut 3 (Bool) (fun σ => [(4, .map (some b1)), (6, .int .i64 s_9), (13, stages_0v), (14, .int .i64 (stages_0.length : Int)), (15, .int .i64 s_9), (20, g23), (21, .int .i64 (x22.length : Int)), (22, .int .i64 s_25), (9, .int .i64 x32), (36, .bool σ)]) (fun σ => [mapis b1 (mcells (fun n : Int => Value.int .i64 n) (fun n : Int => Value.int .i64 n) x_26), nro stages_0v NC_L_int_35 stages_0, ro g23 1 (x22.map (eInt .i64))]) (fun σ => σ = (ok_24 && (!((mget x_26 x32).isSome)))) (fun L33 hL34 => ?_) ?_
     ·refine ops_split 33 ok_24 rfl (fun hg35 => ?_) (fun hg35 => ?_)
      ·skip
       refine ops_y (wg 1 true 33 rfl rfl rfl rfl) rfl (y_move rfl) ?_
       refine ops_y (wg 1 true 33 rfl rfl rfl rfl) rfl (y_not rfl) ?_
       refine oy rfl rfl (y_pick (b := true) rfl rfl) ?_
       refine ops_nil ?_
       exact goes_cut hL34 (!((mget x_26 x32).isSome)) [0, 1, 2] (qv10 rfl rfl rfl rfl rfl rfl rfl rfl rfl rfl) (by decide) rfl (by rw [hg35]; simp)
      ·skip
       refine ops_no 1 true 33 rfl rfl rfl rfl rfl ?_
       refine ops_no 1 true 33 rfl rfl rfl rfl rfl ?_
       refine oy rfl rfl (y_pick (b := false) rfl rfl) ?_
       refine ops_nil ?_
       exact goes_cut hL34 false [0, 1, 2] (qv10 rfl rfl rfl rfl rfl rfl rfl rfl rfl rfl) (by decide) rfl (by rw [hg35]; simp)
     rintro _ rfl
     refine oy rfl rfl (y_assign rfl) ?_
     refine ops_nil ?_
     refine goes_code ?_
     refine run_region' ?_
     refine oy rfl rfl (y_move rfl) ?_
     refine oy rfl rfl (y_move rfl) ?_
     refine oy rfl rfl (y_move rfl) ?_
     refine ot rfl rfl (t_mapUpdate (k := x32) (v := s_9) 0 (key_int .i64) Try.runUnderlying85 Try.runUnderlying3 rfl rfl rfl rfl false) ?_
     rintro _ _ ⟨rfl, rfl⟩
     refine ops_nil ?_
     refine goes_blk ?_
     refine goes_code ?_
     refine run_region' ?_
     refine oy rfl rfl (y_add rfl rfl) ?_
     refine oy rfl rfl (y_move rfl) ?_
     refine ops_nil ?_
     obtain rfl := some_eq h
     exact goes_iter hgo28 ((ok_24 && (!((mget x_26 x32).isSome))), (IntKind.i64.wrap (s_25 + 1)), (mput x_26 x32 s_9)) () [0, 1, 2] rfl (qv9 rfl rfl rfl rfl rfl rfl rfl rfl rfl) (by decide) rfl
    ·replace h := cond_f h hc31
     refine run_exit _ rfl ?_
     refine goes_blk ?_
     obtain rfl := some_eq h
     obtain rfl := hstop29 _ rfl
     exact goes_cut hL20 ((ok_24, x_26), ()) [0, 1] (qv5 rfl rfl rfl rfl rfl) (by decide) rfl rfl
   rintro ⟨⟨ok_16, x_17⟩, _⟩ hj
   obtain rfl : o18 = _ := hj
   replace h := after_go ho19
   clear ho19
   change Run _ _ _ (VF.of [(4, .map (some b1)), (5, .bool ok_16), (13, stages_0v), (14, .int .i64 (stages_0.length : Int)), (15, .int .i64 s_9)]) [mapis b1 (mcells (fun n : Int => Value.int .i64 n) (fun n : Int => Value.int .i64 n) x_17), nro stages_0v NC_L_int_35 stages_0]
   refine run_region' ?_
   refine oy rfl rfl (y_add rfl rfl) ?_
   refine oy rfl rfl (y_move rfl) ?_
   refine ops_nil ?_
   obtain rfl := some_eq h
   exact goes_iter hgo12 (ok_16, (IntKind.i64.wrap (s_9 + 1)), x_17) () [0, 1] rfl (qv5 rfl rfl rfl rfl rfl) (by decide) rfl
  ·replace h := cond_f h hc15
   refine run_exit _ rfl ?_
   obtain rfl := some_eq h
   obtain rfl := hstop13 _ rfl
   exact goes_cut hL6 ((ok_8, x_10), ()) [0] (qv2 rfl rfl) (by decide) rfl rfl
 rintro ⟨⟨ok_2, x_3⟩, _⟩ hj
 obtain rfl : o4 = _ := hj
 replace h := after_go ho5
 clear ho5
 change Run _ _ _ (VF.of [(4, .map (some b1)), (5, .bool ok_2)]) [mapis b1 (mcells (fun n : Int => Value.int .i64 n) (fun n : Int => Value.int .i64 n) x_3)]
 refine run_seq ?_
 refine run_region' ?_
 refine oy rfl rfl (y_move rfl) ?_
 refine oy rfl rfl (y_move rfl) ?_
 refine oy rfl rfl (y_assign rfl) ?_
 refine oy rfl rfl (y_assign rfl) ?_
 refine ops_nil ?_
 refine goes_code ?_
 refine run_ret ?_
 obtain rfl := some_eq h
 refine fin_slots [2, 3] [.map (some b1), .bool ok_2] [0] [mapis b1 (mcells (fun n : Int => Value.int .i64 n) (fun n : Int => Value.int .i64 n) x_3)] Try.results70 rfl (by decide) rfl ?_
 exact ⟨_, rfl, rfl⟩

def topo_isParted_L1 (l_0 : (List S_api_Order)) (r1 : (List (Int × Int)) × Bool) : (Bool × Int) → Option (Lp (Bool × Int) (Lp (Bool) (Bool))) :=
 fun (ok_9, s_10) =>
  cond (decide (s_10 < (l_0.length : Int)))
   (idx l_0 s_10 fun x16 =>
   some (.go ((ok_9 && (mget r1.1 x16.Site).isSome), (IntKind.i64.wrap (s_10 + 1)))))
   (some (.stop (.go ok_9)))
def topo_isParted (n : Nat) (l_0 : (List S_api_Order)) (stages_1 : (List (List Int))) : Option (Bool) :=
 obind (topo_stageOf n stages_1) fun r1 =>
 bindJ (S := Bool)
  (iter (topo_isParted_L1 l_0 r1) n (r1.2, 0))
 (fun ok_4 =>
  some (ok_4 && decide ((r1.1.length : Int) = (l_0.length : Int))))
theorem topo_isParted_ok (n : Nat) (l_0 : (List S_api_Order)) (stages_1 : (List (List Int))) (l_0v : Value) (stages_1v : Value) {r : Bool} (h : topo_isParted n l_0 stages_1 = some r) :
  Meets Try.prog 64 [l_0v, stages_1v] [ro l_0v 4 (l_0.map S_api_Order.enc), nro stages_1v NC_L_int_35 stages_1] (fun v G => v = .bool r ∧ G = []) := by
 refine fn_of_run Try.func64 rfl Try.ntmps64 rfl (fun w0 o0 => ?_)
 refine run_seq ?_
 refine run_region' ?_
 refine oy rfl rfl (y_assign rfl) ?_
 refine ops_nil ?_
 refine goes_code ?_
 refine run_seq ?_
 refine run_region' ?_
 refine oy rfl rfl (y_move rfl) ?_
 obtain ⟨r1, hr2, h⟩ := obind_some h
 refine ot rfl rfl (t_callx (vs := [stages_1v]) (cs := []) [(1, 0)] rfl Try.call70 rfl (topo_stageOf_ok n stages_1 stages_1v hr2) (showsX_view 1 rfl views_nro showsX_nil) rfl (.inl rfl)) ?_
 rintro _ _ ⟨_, ⟨v3, rfl, rfl⟩, rfl⟩
 refine oy rfl rfl (y_move rfl) ?_
 refine oy rfl rfl (y_extract rfl rfl) ?_
 refine oy rfl rfl (y_extract rfl rfl) ?_
 refine oy rfl rfl (y_assign rfl) ?_
 refine oy rfl rfl (y_assign rfl) ?_
 refine ops_nil ?_
 refine goes_code ?_
 obtain ⟨o5, h, ho6⟩ := bindJ_some h
 refine run_cut ((Bool) × (Unit)) (fun σ => [(0, l_0v), (5, .map (some v3)), (6, .bool σ.1)]) (fun σ => [ro l_0v 4 (l_0.map S_api_Order.enc), mapis v3 (mcells (fun n : Int => Value.int .i64 n) (fun n : Int => Value.int .i64 n) r1.1)]) (fun σ => o5 = .go σ.1) (fun L8 hL7 => ?_) ?_
 ·
  refine run_seq ?_
  refine run_weak [(0, l_0v), (5, .map (some v3)), (6, .bool r1.2)] [0, 2] [ro l_0v 4 (l_0.map S_api_Order.enc), mapis v3 (mcells (fun n : Int => Value.int .i64 n) (fun n : Int => Value.int .i64 n) r1.1)] (qv3 rfl rfl rfl) (by decide) rfl ?_
  refine run_region' ?_
  refine oy rfl rfl (y_move rfl) ?_
  refine oy rfl rfl ((y_len 0 rfl Try.runUnderlying57 rfl rfl reads_ro).to (v_len S_api_Order.enc _)) ?_
  refine oy rfl rfl (y_move rfl) ?_
  refine ops_nil ?_
  refine goes_code ?_
  refine run_block ?_
  refine run_iter (step := topo_isParted_L1 l_0 r1) (n := n) (s0 := (r1.2, 0)) h (G := Unit) () (fun σ γ => [(0, l_0v), (5, .map (some v3)), (6, .bool σ.1), (16, l_0v), (17, .int .i64 (l_0.length : Int)), (18, .int .i64 σ.2)]) (fun σ γ => [ro l_0v 4 (l_0.map S_api_Order.enc), mapis v3 (mcells (fun n : Int => Value.int .i64 n) (fun n : Int => Value.int .i64 n) r1.1)]) [0, 1] (qv6 rfl rfl rfl rfl rfl rfl) (by decide) rfl ?_
  rintro ⟨ok_9, s_10⟩ _ o11 h L14 hgo12 hstop13
  change Run _ _ _ (VF.of [(0, l_0v), (5, .map (some v3)), (6, .bool ok_9), (16, l_0v), (17, .int .i64 (l_0.length : Int)), (18, .int .i64 s_10)]) [ro l_0v 4 (l_0.map S_api_Order.enc), mapis v3 (mcells (fun n : Int => Value.int .i64 n) (fun n : Int => Value.int .i64 n) r1.1)]
  refine run_seq ?_
  refine run_region' ?_
  refine oy rfl rfl (y_lss rfl rfl) ?_
  refine ops_nil ?_
  refine goes_code ?_
  refine run_seq ?_
  refine run_cond (decide (s_10 < (l_0.length : Int))) rfl (fun hc15 => ?_) (fun hc15 => ?_)
  ·replace h := cond_t h hc15
   refine run_skip ?_
   refine goes_code ?_
   refine run_seq ?_
   refine run_block ?_
   refine run_seq ?_
   refine run_region' ?_
   obtain ⟨x16, hzx16, hlx16, hxx16, h⟩ := idx_some h
   refine oy rfl rfl (y_indexAddrI (kd := .i64) (i := s_10) 0 Try.runUnderlying57 Try.sizeOf108 rfl rfl rfl reads_ro hzx16 (map_lt hlx16)) ?_
   refine oy rfl rfl (y_load_agg (i := s_10.toNat) (c := [.int .i64 x16.Site, .int .i64 x16.Version, .int .i64 x16.Serial, .int .i64 x16.Heard]) 0 Try.isAgg108 Try.sizeOf108 rfl rfl reads_ro (map_get hxx16)) ?_
   refine ot rfl rfl (t_alloc Try.zeroValue108) ?_
   rintro _ _ ⟨b17, rfl, rfl⟩
   refine ot rfl rfl (t_store 2 Try.sizeOf108 rfl rfl rfl rfl (by simp [Value.cells, boxP]) (by simp [Value.cells, Value.oneCell', boxP])) ?_
   rintro _ _ ⟨rfl, rfl⟩
   refine ops_turn (retell 2 (g := box b17 [.int .i64 x16.Site, .int .i64 x16.Version, .int .i64 x16.Serial, .int .i64 x16.Heard]) rfl rfl) ?_
   refine ops_nil ?_
   refine goes_code ?_
   refine run_seq ?_
   refine run_region' ?_
   refine oy rfl rfl (y_move rfl) ?_
   refine oy rfl rfl (y_fieldAddr_box (sz := 0) Try.runUnderlying108 rfl Try.sizeOf3 rfl) ?_
   refine oy rfl rfl (y_load_box 2 Try.isAgg3 rfl rfl rfl) ?_
   refine oy rfl rfl (y_lookup2 (k := x16.Site) (d0 := 0) 1 (key_int .i64) Try.runUnderlying85 Try.runUnderlying3 Try.zeroValue3 rfl rfl rfl) ?_
   refine oy rfl rfl (y_move rfl) ?_
   refine oy rfl rfl (y_extract rfl rfl) ?_
   refine oy rfl rfl (y_extract rfl rfl) ?_
   refine oy rfl rfl (y_assign rfl) ?_
   refine oy rfl rfl (y_assign rfl) ?_
   refine ops_nil ?_
   refine goes_code ?_
   refine run_weak [(0, l_0v), (5, .map (some v3)), (6, .bool ok_9), (16, l_0v), (17, .int .i64 (l_0.length : Int)), (18, .int .i64 s_10), (10, .bool ((mget r1.1 x16.Site).isSome))] [0, 1] [ro l_0v 4 (l_0.map S_api_Order.enc), mapis v3 (mcells (fun n : Int => Value.int .i64 n) (fun n : Int => Value.int .i64 n) r1.1)] (qv7 rfl rfl rfl rfl rfl rfl rfl) (by decide) rfl ?_
   refine run_region' ?_
   refine oy rfl rfl (y_move rfl) ?_
   refine oy rfl rfl (y_move rfl) ?_
   refine ops_cut 2 (Bool) (fun σ => [(0, l_0v), (5, .map (some v3)), (16, l_0v), (17, .int .i64 (l_0.length : Int)), (18, .int .i64 s_10), (32, .bool σ)]) (fun σ => [ro l_0v 4 (l_0.map S_api_Order.enc), mapis v3 (mcells (fun n : Int => Value.int .i64 n) (fun n : Int => Value.int .i64 n) r1.1)]) (fun σ => σ = (ok_9 && (mget r1.1 x16.Site).isSome)) (fun L18 hL19 => ?_) ?_
   ·refine ops_split 30 ok_9 rfl (fun hg20 => ?_) (fun hg20 => ?_)
    ·skip
     refine ops_y (wg 1 true 30 rfl rfl rfl rfl) rfl (y_move rfl) ?_
     refine oy rfl rfl (y_pick (b := true) rfl rfl) ?_
     refine ops_nil ?_
     exact goes_cut hL19 ((mget r1.1 x16.Site).isSome) [0, 1] (qv6 rfl rfl rfl rfl rfl rfl) (by decide) rfl (by rw [hg20]; simp)
    ·skip
     refine ops_no 1 true 30 rfl rfl rfl rfl rfl ?_
     refine oy rfl rfl (y_pick (b := false) rfl rfl) ?_
     refine ops_nil ?_
     exact goes_cut hL19 false [0, 1] (qv6 rfl rfl rfl rfl rfl rfl) (by decide) rfl (by rw [hg20]; simp)
   rintro _ rfl
   refine oy rfl rfl (y_assign rfl) ?_
   refine ops_nil ?_
   refine goes_blk ?_
   refine goes_code ?_
   refine run_region' ?_
   refine oy rfl rfl (y_add rfl rfl) ?_
   refine oy rfl rfl (y_move rfl) ?_
   refine ops_nil ?_
   obtain rfl := some_eq h
   exact goes_iter hgo12 ((ok_9 && (mget r1.1 x16.Site).isSome), (IntKind.i64.wrap (s_10 + 1))) () [0, 1] rfl (qv6 rfl rfl rfl rfl rfl rfl) (by decide) rfl
  ·replace h := cond_f h hc15
   refine run_exit _ rfl ?_
   obtain rfl := some_eq h
   obtain rfl := hstop13 _ rfl
   exact goes_cut hL7 (ok_9, ()) [0, 1] (qv3 rfl rfl rfl) (by decide) rfl rfl
 rintro ⟨ok_4, _⟩ hj
 obtain rfl : o5 = _ := hj
 replace h := after_go ho6
 clear ho6
 change Run _ _ _ (VF.of [(0, l_0v), (5, .map (some v3)), (6, .bool ok_4)]) [ro l_0v 4 (l_0.map S_api_Order.enc), mapis v3 (mcells (fun n : Int => Value.int .i64 n) (fun n : Int => Value.int .i64 n) r1.1)]
 refine run_seq ?_
 refine run_region' ?_
 refine oy rfl rfl (y_move rfl) ?_
 refine oy rfl rfl (y_move rfl) ?_
 refine ops_cut 6 (Bool) (fun σ => [(41, .bool σ)]) (fun σ => []) (fun σ => σ = (ok_4 && decide ((r1.1.length : Int) = (l_0.length : Int)))) (fun L21 hL22 => ?_) ?_
 ·refine ops_split 35 ok_4 rfl (fun hg23 => ?_) (fun hg23 => ?_)
  ·skip
   refine ops_y (wg 1 true 35 rfl rfl rfl rfl) rfl (y_move rfl) ?_
   refine ops_y (wg 1 true 35 rfl rfl rfl rfl) rfl (y_len_map 1 rfl Try.runUnderlying85 rfl rfl) ?_
   refine ops_y (wg 1 true 35 rfl rfl rfl rfl) rfl (y_move rfl) ?_
   refine ops_y (wg 1 true 35 rfl rfl rfl rfl) rfl ((y_len 0 rfl Try.runUnderlying57 rfl rfl reads_ro).to (v_len S_api_Order.enc _)) ?_
   refine ops_y (wg 1 true 35 rfl rfl rfl rfl) rfl (y_eql rfl rfl) ?_
   refine oy rfl rfl (y_pick (b := true) rfl rfl) ?_
   refine ops_nil ?_
   exact goes_cut hL22 (decide ((r1.1.length : Int) = (l_0.length : Int))) [] (qv1 rfl) (by decide) rfl (by rw [hg23]; simp)
  ·skip
   refine ops_no 1 true 35 rfl rfl rfl rfl rfl ?_
   refine ops_no 1 true 35 rfl rfl rfl rfl rfl ?_
   refine ops_no 1 true 35 rfl rfl rfl rfl rfl ?_
   refine ops_no 1 true 35 rfl rfl rfl rfl rfl ?_
   refine ops_no 1 true 35 rfl rfl rfl rfl rfl ?_
   refine oy rfl rfl (y_pick (b := false) rfl rfl) ?_
   refine ops_nil ?_
   exact goes_cut hL22 false [] (qv1 rfl) (by decide) rfl (by rw [hg23]; simp)
 rintro _ rfl
 refine oy rfl rfl (y_assign rfl) ?_
 refine ops_nil ?_
 refine goes_code ?_
 refine run_ret ?_
 obtain rfl := some_eq h
 refine fin_slots [4] [.bool (ok_4 && decide ((r1.1.length : Int) = (l_0.length : Int)))] [] [] Try.results64 rfl (by decide) rfl ?_
 exact ⟨rfl, rfl⟩

def topo_ValidFleet_L1 (f_0 : S_api_Fleet) (r32 : (List (Int × Int)) × Bool) : (Int × Int) → Option (Lp (Int × Int) (Lp (Unit) (Bool))) :=
 fun (last_39, s_40) =>
  cond (decide (s_40 < (f_0.Orders.length : Int)))
   (idx f_0.Orders s_40 fun x46 =>
   bindJ (S := Int)
    (cond ((mget r32.1 x46.Site).isSome && decide (((mget r32.1 x46.Site).getD 0) < f_0.Done))
     (some (.go (IntKind.i64.wrap (f_0.Base + 1))))
     (some (.go f_0.Base)))
   (fun version_48 =>
    obind (topo_isSite x46.Site) fun r57 =>
    cond (((((((!r57) || decide (x46.Site ≤ last_39)) || decide (x46.Serial < 0)) || decide (f_0.Serial < x46.Serial)) || decide (x46.Heard < 0)) || decide (x46.Serial < x46.Heard)) || decide (x46.Version ≠ version_48))
     (some (.stop (.stop false)))
     (some (.go (x46.Site, (IntKind.i64.wrap (s_40 + 1)))))))
   (some (.stop (.go ())))
def topo_ValidFleet (n : Nat) (f_0 : S_api_Fleet) : Option (Bool) :=
 bindJ (S := Bool)
  (cond (((((decide (f_0.Base < 0) || decide (1073741824 ≤ f_0.Base)) || decide (f_0.Serial < 0)) || decide (1099511627776 < f_0.Serial)) || decide (f_0.Done < 0)) || decide ((f_0.Stages.length : Int) < f_0.Done))
   (some (.go true))
   (bindJ (S := Bool)
    (cond (decide (0 < (f_0.Stages.length : Int)))
     (obind (topo_isParted n f_0.Orders f_0.Stages) fun r29 =>
     some (.go (!r29)))
     (some (.go false)))
   (fun b23 =>
    some (.go b23))))
 (fun b17 =>
  cond b17
   (some false)
   (obind (topo_stageOf n f_0.Stages) fun r32 =>
   bindJ (S := Unit)
    (iter (topo_ValidFleet_L1 f_0 r32) n ((-1), 0))
   (fun _ =>
    some true)))
theorem topo_ValidFleet_ok (n : Nat) (f_0 : S_api_Fleet) (f_0_Stagesv : Value) (f_0_Ordersv : Value) {r : Bool} (h : topo_ValidFleet n f_0 = some r) :
  Meets Try.prog 51 [.agg #[.int .i64 f_0.Base, .int .i64 f_0.Done, .int .i64 f_0.Serial, .bool f_0.Stopped, f_0_Stagesv, f_0_Ordersv]] [nro f_0_Stagesv NC_L_int_35 f_0.Stages, ro f_0_Ordersv 4 (f_0.Orders.map S_api_Order.enc)] (fun v G => v = .bool r ∧ G = []) := by
 refine fn_of_run Try.func51 rfl Try.ntmps51 rfl (fun w0 o0 => ?_)
 refine run_seq ?_
 refine run_region' ?_
 refine ot rfl rfl (t_box rfl) ?_
 rintro _ _ ⟨b1, rfl, rfl⟩
 refine oy rfl rfl (y_assign rfl) ?_
 refine ops_nil ?_
 refine goes_code ?_
 refine run_seq ?_
 refine run_seq ?_
 refine run_region' ?_
 refine oy rfl rfl (y_fieldAddr_box (sz := 0) Try.runUnderlying59 rfl Try.sizeOf3 rfl) ?_
 refine oy rfl rfl (y_load_box 2 Try.isAgg3 rfl rfl rfl) ?_
 refine oy rfl rfl (y_lss rfl rfl) ?_
 refine oy rfl rfl (y_move rfl) ?_
 refine ops_cut 4 (Bool) (fun σ => [(1, boxP b1 0), (18, .bool σ)]) (fun σ => [nro f_0_Stagesv NC_L_int_35 f_0.Stages, ro f_0_Ordersv 4 (f_0.Orders.map S_api_Order.enc), box b1 [.int .i64 f_0.Base, .int .i64 f_0.Done, .int .i64 f_0.Serial, .bool f_0.Stopped, f_0_Stagesv, f_0_Ordersv]]) (fun σ => σ = (decide (f_0.Base < 0) || decide (1073741824 ≤ f_0.Base))) (fun L2 hL3 => ?_) ?_
 ·refine ops_split 14 (decide (f_0.Base < 0)) rfl (fun hg4 => ?_) (fun hg4 => ?_)
  ·skip
   refine ops_no 3 false 14 rfl rfl rfl rfl rfl ?_
   refine ops_no 3 false 14 rfl rfl rfl rfl rfl ?_
   refine ops_no 3 false 14 rfl rfl rfl rfl rfl ?_
   refine oy rfl rfl (y_pick (b := true) rfl rfl) ?_
   refine ops_nil ?_
   exact goes_cut hL3 true [0, 1, 2] (qv2 rfl rfl) (by decide) rfl (by rw [hg4]; simp)
  ·skip
   refine ops_y (wg 3 false 14 rfl rfl rfl rfl) rfl (y_fieldAddr_box (sz := 0) Try.runUnderlying59 rfl Try.sizeOf3 rfl) ?_
   refine ops_y (wg 3 false 14 rfl rfl rfl rfl) rfl (y_load_box 2 Try.isAgg3 rfl rfl rfl) ?_
   refine ops_y (wg 3 false 14 rfl rfl rfl rfl) rfl (y_geq rfl rfl) ?_
   refine oy rfl rfl (y_pick (b := false) rfl rfl) ?_
   refine ops_nil ?_
   exact goes_cut hL3 (decide (1073741824 ≤ f_0.Base)) [0, 1, 2] (qv2 rfl rfl) (by decide) rfl (by rw [hg4]; simp)
 rintro _ rfl
 refine oy rfl rfl (y_move rfl) ?_
 refine ops_cut 4 (Bool) (fun σ => [(1, boxP b1 0), (23, .bool σ)]) (fun σ => [nro f_0_Stagesv NC_L_int_35 f_0.Stages, ro f_0_Ordersv 4 (f_0.Orders.map S_api_Order.enc), box b1 [.int .i64 f_0.Base, .int .i64 f_0.Done, .int .i64 f_0.Serial, .bool f_0.Stopped, f_0_Stagesv, f_0_Ordersv]]) (fun σ => σ = ((decide (f_0.Base < 0) || decide (1073741824 ≤ f_0.Base)) || decide (f_0.Serial < 0))) (fun L5 hL6 => ?_) ?_
 ·refine ops_split 19 (decide (f_0.Base < 0) || decide (1073741824 ≤ f_0.Base)) rfl (fun hg7 => ?_) (fun hg7 => ?_)
  ·skip
   refine ops_no 8 false 19 rfl rfl rfl rfl rfl ?_
   refine ops_no 8 false 19 rfl rfl rfl rfl rfl ?_
   refine ops_no 8 false 19 rfl rfl rfl rfl rfl ?_
   refine oy rfl rfl (y_pick (b := true) rfl rfl) ?_
   refine ops_nil ?_
   exact goes_cut hL6 true [0, 1, 2] (qv2 rfl rfl) (by decide) rfl (by rw [hg7]; simp)
  ·skip
   refine ops_y (wg 8 false 19 rfl rfl rfl rfl) rfl (y_fieldAddr_box (sz := 0) Try.runUnderlying59 rfl Try.sizeOf3 rfl) ?_
   refine ops_y (wg 8 false 19 rfl rfl rfl rfl) rfl (y_load_box 2 Try.isAgg3 rfl rfl rfl) ?_
   refine ops_y (wg 8 false 19 rfl rfl rfl rfl) rfl (y_lss rfl rfl) ?_
   refine oy rfl rfl (y_pick (b := false) rfl rfl) ?_
   refine ops_nil ?_
   exact goes_cut hL6 (decide (f_0.Serial < 0)) [0, 1, 2] (qv2 rfl rfl) (by decide) rfl (by rw [hg7]; simp)
 rintro _ rfl
 refine oy rfl rfl (y_move rfl) ?_
 refine ops_cut 4 (Bool) (fun σ => [(1, boxP b1 0), (28, .bool σ)]) (fun σ => [nro f_0_Stagesv NC_L_int_35 f_0.Stages, ro f_0_Ordersv 4 (f_0.Orders.map S_api_Order.enc), box b1 [.int .i64 f_0.Base, .int .i64 f_0.Done, .int .i64 f_0.Serial, .bool f_0.Stopped, f_0_Stagesv, f_0_Ordersv]]) (fun σ => σ = (((decide (f_0.Base < 0) || decide (1073741824 ≤ f_0.Base)) || decide (f_0.Serial < 0)) || decide (1099511627776 < f_0.Serial))) (fun L8 hL9 => ?_) ?_
 ·refine ops_split 24 ((decide (f_0.Base < 0) || decide (1073741824 ≤ f_0.Base)) || decide (f_0.Serial < 0)) rfl (fun hg10 => ?_) (fun hg10 => ?_)
  ·skip
   refine ops_no 13 false 24 rfl rfl rfl rfl rfl ?_
   refine ops_no 13 false 24 rfl rfl rfl rfl rfl ?_
   refine ops_no 13 false 24 rfl rfl rfl rfl rfl ?_
   refine oy rfl rfl (y_pick (b := true) rfl rfl) ?_
   refine ops_nil ?_
   exact goes_cut hL9 true [0, 1, 2] (qv2 rfl rfl) (by decide) rfl (by rw [hg10]; simp)
  ·skip
   refine ops_y (wg 13 false 24 rfl rfl rfl rfl) rfl (y_fieldAddr_box (sz := 0) Try.runUnderlying59 rfl Try.sizeOf3 rfl) ?_
   refine ops_y (wg 13 false 24 rfl rfl rfl rfl) rfl (y_load_box 2 Try.isAgg3 rfl rfl rfl) ?_
   refine ops_y (wg 13 false 24 rfl rfl rfl rfl) rfl (y_gtr rfl rfl) ?_
   refine oy rfl rfl (y_pick (b := false) rfl rfl) ?_
   refine ops_nil ?_
   exact goes_cut hL9 (decide (1099511627776 < f_0.Serial)) [0, 1, 2] (qv2 rfl rfl) (by decide) rfl (by rw [hg10]; simp)
 rintro _ rfl
 refine oy rfl rfl (y_move rfl) ?_
 refine ops_cut 4 (Bool) (fun σ => [(1, boxP b1 0), (33, .bool σ)]) (fun σ => [nro f_0_Stagesv NC_L_int_35 f_0.Stages, ro f_0_Ordersv 4 (f_0.Orders.map S_api_Order.enc), box b1 [.int .i64 f_0.Base, .int .i64 f_0.Done, .int .i64 f_0.Serial, .bool f_0.Stopped, f_0_Stagesv, f_0_Ordersv]]) (fun σ => σ = ((((decide (f_0.Base < 0) || decide (1073741824 ≤ f_0.Base)) || decide (f_0.Serial < 0)) || decide (1099511627776 < f_0.Serial)) || decide (f_0.Done < 0))) (fun L11 hL12 => ?_) ?_
 ·refine ops_split 29 (((decide (f_0.Base < 0) || decide (1073741824 ≤ f_0.Base)) || decide (f_0.Serial < 0)) || decide (1099511627776 < f_0.Serial)) rfl (fun hg13 => ?_) (fun hg13 => ?_)
  ·skip
   refine ops_no 18 false 29 rfl rfl rfl rfl rfl ?_
   refine ops_no 18 false 29 rfl rfl rfl rfl rfl ?_
   refine ops_no 18 false 29 rfl rfl rfl rfl rfl ?_
   refine oy rfl rfl (y_pick (b := true) rfl rfl) ?_
   refine ops_nil ?_
   exact goes_cut hL12 true [0, 1, 2] (qv2 rfl rfl) (by decide) rfl (by rw [hg13]; simp)
  ·skip
   refine ops_y (wg 18 false 29 rfl rfl rfl rfl) rfl (y_fieldAddr_box (sz := 0) Try.runUnderlying59 rfl Try.sizeOf3 rfl) ?_
   refine ops_y (wg 18 false 29 rfl rfl rfl rfl) rfl (y_load_box 2 Try.isAgg3 rfl rfl rfl) ?_
   refine ops_y (wg 18 false 29 rfl rfl rfl rfl) rfl (y_lss rfl rfl) ?_
   refine oy rfl rfl (y_pick (b := false) rfl rfl) ?_
   refine ops_nil ?_
   exact goes_cut hL12 (decide (f_0.Done < 0)) [0, 1, 2] (qv2 rfl rfl) (by decide) rfl (by rw [hg13]; simp)
 rintro _ rfl
 refine oy rfl rfl (y_move rfl) ?_
 refine ops_cut 7 (Bool) (fun σ => [(1, boxP b1 0), (41, .bool σ)]) (fun σ => [nro f_0_Stagesv NC_L_int_35 f_0.Stages, ro f_0_Ordersv 4 (f_0.Orders.map S_api_Order.enc), box b1 [.int .i64 f_0.Base, .int .i64 f_0.Done, .int .i64 f_0.Serial, .bool f_0.Stopped, f_0_Stagesv, f_0_Ordersv]]) (fun σ => σ = (((((decide (f_0.Base < 0) || decide (1073741824 ≤ f_0.Base)) || decide (f_0.Serial < 0)) || decide (1099511627776 < f_0.Serial)) || decide (f_0.Done < 0)) || decide ((f_0.Stages.length : Int) < f_0.Done))) (fun L14 hL15 => ?_) ?_
 ·refine ops_split 34 ((((decide (f_0.Base < 0) || decide (1073741824 ≤ f_0.Base)) || decide (f_0.Serial < 0)) || decide (1099511627776 < f_0.Serial)) || decide (f_0.Done < 0)) rfl (fun hg16 => ?_) (fun hg16 => ?_)
  ·skip
   refine ops_no 23 false 34 rfl rfl rfl rfl rfl ?_
   refine ops_no 23 false 34 rfl rfl rfl rfl rfl ?_
   refine ops_no 23 false 34 rfl rfl rfl rfl rfl ?_
   refine ops_no 23 false 34 rfl rfl rfl rfl rfl ?_
   refine ops_no 23 false 34 rfl rfl rfl rfl rfl ?_
   refine ops_no 23 false 34 rfl rfl rfl rfl rfl ?_
   refine oy rfl rfl (y_pick (b := true) rfl rfl) ?_
   refine ops_nil ?_
   exact goes_cut hL15 true [0, 1, 2] (qv2 rfl rfl) (by decide) rfl (by rw [hg16]; simp)
  ·skip
   refine ops_y (wg 23 false 34 rfl rfl rfl rfl) rfl (y_fieldAddr_box (sz := 0) Try.runUnderlying59 rfl Try.sizeOf3 rfl) ?_
   refine ops_y (wg 23 false 34 rfl rfl rfl rfl) rfl (y_load_box 2 Try.isAgg3 rfl rfl rfl) ?_
   refine ops_y (wg 23 false 34 rfl rfl rfl rfl) rfl (y_fieldAddr_box (sz := 0) Try.runUnderlying59 rfl Try.sizeOf56 rfl) ?_
   refine ops_y (wg 23 false 34 rfl rfl rfl rfl) rfl (y_load_box 2 Try.isAgg56 rfl rfl rfl) ?_
   refine ops_y (wg 23 false 34 rfl rfl rfl rfl) rfl (y_lenN 0 rfl Try.runUnderlying56 rfl rfl readsN_ro) ?_
   refine ops_y (wg 23 false 34 rfl rfl rfl rfl) rfl (y_gtr rfl rfl) ?_
   refine oy rfl rfl (y_pick (b := false) rfl rfl) ?_
   refine ops_nil ?_
   exact goes_cut hL15 (decide ((f_0.Stages.length : Int) < f_0.Done)) [0, 1, 2] (qv2 rfl rfl) (by decide) rfl (by rw [hg16]; simp)
 rintro _ rfl
 refine oy rfl rfl (y_move rfl) ?_
 obtain ⟨o18, h, ho19⟩ := bindJ_some h
 refine ops_cut 13 (Bool) (fun σ => [(1, boxP b1 0), (55, .bool σ)]) (fun σ => [nro f_0_Stagesv NC_L_int_35 f_0.Stages, ro f_0_Ordersv 4 (f_0.Orders.map S_api_Order.enc), box b1 [.int .i64 f_0.Base, .int .i64 f_0.Done, .int .i64 f_0.Serial, .bool f_0.Stopped, f_0_Stagesv, f_0_Ordersv]]) (fun σ => o18 = .go σ) (fun L20 hL21 => ?_) ?_
 ·refine ops_split 42 (((((decide (f_0.Base < 0) || decide (1073741824 ≤ f_0.Base)) || decide (f_0.Serial < 0)) || decide (1099511627776 < f_0.Serial)) || decide (f_0.Done < 0)) || decide ((f_0.Stages.length : Int) < f_0.Done)) rfl (fun hg22 => ?_) (fun hg22 => ?_)
  ·replace h := cond_t h hg22
   refine ops_no 31 false 42 rfl rfl rfl rfl rfl ?_
   refine ops_no 31 false 42 rfl rfl rfl rfl rfl ?_
   refine ops_no 31 false 42 rfl rfl rfl rfl rfl ?_
   refine ops_no 31 false 42 rfl rfl rfl rfl rfl ?_
   refine ops_no 31 false 42 rfl rfl rfl rfl rfl ?_
   refine ops_un 36 true 47 rfl rfl rfl rfl rfl ?_
   refine ops_un 36 true 47 rfl rfl rfl rfl rfl ?_
   refine ops_un 36 true 47 rfl rfl rfl rfl rfl ?_
   refine ops_un 36 true 47 rfl rfl rfl rfl rfl ?_
   refine ops_un 36 true 47 rfl rfl rfl rfl rfl ?_
   refine ops_un 36 true 47 rfl rfl rfl rfl rfl ?_
   refine ops_no 31 false 42 rfl rfl rfl rfl rfl ?_
   refine oy rfl rfl (y_pick (b := true) rfl rfl) ?_
   refine ops_nil ?_
   obtain rfl := some_eq h
   exact goes_cut hL21 true [0, 1, 2] (qv2 rfl rfl) (by decide) rfl rfl
  ·replace h := cond_f h hg22
   refine ops_y (wg 31 false 42 rfl rfl rfl rfl) rfl (y_fieldAddr_box (sz := 0) Try.runUnderlying59 rfl Try.sizeOf56 rfl) ?_
   refine ops_y (wg 31 false 42 rfl rfl rfl rfl) rfl (y_load_box 2 Try.isAgg56 rfl rfl rfl) ?_
   refine ops_y (wg 31 false 42 rfl rfl rfl rfl) rfl (y_lenN 0 rfl Try.runUnderlying56 rfl rfl readsN_ro) ?_
   refine ops_y (wg 31 false 42 rfl rfl rfl rfl) rfl (y_gtr rfl rfl) ?_
   refine ops_y (wg 31 false 42 rfl rfl rfl rfl) rfl (y_move rfl) ?_
   obtain ⟨o24, h, ho25⟩ := bindJ_some h
   refine ops_cut 7 (Bool) (fun σ => [(1, boxP b1 0), (42, .bool false), (54, .bool σ)]) (fun σ => [nro f_0_Stagesv NC_L_int_35 f_0.Stages, ro f_0_Ordersv 4 (f_0.Orders.map S_api_Order.enc), box b1 [.int .i64 f_0.Base, .int .i64 f_0.Done, .int .i64 f_0.Serial, .bool f_0.Stopped, f_0_Stagesv, f_0_Ordersv]]) (fun σ => o24 = .go σ) (fun L26 hL27 => ?_) ?_
   ·refine ops_split 47 (decide (0 < (f_0.Stages.length : Int))) rfl (fun hg28 => ?_) (fun hg28 => ?_)
    ·replace h := cond_t h hg28
     refine ops_y (wg 36 true 47 rfl rfl rfl rfl) rfl (y_fieldAddr_box (sz := 0) Try.runUnderlying59 rfl Try.sizeOf57 rfl) ?_
     refine ops_y (wg 36 true 47 rfl rfl rfl rfl) rfl (y_load_box 2 Try.isAgg57 rfl rfl rfl) ?_
     refine ops_y (wg 36 true 47 rfl rfl rfl rfl) rfl (y_fieldAddr_box (sz := 0) Try.runUnderlying59 rfl Try.sizeOf56 rfl) ?_
     refine ops_y (wg 36 true 47 rfl rfl rfl rfl) rfl (y_load_box 2 Try.isAgg56 rfl rfl rfl) ?_
     obtain ⟨r29, hr30, h⟩ := obind_some h
     refine ops_t (wg 36 true 47 rfl rfl rfl rfl) rfl (t_callx (vs := [f_0_Ordersv, f_0_Stagesv]) (cs := []) [(1, 0), (0, 0)] rfl Try.call64 rfl (topo_isParted_ok n f_0.Orders f_0.Stages f_0_Ordersv f_0_Stagesv hr30) (showsX_view 1 rfl views_ro (showsX_view 0 rfl views_nro showsX_nil)) rfl (.inl rfl)) ?_
     rintro _ _ ⟨_, ⟨rfl, rfl⟩, rfl⟩
     refine ops_y (wg 36 true 47 rfl rfl rfl rfl) rfl (y_not rfl) ?_
     refine ops_y (wg 31 false 42 rfl rfl rfl rfl) rfl (y_pick (b := true) rfl rfl) ?_
     refine ops_nil ?_
     obtain rfl := some_eq h
     exact goes_cut hL27 (!r29) [0, 1, 2] (qv3 rfl rfl rfl) (by decide) rfl rfl
    ·replace h := cond_f h hg28
     refine ops_no 36 true 47 rfl rfl rfl rfl rfl ?_
     refine ops_no 36 true 47 rfl rfl rfl rfl rfl ?_
     refine ops_no 36 true 47 rfl rfl rfl rfl rfl ?_
     refine ops_no 36 true 47 rfl rfl rfl rfl rfl ?_
     refine ops_no 36 true 47 rfl rfl rfl rfl rfl ?_
     refine ops_no 36 true 47 rfl rfl rfl rfl rfl ?_
     refine ops_y (wg 31 false 42 rfl rfl rfl rfl) rfl (y_pick (b := false) rfl rfl) ?_
     refine ops_nil ?_
     obtain rfl := some_eq h
     exact goes_cut hL27 false [0, 1, 2] (qv3 rfl rfl rfl) (by decide) rfl rfl
   rintro b23 hj
   obtain rfl : o24 = _ := hj
   replace h := after_go ho25
   clear ho25
   refine oy rfl rfl (y_pick (b := false) rfl rfl) ?_
   refine ops_nil ?_
   obtain rfl := some_eq h
   exact goes_cut hL21 b23 [0, 1, 2] (qv2 rfl rfl) (by decide) rfl rfl
 rintro b17 hj
 obtain rfl : o18 = _ := hj
 replace h := after_go ho19
 clear ho19
 refine ops_nil ?_
 refine goes_code ?_
 refine run_cond b17 rfl (fun hc31 => ?_) (fun hc31 => ?_)
 ·replace h := cond_t h hc31
  refine run_seq ?_
  refine run_region' ?_
  refine oy rfl rfl (y_assign rfl) ?_
  refine ops_nil ?_
  refine goes_code ?_
  refine run_ret ?_
  obtain rfl := some_eq h
  refine fin_slots [2] [.bool false] [] [] Try.results51 rfl (by decide) rfl ?_
  exact ⟨rfl, rfl⟩
 ·replace h := cond_f h hc31
  refine run_skip ?_
  refine goes_code ?_
  refine run_seq ?_
  refine run_region' ?_
  refine oy rfl rfl (y_fieldAddr_box (sz := 0) Try.runUnderlying59 rfl Try.sizeOf56 rfl) ?_
  refine oy rfl rfl (y_load_box 2 Try.isAgg56 rfl rfl rfl) ?_
  obtain ⟨r32, hr33, h⟩ := obind_some h
  refine ot rfl rfl (t_callx (vs := [f_0_Stagesv]) (cs := []) [(0, 0)] rfl Try.call70 rfl (topo_stageOf_ok n f_0.Stages f_0_Stagesv hr33) (showsX_view 0 rfl views_nro showsX_nil) rfl (.inl rfl)) ?_
  rintro _ _ ⟨_, ⟨v34, rfl, rfl⟩, rfl⟩
  refine oy rfl rfl (y_move rfl) ?_
  refine oy rfl rfl (y_extract rfl rfl) ?_
  refine oy rfl rfl (y_extract rfl rfl) ?_
  refine oy rfl rfl (y_assign rfl) ?_
  refine oy rfl rfl (y_assign rfl) ?_
  refine ops_nil ?_
  refine goes_code ?_
  refine run_seq ?_
  refine run_weak [(1, boxP b1 0), (3, .map (some v34))] [0, 1, 2, 3] [nro f_0_Stagesv NC_L_int_35 f_0.Stages, ro f_0_Ordersv 4 (f_0.Orders.map S_api_Order.enc), box b1 [.int .i64 f_0.Base, .int .i64 f_0.Done, .int .i64 f_0.Serial, .bool f_0.Stopped, f_0_Stagesv, f_0_Ordersv], mapis v34 (mcells (fun n : Int => Value.int .i64 n) (fun n : Int => Value.int .i64 n) r32.1)] (qv2 rfl rfl) (by decide) rfl ?_
  refine run_region' ?_
  refine oy rfl rfl (y_assign rfl) ?_
  refine ops_nil ?_
  refine goes_code ?_
  obtain ⟨o35, h, ho36⟩ := bindJ_some h
  refine run_cut ((Unit) × (Unit)) (fun σ => []) (fun σ => []) (fun σ => o35 = .go σ.1) (fun L38 hL37 => ?_) ?_
  ·
   refine run_seq ?_
   refine run_region' ?_
   refine oy rfl rfl (y_fieldAddr_box (sz := 0) Try.runUnderlying59 rfl Try.sizeOf57 rfl) ?_
   refine oy rfl rfl (y_load_box 2 Try.isAgg57 rfl rfl rfl) ?_
   refine oy rfl rfl ((y_len 1 rfl Try.runUnderlying57 rfl rfl reads_ro).to (v_len S_api_Order.enc _)) ?_
   refine oy rfl rfl (y_move rfl) ?_
   refine ops_nil ?_
   refine goes_code ?_
   refine run_block ?_
   refine run_iter (step := topo_ValidFleet_L1 f_0 r32) (n := n) (s0 := ((-1), 0)) h (G := Unit) () (fun σ γ => [(1, boxP b1 0), (3, .map (some v34)), (5, .int .i64 σ.1), (63, f_0_Ordersv), (64, .int .i64 (f_0.Orders.length : Int)), (65, .int .i64 σ.2)]) (fun σ γ => [box b1 [.int .i64 f_0.Base, .int .i64 f_0.Done, .int .i64 f_0.Serial, .bool f_0.Stopped, f_0_Stagesv, f_0_Ordersv], nro f_0_Stagesv NC_L_int_35 f_0.Stages, ro f_0_Ordersv 4 (f_0.Orders.map S_api_Order.enc), mapis v34 (mcells (fun n : Int => Value.int .i64 n) (fun n : Int => Value.int .i64 n) r32.1)]) [2, 0, 1, 3] (qv6 rfl rfl rfl rfl rfl rfl) (by decide) rfl ?_
   rintro ⟨last_39, s_40⟩ _ o41 h L44 hgo42 hstop43
   change Run _ _ _ (VF.of [(1, boxP b1 0), (3, .map (some v34)), (5, .int .i64 last_39), (63, f_0_Ordersv), (64, .int .i64 (f_0.Orders.length : Int)), (65, .int .i64 s_40)]) [box b1 [.int .i64 f_0.Base, .int .i64 f_0.Done, .int .i64 f_0.Serial, .bool f_0.Stopped, f_0_Stagesv, f_0_Ordersv], nro f_0_Stagesv NC_L_int_35 f_0.Stages, ro f_0_Ordersv 4 (f_0.Orders.map S_api_Order.enc), mapis v34 (mcells (fun n : Int => Value.int .i64 n) (fun n : Int => Value.int .i64 n) r32.1)]
   refine run_seq ?_
   refine run_region' ?_
   refine oy rfl rfl (y_lss rfl rfl) ?_
   refine ops_nil ?_
   refine goes_code ?_
   refine run_seq ?_
   refine run_cond (decide (s_40 < (f_0.Orders.length : Int))) rfl (fun hc45 => ?_) (fun hc45 => ?_)
   ·replace h := cond_t h hc45
    refine run_skip ?_
    refine goes_code ?_
    refine run_seq ?_
    refine run_block ?_
    refine run_seq ?_
    refine run_region' ?_
    obtain ⟨x46, hzx46, hlx46, hxx46, h⟩ := idx_some h
    refine oy rfl rfl (y_indexAddrI (kd := .i64) (i := s_40) 2 Try.runUnderlying57 Try.sizeOf108 rfl rfl rfl reads_ro hzx46 (map_lt hlx46)) ?_
    refine oy rfl rfl (y_load_agg (i := s_40.toNat) (c := [.int .i64 x46.Site, .int .i64 x46.Version, .int .i64 x46.Serial, .int .i64 x46.Heard]) 2 Try.isAgg108 Try.sizeOf108 rfl rfl reads_ro (map_get hxx46)) ?_
    refine ot rfl rfl (t_alloc Try.zeroValue108) ?_
    rintro _ _ ⟨b47, rfl, rfl⟩
    refine ot rfl rfl (t_store 4 Try.sizeOf108 rfl rfl rfl rfl (by simp [Value.cells, boxP]) (by simp [Value.cells, Value.oneCell', boxP])) ?_
    rintro _ _ ⟨rfl, rfl⟩
    refine ops_turn (retell 4 (g := box b47 [.int .i64 x46.Site, .int .i64 x46.Version, .int .i64 x46.Serial, .int .i64 x46.Heard]) rfl rfl) ?_
    refine ops_nil ?_
    refine goes_code ?_
    refine run_seq ?_
    refine run_region' ?_
    refine oy rfl rfl (y_fieldAddr_box (sz := 0) Try.runUnderlying59 rfl Try.sizeOf3 rfl) ?_
    refine oy rfl rfl (y_load_box 0 Try.isAgg3 rfl rfl rfl) ?_
    refine oy rfl rfl (y_assign rfl) ?_
    refine ops_nil ?_
    refine goes_code ?_
    obtain ⟨o49, h, ho50⟩ := bindJ_some h
    refine run_cut ((Int) × (Unit)) (fun σ => [(1, boxP b1 0), (3, .map (some v34)), (5, .int .i64 last_39), (7, boxP b47 0), (8, .int .i64 σ.1), (63, f_0_Ordersv), (64, .int .i64 (f_0.Orders.length : Int)), (65, .int .i64 s_40)]) (fun σ => [box b1 [.int .i64 f_0.Base, .int .i64 f_0.Done, .int .i64 f_0.Serial, .bool f_0.Stopped, f_0_Stagesv, f_0_Ordersv], nro f_0_Stagesv NC_L_int_35 f_0.Stages, ro f_0_Ordersv 4 (f_0.Orders.map S_api_Order.enc), mapis v34 (mcells (fun n : Int => Value.int .i64 n) (fun n : Int => Value.int .i64 n) r32.1), box b47 [.int .i64 x46.Site, .int .i64 x46.Version, .int .i64 x46.Serial, .int .i64 x46.Heard]]) (fun σ => o49 = .go σ.1) (fun L52 hL51 => ?_) ?_
    ·
     refine run_seq ?_
     refine run_weak [(1, boxP b1 0), (3, .map (some v34)), (5, .int .i64 last_39), (63, f_0_Ordersv), (64, .int .i64 (f_0.Orders.length : Int)), (65, .int .i64 s_40), (7, boxP b47 0), (8, .int .i64 f_0.Base)] [0, 1, 2, 3, 4] [box b1 [.int .i64 f_0.Base, .int .i64 f_0.Done, .int .i64 f_0.Serial, .bool f_0.Stopped, f_0_Stagesv, f_0_Ordersv], nro f_0_Stagesv NC_L_int_35 f_0.Stages, ro f_0_Ordersv 4 (f_0.Orders.map S_api_Order.enc), mapis v34 (mcells (fun n : Int => Value.int .i64 n) (fun n : Int => Value.int .i64 n) r32.1), box b47 [.int .i64 x46.Site, .int .i64 x46.Version, .int .i64 x46.Serial, .int .i64 x46.Heard]] (qv8 rfl rfl rfl rfl rfl rfl rfl rfl) (by decide) rfl ?_
     refine run_region' ?_
     refine oy rfl rfl (y_move rfl) ?_
     refine oy rfl rfl (y_fieldAddr_box (sz := 0) Try.runUnderlying108 rfl Try.sizeOf3 rfl) ?_
     refine oy rfl rfl (y_load_box 4 Try.isAgg3 rfl rfl rfl) ?_
     refine oy rfl rfl (y_lookup2 (k := x46.Site) (d0 := 0) 3 (key_int .i64) Try.runUnderlying85 Try.runUnderlying3 Try.zeroValue3 rfl rfl rfl) ?_
     refine oy rfl rfl (y_move rfl) ?_
     refine oy rfl rfl (y_extract rfl rfl) ?_
     refine oy rfl rfl (y_extract rfl rfl) ?_
     refine oy rfl rfl (y_assign rfl) ?_
     refine oy rfl rfl (y_assign rfl) ?_
     refine ops_nil ?_
     refine goes_code ?_
     refine run_seq ?_
     refine run_weak [(1, boxP b1 0), (3, .map (some v34)), (5, .int .i64 last_39), (63, f_0_Ordersv), (64, .int .i64 (f_0.Orders.length : Int)), (65, .int .i64 s_40), (7, boxP b47 0), (8, .int .i64 f_0.Base), (9, .int .i64 ((mget r32.1 x46.Site).getD 0)), (10, .bool ((mget r32.1 x46.Site).isSome))] [0, 1, 2, 3, 4] [box b1 [.int .i64 f_0.Base, .int .i64 f_0.Done, .int .i64 f_0.Serial, .bool f_0.Stopped, f_0_Stagesv, f_0_Ordersv], nro f_0_Stagesv NC_L_int_35 f_0.Stages, ro f_0_Ordersv 4 (f_0.Orders.map S_api_Order.enc), mapis v34 (mcells (fun n : Int => Value.int .i64 n) (fun n : Int => Value.int .i64 n) r32.1), box b47 [.int .i64 x46.Site, .int .i64 x46.Version, .int .i64 x46.Serial, .int .i64 x46.Heard]] (qv10 rfl rfl rfl rfl rfl rfl rfl rfl rfl rfl) (by decide) rfl ?_
     refine run_region' ?_
     refine oy rfl rfl (y_move rfl) ?_
     refine oy rfl rfl (y_move rfl) ?_
     refine ops_cut 5 (Bool) (fun σ => [(1, boxP b1 0), (3, .map (some v34)), (5, .int .i64 last_39), (63, f_0_Ordersv), (64, .int .i64 (f_0.Orders.length : Int)), (65, .int .i64 s_40), (7, boxP b47 0), (8, .int .i64 f_0.Base), (84, .bool σ)]) (fun σ => [box b1 [.int .i64 f_0.Base, .int .i64 f_0.Done, .int .i64 f_0.Serial, .bool f_0.Stopped, f_0_Stagesv, f_0_Ordersv], nro f_0_Stagesv NC_L_int_35 f_0.Stages, ro f_0_Ordersv 4 (f_0.Orders.map S_api_Order.enc), mapis v34 (mcells (fun n : Int => Value.int .i64 n) (fun n : Int => Value.int .i64 n) r32.1), box b47 [.int .i64 x46.Site, .int .i64 x46.Version, .int .i64 x46.Serial, .int .i64 x46.Heard]]) (fun σ => σ = ((mget r32.1 x46.Site).isSome && decide (((mget r32.1 x46.Site).getD 0) < f_0.Done))) (fun L53 hL54 => ?_) ?_
     ·refine ops_split 79 ((mget r32.1 x46.Site).isSome) rfl (fun hg55 => ?_) (fun hg55 => ?_)
      ·skip
       refine ops_y (wg 1 true 79 rfl rfl rfl rfl) rfl (y_move rfl) ?_
       refine ops_y (wg 1 true 79 rfl rfl rfl rfl) rfl (y_fieldAddr_box (sz := 0) Try.runUnderlying59 rfl Try.sizeOf3 rfl) ?_
       refine ops_y (wg 1 true 79 rfl rfl rfl rfl) rfl (y_load_box 0 Try.isAgg3 rfl rfl rfl) ?_
       refine ops_y (wg 1 true 79 rfl rfl rfl rfl) rfl (y_lss rfl rfl) ?_
       refine oy rfl rfl (y_pick (b := true) rfl rfl) ?_
       refine ops_nil ?_
       exact goes_cut hL54 (decide (((mget r32.1 x46.Site).getD 0) < f_0.Done)) [0, 1, 2, 3, 4] (qv9 rfl rfl rfl rfl rfl rfl rfl rfl rfl) (by decide) rfl (by rw [hg55]; simp)
      ·skip
       refine ops_no 1 true 79 rfl rfl rfl rfl rfl ?_
       refine ops_no 1 true 79 rfl rfl rfl rfl rfl ?_
       refine ops_no 1 true 79 rfl rfl rfl rfl rfl ?_
       refine ops_no 1 true 79 rfl rfl rfl rfl rfl ?_
       refine oy rfl rfl (y_pick (b := false) rfl rfl) ?_
       refine ops_nil ?_
       exact goes_cut hL54 false [0, 1, 2, 3, 4] (qv9 rfl rfl rfl rfl rfl rfl rfl rfl rfl) (by decide) rfl (by rw [hg55]; simp)
     rintro _ rfl
     refine ops_nil ?_
     refine goes_code ?_
     refine run_cond ((mget r32.1 x46.Site).isSome && decide (((mget r32.1 x46.Site).getD 0) < f_0.Done)) rfl (fun hc56 => ?_) (fun hc56 => ?_)
     ·replace h := cond_t h hc56
      refine run_region' ?_
      refine oy rfl rfl (y_move rfl) ?_
      refine oy rfl rfl (y_add rfl rfl) ?_
      refine oy rfl rfl (y_assign rfl) ?_
      refine ops_nil ?_
      obtain rfl := some_eq h
      exact goes_cut hL51 ((IntKind.i64.wrap (f_0.Base + 1)), ()) [0, 1, 2, 3, 4] (qv8 rfl rfl rfl rfl rfl rfl rfl rfl) (by decide) rfl rfl
     ·replace h := cond_f h hc56
      refine run_skip ?_
      obtain rfl := some_eq h
      exact goes_cut hL51 (f_0.Base, ()) [0, 1, 2, 3, 4] (qv8 rfl rfl rfl rfl rfl rfl rfl rfl) (by decide) rfl rfl
    rintro ⟨version_48, _⟩ hj
    obtain rfl : o49 = _ := hj
    replace h := after_go ho50
    clear ho50
    change Run _ _ _ (VF.of [(1, boxP b1 0), (3, .map (some v34)), (5, .int .i64 last_39), (7, boxP b47 0), (8, .int .i64 version_48), (63, f_0_Ordersv), (64, .int .i64 (f_0.Orders.length : Int)), (65, .int .i64 s_40)]) [box b1 [.int .i64 f_0.Base, .int .i64 f_0.Done, .int .i64 f_0.Serial, .bool f_0.Stopped, f_0_Stagesv, f_0_Ordersv], nro f_0_Stagesv NC_L_int_35 f_0.Stages, ro f_0_Ordersv 4 (f_0.Orders.map S_api_Order.enc), mapis v34 (mcells (fun n : Int => Value.int .i64 n) (fun n : Int => Value.int .i64 n) r32.1), box b47 [.int .i64 x46.Site, .int .i64 x46.Version, .int .i64 x46.Serial, .int .i64 x46.Heard]]
    refine run_seq ?_
    refine run_seq ?_
    refine run_region' ?_
    refine oy rfl rfl (y_fieldAddr_box (sz := 0) Try.runUnderlying108 rfl Try.sizeOf3 rfl) ?_
    refine oy rfl rfl (y_load_box 4 Try.isAgg3 rfl rfl rfl) ?_
    obtain ⟨r57, hr58, h⟩ := obind_some h
    refine ot rfl rfl (t_callx (vs := [.int .i64 x46.Site]) (cs := []) [] rfl Try.call42 rfl (topo_isSite_ok x46.Site  hr58) showsX_nil rfl (.inl rfl)) ?_
    rintro _ _ ⟨_, ⟨rfl, rfl⟩, rfl⟩
    refine oy rfl rfl (y_not rfl) ?_
    refine oy rfl rfl (y_move rfl) ?_
    refine ops_cut 5 (Bool) (fun σ => [(1, boxP b1 0), (3, .map (some v34)), (7, boxP b47 0), (8, .int .i64 version_48), (63, f_0_Ordersv), (64, .int .i64 (f_0.Orders.length : Int)), (65, .int .i64 s_40), (96, .bool σ)]) (fun σ => [box b1 [.int .i64 f_0.Base, .int .i64 f_0.Done, .int .i64 f_0.Serial, .bool f_0.Stopped, f_0_Stagesv, f_0_Ordersv], nro f_0_Stagesv NC_L_int_35 f_0.Stages, ro f_0_Ordersv 4 (f_0.Orders.map S_api_Order.enc), mapis v34 (mcells (fun n : Int => Value.int .i64 n) (fun n : Int => Value.int .i64 n) r32.1), box b47 [.int .i64 x46.Site, .int .i64 x46.Version, .int .i64 x46.Serial, .int .i64 x46.Heard]]) (fun σ => σ = ((!r57) || decide (x46.Site ≤ last_39))) (fun L59 hL60 => ?_) ?_
    ·refine ops_split 91 (!r57) rfl (fun hg61 => ?_) (fun hg61 => ?_)
     ·skip
      refine ops_no 4 false 91 rfl rfl rfl rfl rfl ?_
      refine ops_no 4 false 91 rfl rfl rfl rfl rfl ?_
      refine ops_no 4 false 91 rfl rfl rfl rfl rfl ?_
      refine ops_no 4 false 91 rfl rfl rfl rfl rfl ?_
      refine oy rfl rfl (y_pick (b := true) rfl rfl) ?_
      refine ops_nil ?_
      exact goes_cut hL60 true [0, 1, 2, 3, 4] (qv8 rfl rfl rfl rfl rfl rfl rfl rfl) (by decide) rfl (by rw [hg61]; simp)
     ·skip
      refine ops_y (wg 4 false 91 rfl rfl rfl rfl) rfl (y_fieldAddr_box (sz := 0) Try.runUnderlying108 rfl Try.sizeOf3 rfl) ?_
      refine ops_y (wg 4 false 91 rfl rfl rfl rfl) rfl (y_load_box 4 Try.isAgg3 rfl rfl rfl) ?_
      refine ops_y (wg 4 false 91 rfl rfl rfl rfl) rfl (y_move rfl) ?_
      refine ops_y (wg 4 false 91 rfl rfl rfl rfl) rfl (y_leq rfl rfl) ?_
      refine oy rfl rfl (y_pick (b := false) rfl rfl) ?_
      refine ops_nil ?_
      exact goes_cut hL60 (decide (x46.Site ≤ last_39)) [0, 1, 2, 3, 4] (qv8 rfl rfl rfl rfl rfl rfl rfl rfl) (by decide) rfl (by rw [hg61]; simp)
    rintro _ rfl
    refine oy rfl rfl (y_move rfl) ?_
    refine ops_cut 4 (Bool) (fun σ => [(1, boxP b1 0), (3, .map (some v34)), (7, boxP b47 0), (8, .int .i64 version_48), (63, f_0_Ordersv), (64, .int .i64 (f_0.Orders.length : Int)), (65, .int .i64 s_40), (101, .bool σ)]) (fun σ => [box b1 [.int .i64 f_0.Base, .int .i64 f_0.Done, .int .i64 f_0.Serial, .bool f_0.Stopped, f_0_Stagesv, f_0_Ordersv], nro f_0_Stagesv NC_L_int_35 f_0.Stages, ro f_0_Ordersv 4 (f_0.Orders.map S_api_Order.enc), mapis v34 (mcells (fun n : Int => Value.int .i64 n) (fun n : Int => Value.int .i64 n) r32.1), box b47 [.int .i64 x46.Site, .int .i64 x46.Version, .int .i64 x46.Serial, .int .i64 x46.Heard]]) (fun σ => σ = (((!r57) || decide (x46.Site ≤ last_39)) || decide (x46.Serial < 0))) (fun L62 hL63 => ?_) ?_
    ·refine ops_split 97 ((!r57) || decide (x46.Site ≤ last_39)) rfl (fun hg64 => ?_) (fun hg64 => ?_)
     ·skip
      refine ops_no 10 false 97 rfl rfl rfl rfl rfl ?_
      refine ops_no 10 false 97 rfl rfl rfl rfl rfl ?_
      refine ops_no 10 false 97 rfl rfl rfl rfl rfl ?_
      refine oy rfl rfl (y_pick (b := true) rfl rfl) ?_
      refine ops_nil ?_
      exact goes_cut hL63 true [0, 1, 2, 3, 4] (qv8 rfl rfl rfl rfl rfl rfl rfl rfl) (by decide) rfl (by rw [hg64]; simp)
     ·skip
      refine ops_y (wg 10 false 97 rfl rfl rfl rfl) rfl (y_fieldAddr_box (sz := 0) Try.runUnderlying108 rfl Try.sizeOf3 rfl) ?_
      refine ops_y (wg 10 false 97 rfl rfl rfl rfl) rfl (y_load_box 4 Try.isAgg3 rfl rfl rfl) ?_
      refine ops_y (wg 10 false 97 rfl rfl rfl rfl) rfl (y_lss rfl rfl) ?_
      refine oy rfl rfl (y_pick (b := false) rfl rfl) ?_
      refine ops_nil ?_
      exact goes_cut hL63 (decide (x46.Serial < 0)) [0, 1, 2, 3, 4] (qv8 rfl rfl rfl rfl rfl rfl rfl rfl) (by decide) rfl (by rw [hg64]; simp)
    rintro _ rfl
    refine oy rfl rfl (y_move rfl) ?_
    refine ops_cut 6 (Bool) (fun σ => [(1, boxP b1 0), (3, .map (some v34)), (7, boxP b47 0), (8, .int .i64 version_48), (63, f_0_Ordersv), (64, .int .i64 (f_0.Orders.length : Int)), (65, .int .i64 s_40), (108, .bool σ)]) (fun σ => [box b1 [.int .i64 f_0.Base, .int .i64 f_0.Done, .int .i64 f_0.Serial, .bool f_0.Stopped, f_0_Stagesv, f_0_Ordersv], nro f_0_Stagesv NC_L_int_35 f_0.Stages, ro f_0_Ordersv 4 (f_0.Orders.map S_api_Order.enc), mapis v34 (mcells (fun n : Int => Value.int .i64 n) (fun n : Int => Value.int .i64 n) r32.1), box b47 [.int .i64 x46.Site, .int .i64 x46.Version, .int .i64 x46.Serial, .int .i64 x46.Heard]]) (fun σ => σ = ((((!r57) || decide (x46.Site ≤ last_39)) || decide (x46.Serial < 0)) || decide (f_0.Serial < x46.Serial))) (fun L65 hL66 => ?_) ?_
    ·refine ops_split 102 (((!r57) || decide (x46.Site ≤ last_39)) || decide (x46.Serial < 0)) rfl (fun hg67 => ?_) (fun hg67 => ?_)
     ·skip
      refine ops_no 15 false 102 rfl rfl rfl rfl rfl ?_
      refine ops_no 15 false 102 rfl rfl rfl rfl rfl ?_
      refine ops_no 15 false 102 rfl rfl rfl rfl rfl ?_
      refine ops_no 15 false 102 rfl rfl rfl rfl rfl ?_
      refine ops_no 15 false 102 rfl rfl rfl rfl rfl ?_
      refine oy rfl rfl (y_pick (b := true) rfl rfl) ?_
      refine ops_nil ?_
      exact goes_cut hL66 true [0, 1, 2, 3, 4] (qv8 rfl rfl rfl rfl rfl rfl rfl rfl) (by decide) rfl (by rw [hg67]; simp)
     ·skip
      refine ops_y (wg 15 false 102 rfl rfl rfl rfl) rfl (y_fieldAddr_box (sz := 0) Try.runUnderlying108 rfl Try.sizeOf3 rfl) ?_
      refine ops_y (wg 15 false 102 rfl rfl rfl rfl) rfl (y_load_box 4 Try.isAgg3 rfl rfl rfl) ?_
      refine ops_y (wg 15 false 102 rfl rfl rfl rfl) rfl (y_fieldAddr_box (sz := 0) Try.runUnderlying59 rfl Try.sizeOf3 rfl) ?_
      refine ops_y (wg 15 false 102 rfl rfl rfl rfl) rfl (y_load_box 0 Try.isAgg3 rfl rfl rfl) ?_
      refine ops_y (wg 15 false 102 rfl rfl rfl rfl) rfl (y_gtr rfl rfl) ?_
      refine oy rfl rfl (y_pick (b := false) rfl rfl) ?_
      refine ops_nil ?_
      exact goes_cut hL66 (decide (f_0.Serial < x46.Serial)) [0, 1, 2, 3, 4] (qv8 rfl rfl rfl rfl rfl rfl rfl rfl) (by decide) rfl (by rw [hg67]; simp)
    rintro _ rfl
    refine oy rfl rfl (y_move rfl) ?_
    refine ops_cut 4 (Bool) (fun σ => [(1, boxP b1 0), (3, .map (some v34)), (7, boxP b47 0), (8, .int .i64 version_48), (63, f_0_Ordersv), (64, .int .i64 (f_0.Orders.length : Int)), (65, .int .i64 s_40), (113, .bool σ)]) (fun σ => [box b1 [.int .i64 f_0.Base, .int .i64 f_0.Done, .int .i64 f_0.Serial, .bool f_0.Stopped, f_0_Stagesv, f_0_Ordersv], nro f_0_Stagesv NC_L_int_35 f_0.Stages, ro f_0_Ordersv 4 (f_0.Orders.map S_api_Order.enc), mapis v34 (mcells (fun n : Int => Value.int .i64 n) (fun n : Int => Value.int .i64 n) r32.1), box b47 [.int .i64 x46.Site, .int .i64 x46.Version, .int .i64 x46.Serial, .int .i64 x46.Heard]]) (fun σ => σ = (((((!r57) || decide (x46.Site ≤ last_39)) || decide (x46.Serial < 0)) || decide (f_0.Serial < x46.Serial)) || decide (x46.Heard < 0))) (fun L68 hL69 => ?_) ?_
    ·refine ops_split 109 ((((!r57) || decide (x46.Site ≤ last_39)) || decide (x46.Serial < 0)) || decide (f_0.Serial < x46.Serial)) rfl (fun hg70 => ?_) (fun hg70 => ?_)
     ·skip
      refine ops_no 22 false 109 rfl rfl rfl rfl rfl ?_
      refine ops_no 22 false 109 rfl rfl rfl rfl rfl ?_
      refine ops_no 22 false 109 rfl rfl rfl rfl rfl ?_
      refine oy rfl rfl (y_pick (b := true) rfl rfl) ?_
      refine ops_nil ?_
      exact goes_cut hL69 true [0, 1, 2, 3, 4] (qv8 rfl rfl rfl rfl rfl rfl rfl rfl) (by decide) rfl (by rw [hg70]; simp)
     ·skip
      refine ops_y (wg 22 false 109 rfl rfl rfl rfl) rfl (y_fieldAddr_box (sz := 0) Try.runUnderlying108 rfl Try.sizeOf3 rfl) ?_
      refine ops_y (wg 22 false 109 rfl rfl rfl rfl) rfl (y_load_box 4 Try.isAgg3 rfl rfl rfl) ?_
      refine ops_y (wg 22 false 109 rfl rfl rfl rfl) rfl (y_lss rfl rfl) ?_
      refine oy rfl rfl (y_pick (b := false) rfl rfl) ?_
      refine ops_nil ?_
      exact goes_cut hL69 (decide (x46.Heard < 0)) [0, 1, 2, 3, 4] (qv8 rfl rfl rfl rfl rfl rfl rfl rfl) (by decide) rfl (by rw [hg70]; simp)
    rintro _ rfl
    refine oy rfl rfl (y_move rfl) ?_
    refine ops_cut 6 (Bool) (fun σ => [(1, boxP b1 0), (3, .map (some v34)), (7, boxP b47 0), (8, .int .i64 version_48), (63, f_0_Ordersv), (64, .int .i64 (f_0.Orders.length : Int)), (65, .int .i64 s_40), (120, .bool σ)]) (fun σ => [box b1 [.int .i64 f_0.Base, .int .i64 f_0.Done, .int .i64 f_0.Serial, .bool f_0.Stopped, f_0_Stagesv, f_0_Ordersv], nro f_0_Stagesv NC_L_int_35 f_0.Stages, ro f_0_Ordersv 4 (f_0.Orders.map S_api_Order.enc), mapis v34 (mcells (fun n : Int => Value.int .i64 n) (fun n : Int => Value.int .i64 n) r32.1), box b47 [.int .i64 x46.Site, .int .i64 x46.Version, .int .i64 x46.Serial, .int .i64 x46.Heard]]) (fun σ => σ = ((((((!r57) || decide (x46.Site ≤ last_39)) || decide (x46.Serial < 0)) || decide (f_0.Serial < x46.Serial)) || decide (x46.Heard < 0)) || decide (x46.Serial < x46.Heard))) (fun L71 hL72 => ?_) ?_
    ·refine ops_split 114 (((((!r57) || decide (x46.Site ≤ last_39)) || decide (x46.Serial < 0)) || decide (f_0.Serial < x46.Serial)) || decide (x46.Heard < 0)) rfl (fun hg73 => ?_) (fun hg73 => ?_)
     ·skip
      refine ops_no 27 false 114 rfl rfl rfl rfl rfl ?_
      refine ops_no 27 false 114 rfl rfl rfl rfl rfl ?_
      refine ops_no 27 false 114 rfl rfl rfl rfl rfl ?_
      refine ops_no 27 false 114 rfl rfl rfl rfl rfl ?_
      refine ops_no 27 false 114 rfl rfl rfl rfl rfl ?_
      refine oy rfl rfl (y_pick (b := true) rfl rfl) ?_
      refine ops_nil ?_
      exact goes_cut hL72 true [0, 1, 2, 3, 4] (qv8 rfl rfl rfl rfl rfl rfl rfl rfl) (by decide) rfl (by rw [hg73]; simp)
     ·skip
      refine ops_y (wg 27 false 114 rfl rfl rfl rfl) rfl (y_fieldAddr_box (sz := 0) Try.runUnderlying108 rfl Try.sizeOf3 rfl) ?_
      refine ops_y (wg 27 false 114 rfl rfl rfl rfl) rfl (y_load_box 4 Try.isAgg3 rfl rfl rfl) ?_
      refine ops_y (wg 27 false 114 rfl rfl rfl rfl) rfl (y_fieldAddr_box (sz := 0) Try.runUnderlying108 rfl Try.sizeOf3 rfl) ?_
      refine ops_y (wg 27 false 114 rfl rfl rfl rfl) rfl (y_load_box 4 Try.isAgg3 rfl rfl rfl) ?_
      refine ops_y (wg 27 false 114 rfl rfl rfl rfl) rfl (y_gtr rfl rfl) ?_
      refine oy rfl rfl (y_pick (b := false) rfl rfl) ?_
      refine ops_nil ?_
      exact goes_cut hL72 (decide (x46.Serial < x46.Heard)) [0, 1, 2, 3, 4] (qv8 rfl rfl rfl rfl rfl rfl rfl rfl) (by decide) rfl (by rw [hg73]; simp)
    rintro _ rfl
    refine oy rfl rfl (y_move rfl) ?_
    refine ops_cut 5 (Bool) (fun σ => [(1, boxP b1 0), (3, .map (some v34)), (7, boxP b47 0), (63, f_0_Ordersv), (64, .int .i64 (f_0.Orders.length : Int)), (65, .int .i64 s_40), (126, .bool σ)]) (fun σ => [box b1 [.int .i64 f_0.Base, .int .i64 f_0.Done, .int .i64 f_0.Serial, .bool f_0.Stopped, f_0_Stagesv, f_0_Ordersv], nro f_0_Stagesv NC_L_int_35 f_0.Stages, ro f_0_Ordersv 4 (f_0.Orders.map S_api_Order.enc), mapis v34 (mcells (fun n : Int => Value.int .i64 n) (fun n : Int => Value.int .i64 n) r32.1), box b47 [.int .i64 x46.Site, .int .i64 x46.Version, .int .i64 x46.Serial, .int .i64 x46.Heard]]) (fun σ => σ = (((((((!r57) || decide (x46.Site ≤ last_39)) || decide (x46.Serial < 0)) || decide (f_0.Serial < x46.Serial)) || decide (x46.Heard < 0)) || decide (x46.Serial < x46.Heard)) || decide (x46.Version ≠ version_48))) (fun L74 hL75 => ?_) ?_
    ·refine ops_split 121 ((((((!r57) || decide (x46.Site ≤ last_39)) || decide (x46.Serial < 0)) || decide (f_0.Serial < x46.Serial)) || decide (x46.Heard < 0)) || decide (x46.Serial < x46.Heard)) rfl (fun hg76 => ?_) (fun hg76 => ?_)
     ·skip
      refine ops_no 34 false 121 rfl rfl rfl rfl rfl ?_
      refine ops_no 34 false 121 rfl rfl rfl rfl rfl ?_
      refine ops_no 34 false 121 rfl rfl rfl rfl rfl ?_
      refine ops_no 34 false 121 rfl rfl rfl rfl rfl ?_
      refine oy rfl rfl (y_pick (b := true) rfl rfl) ?_
      refine ops_nil ?_
      exact goes_cut hL75 true [0, 1, 2, 3, 4] (qv7 rfl rfl rfl rfl rfl rfl rfl) (by decide) rfl (by rw [hg76]; simp)
     ·skip
      refine ops_y (wg 34 false 121 rfl rfl rfl rfl) rfl (y_fieldAddr_box (sz := 0) Try.runUnderlying108 rfl Try.sizeOf3 rfl) ?_
      refine ops_y (wg 34 false 121 rfl rfl rfl rfl) rfl (y_load_box 4 Try.isAgg3 rfl rfl rfl) ?_
      refine ops_y (wg 34 false 121 rfl rfl rfl rfl) rfl (y_move rfl) ?_
      refine ops_y (wg 34 false 121 rfl rfl rfl rfl) rfl (y_neq rfl rfl) ?_
      refine oy rfl rfl (y_pick (b := false) rfl rfl) ?_
      refine ops_nil ?_
      exact goes_cut hL75 (decide (x46.Version ≠ version_48)) [0, 1, 2, 3, 4] (qv7 rfl rfl rfl rfl rfl rfl rfl) (by decide) rfl (by rw [hg76]; simp)
    rintro _ rfl
    refine ops_nil ?_
    refine goes_code ?_
    refine run_cond (((((((!r57) || decide (x46.Site ≤ last_39)) || decide (x46.Serial < 0)) || decide (f_0.Serial < x46.Serial)) || decide (x46.Heard < 0)) || decide (x46.Serial < x46.Heard)) || decide (x46.Version ≠ version_48)) rfl (fun hc77 => ?_) (fun hc77 => ?_)
    ·replace h := cond_t h hc77
     refine run_seq ?_
     refine run_region' ?_
     refine oy rfl rfl (y_assign rfl) ?_
     refine ops_nil ?_
     refine goes_code ?_
     refine run_ret ?_
     obtain rfl := some_eq h
     obtain rfl := hstop43 _ rfl
     skip
     obtain rfl := after_stop ho36
     refine fin_slots [2] [.bool false] [] [] Try.results51 rfl (by decide) rfl ?_
     exact ⟨rfl, rfl⟩
    ·replace h := cond_f h hc77
     refine run_skip ?_
     refine goes_code ?_
     refine run_region' ?_
     refine oy rfl rfl (y_fieldAddr_box (sz := 0) Try.runUnderlying108 rfl Try.sizeOf3 rfl) ?_
     refine oy rfl rfl (y_load_box 4 Try.isAgg3 rfl rfl rfl) ?_
     refine oy rfl rfl (y_assign rfl) ?_
     refine ops_nil ?_
     refine goes_blk ?_
     refine goes_code ?_
     refine run_region' ?_
     refine oy rfl rfl (y_add rfl rfl) ?_
     refine oy rfl rfl (y_move rfl) ?_
     refine ops_nil ?_
     obtain rfl := some_eq h
     exact goes_iter hgo42 (x46.Site, (IntKind.i64.wrap (s_40 + 1))) () [0, 1, 2, 3] rfl (qv6 rfl rfl rfl rfl rfl rfl) (by decide) rfl
   ·replace h := cond_f h hc45
    refine run_exit _ rfl ?_
    obtain rfl := some_eq h
    obtain rfl := hstop43 _ rfl
    exact goes_cut hL37 ((), ()) [] vnil (by decide) rfl rfl
  rintro ⟨_, _⟩ hj
  obtain rfl : o35 = _ := hj
  replace h := after_go ho36
  clear ho36
  change Run _ _ _ (VF.of []) []
  refine run_seq ?_
  refine run_region' ?_
  refine oy rfl rfl (y_assign rfl) ?_
  refine ops_nil ?_
  refine goes_code ?_
  refine run_ret ?_
  obtain rfl := some_eq h
  refine fin_slots [2] [.bool true] [] [] Try.results51 rfl (by decide) rfl ?_
  exact ⟨rfl, rfl⟩

def slices_Clone_weirgate_api_Order_weirgate_api_Order_71 (s_0 : (List S_api_Order)) : Option ((List S_api_Order)) :=
 need (([] : List S_api_Order).length + s_0.length ≤ 4294967296) (
 some (([] : List S_api_Order) ++ s_0))
theorem slices_Clone_weirgate_api_Order_weirgate_api_Order_71_ok (s_0 : (List S_api_Order)) (s_0v : Value) {r : (List S_api_Order)} (h : slices_Clone_weirgate_api_Order_weirgate_api_Order_71 s_0 = some r) :
  Meets Try.prog 71 [s_0v] [ro s_0v 4 (s_0.map S_api_Order.enc)] (fun v G => ∃ v0, v = v0 ∧ G = [row v0 4 (r.map S_api_Order.enc)]) := by
 refine fn_of_run Try.func71 rfl Try.ntmps71 rfl (fun w0 o0 => ?_)
 refine run_seq ?_
 refine run_region' ?_
 refine oy rfl rfl (y_assign rfl) ?_
 refine ops_nil ?_
 refine goes_code ?_
 refine run_seq ?_
 refine run_seq ?_
 refine run_region' ?_
 refine oy rfl rfl (y_move rfl) ?_
 refine ot rfl rfl (t_isnil 0 Try.runUnderlying57 rfl rfl rfl reads_ro) ?_
 rintro _ _ ⟨b1, rfl, rfl, hb2⟩
 refine ops_nil ?_
 refine goes_code ?_
 refine run_cond b1 rfl (fun hc3 => ?_) (fun hc3 => ?_)
 ·obtain rfl : s_0 = [] := List.map_eq_nil_iff.1 (hb2 hc3)
  obtain ⟨_, h⟩ := need_some h
  refine run_seq ?_
  refine run_region' ?_
  refine oy rfl rfl (y_assign rfl) ?_
  refine ops_nil ?_
  refine goes_code ?_
  refine run_ret ?_
  refine fin_turn (nilrow 4) ?_
  refine fin_turn (retell 1 (g := row (.slice none 0 0) 4 (([] : List S_api_Order).map S_api_Order.enc)) rfl rfl) ?_
  obtain rfl := some_eq h
  refine fin_slots [2] [(.slice none 0 0)] [1] [row (.slice none 0 0) 4 (([] : List S_api_Order).map S_api_Order.enc)] Try.results71 rfl (by decide) rfl ?_
  exact ⟨_, rfl, rfl⟩
 ·skip
  refine run_skip ?_
  refine goes_code ?_
  refine run_seq ?_
  refine run_region' ?_
  refine ot rfl rfl (t_lit [] Try.runUnderlying57 Try.sizeOf108 Try.zeroValue108 rfl (by decide) (by decide) rfl (by simp [Value.cells, boxP])) ?_
  rintro v4 _ ⟨rfl, _⟩
  refine ops_turn (retell 1 (g := row v4 4 (([] : List S_api_Order).map S_api_Order.enc)) rfl rfl) ?_
  refine oy rfl rfl (y_move rfl) ?_
  obtain ⟨hr6, h⟩ := need_some h
  refine ot rfl rfl (t_append (es := 4) 1 rfl Try.runUnderlying57 rfl Try.runUnderlying57 (.inr ⟨_, rfl⟩) Try.typeInfo108 rfl (by decide) Try.zeroValue108 rfl rfl rfl rfl (src_reads 0 rfl reads_ro (map_ok S_api_Order.enc_ok _)) (map_room hr6 (by decide)) (map_fit hr6)) ?_
  rintro v5 _ rfl
  refine ops_turn (retell 1 (g := row v5 4 ((([] : List S_api_Order) ++ s_0).map S_api_Order.enc)) rfl (congrArg (row _ _) List.map_append.symm)) ?_
  refine oy rfl rfl (y_assign rfl) ?_
  refine ops_nil ?_
  refine goes_code ?_
  refine run_ret ?_
  obtain rfl := some_eq h
  refine fin_slots [2] [v5] [1] [row v5 4 ((([] : List S_api_Order) ++ s_0).map S_api_Order.enc)] Try.results71 rfl (by decide) rfl ?_
  exact ⟨_, rfl, rfl⟩

def topo_NewFleet_1_62 (a_0 : S_api_Fleet) : Option (Int) :=
 some 0
theorem topo_NewFleet_1_62_ok (a_0 : S_api_Fleet) (a_0b : Nat) (a_0_Stagesv : Value) (a_0_Ordersv : Value) {r : Int} (h : topo_NewFleet_1_62 a_0 = some r) :
  Meets Try.prog 62 [boxP a_0b 0] [nro a_0_Stagesv NC_L_int_35 a_0.Stages, row a_0_Ordersv 4 (a_0.Orders.map S_api_Order.enc), box a_0b [.int .i64 a_0.Base, .int .i64 a_0.Done, .int .i64 a_0.Serial, .bool a_0.Stopped, a_0_Stagesv, a_0_Ordersv]] (fun v G => v = .int .i64 r ∧ G = [row a_0_Ordersv 4 (a_0.Orders.map S_api_Order.enc), box a_0b [.int .i64 a_0.Base, .int .i64 a_0.Done, .int .i64 a_0.Serial, .bool a_0.Stopped, a_0_Stagesv, a_0_Ordersv]]) := by
 refine fn_of_run Try.func62 rfl Try.ntmps62 rfl (fun w0 o0 => ?_)
 refine run_seq ?_
 refine run_region' ?_
 refine oy rfl rfl (y_assign rfl) ?_
 refine ops_nil ?_
 refine goes_code ?_
 refine run_seq ?_
 refine run_region' ?_
 refine oy rfl rfl (y_assign rfl) ?_
 refine ops_nil ?_
 refine goes_code ?_
 refine run_ret ?_
 obtain rfl := some_eq h
 refine fin_slots [2] [.int .i64 0] [1, 2] [row a_0_Ordersv 4 (a_0.Orders.map S_api_Order.enc), box a_0b [.int .i64 a_0.Base, .int .i64 a_0.Done, .int .i64 a_0.Serial, .bool a_0.Stopped, a_0_Stagesv, a_0_Ordersv]] Try.results62 rfl (by decide) rfl ?_
 exact ⟨rfl, rfl⟩

def topo_change (n : Nat) (f_0 : S_api_Fleet) : Option (S_api_Fleet × Int) :=
 obind (topo_ValidFleet n f_0) fun r3 =>
 cond (!r3)
  (some ((S_api_Fleet.mk 0 0 0 false ([] : List (List Int)) ([] : List S_api_Order)), 1))
  (obind (slices_Clone_weirgate_api_Order_weirgate_api_Order_71 f_0.Orders) fun r6 =>
  obind (topo_NewFleet_1_62 (S_api_Fleet.mk f_0.Base f_0.Done f_0.Serial f_0.Stopped f_0.Stages r6)) fun r10 =>
  cond (decide (r10 ≠ 0))
   (some ((S_api_Fleet.mk 0 0 0 false ([] : List (List Int)) ([] : List S_api_Order)), r10))
   (some ((S_api_Fleet.mk ((S_api_Fleet.mk f_0.Base f_0.Done f_0.Serial f_0.Stopped f_0.Stages r6).Base) ((S_api_Fleet.mk f_0.Base f_0.Done f_0.Serial f_0.Stopped f_0.Stages r6).Done) ((S_api_Fleet.mk f_0.Base f_0.Done f_0.Serial f_0.Stopped f_0.Stages r6).Serial) ((S_api_Fleet.mk f_0.Base f_0.Done f_0.Serial f_0.Stopped f_0.Stages r6).Stopped) f_0.Stages ((S_api_Fleet.mk f_0.Base f_0.Done f_0.Serial f_0.Stopped f_0.Stages r6).Orders)), 0)))
theorem topo_change_ok (n : Nat) (f_0 : S_api_Fleet) (f_0_Stagesv : Value) (f_0_Ordersv : Value) {r : S_api_Fleet × Int} (h : topo_change n f_0 = some r) :
  Meets Try.prog 52 [.agg #[.int .i64 f_0.Base, .int .i64 f_0.Done, .int .i64 f_0.Serial, .bool f_0.Stopped, f_0_Stagesv, f_0_Ordersv], .func (.func 62) #[] #[]] [nro f_0_Stagesv NC_L_int_35 f_0.Stages, ro f_0_Ordersv 4 (f_0.Orders.map S_api_Order.enc)] (fun v G => ∃ v0 v1, v = .tuple #[.agg #[.int .i64 r.1.Base, .int .i64 r.1.Done, .int .i64 r.1.Serial, .bool r.1.Stopped, v0, v1], .int .i64 r.2] ∧ G = [nro v0 NC_L_int_35 r.1.Stages, row v1 4 (r.1.Orders.map S_api_Order.enc)]) := by
 refine fn_of_run Try.func52 rfl Try.ntmps52 rfl (fun w0 o0 => ?_)
 refine run_seq ?_
 refine run_region' ?_
 refine ot rfl rfl (t_box rfl) ?_
 rintro _ _ ⟨b1, rfl, rfl⟩
 refine ot rfl rfl (t_alloc Try.zeroValue59) ?_
 rintro _ _ ⟨b2, rfl, rfl⟩
 refine oy rfl rfl (y_assign rfl) ?_
 refine ops_nil ?_
 refine goes_code ?_
 refine run_seq ?_
 refine run_seq ?_
 refine run_region' ?_
 refine oy rfl rfl (y_load_boxagg (c := [.int .i64 f_0.Base, .int .i64 f_0.Done, .int .i64 f_0.Serial, .bool f_0.Stopped, f_0_Stagesv, f_0_Ordersv]) 2 Try.isAgg59 Try.sizeOf59 rfl rfl rfl) ?_
 obtain ⟨r3, hr4, h⟩ := obind_some h
 refine ot rfl rfl (t_callx (vs := [.agg #[.int .i64 f_0.Base, .int .i64 f_0.Done, .int .i64 f_0.Serial, .bool f_0.Stopped, f_0_Stagesv, f_0_Ordersv]]) (cs := []) [(0, 0), (1, 0)] rfl Try.call51 rfl (topo_ValidFleet_ok n f_0 f_0_Stagesv f_0_Ordersv hr4) (showsX_view 0 rfl views_nro (showsX_view 1 rfl views_ro showsX_nil)) rfl (.inl rfl)) ?_
 rintro _ _ ⟨_, ⟨rfl, rfl⟩, rfl⟩
 refine oy rfl rfl (y_not rfl) ?_
 refine ops_nil ?_
 refine goes_code ?_
 refine run_cond (!r3) rfl (fun hc5 => ?_) (fun hc5 => ?_)
 ·replace h := cond_t h hc5
  refine run_seq ?_
  refine run_region' ?_
  refine oy rfl rfl (y_build_struct (cells := #[.int .i64 0, .int .i64 0, .int .i64 0, .bool false, .slice none 0 0, .slice none 0 0]) [] [] Try.zeroValue59 Try.runUnderlying59 (fs_cons Try.sizeOf3 (fs_cons Try.sizeOf3 (fs_cons Try.sizeOf3 (fs_cons Try.sizeOf4 (fs_cons Try.sizeOf56 (fs_cons Try.sizeOf57 fs_nil)))))) rfl rfl rfl) ?_
  refine ot rfl rfl (t_store 3 Try.sizeOf59 rfl rfl rfl rfl (by simp [Value.cells, boxP]) (by simp [Value.cells, Value.oneCell', boxP])) ?_
  rintro _ _ ⟨rfl, rfl⟩
  refine ops_turn (retell 3 (g := box b2 [.int .i64 0, .int .i64 0, .int .i64 0, .bool false, .slice none 0 0, .slice none 0 0]) rfl rfl) ?_
  refine oy rfl rfl (y_assign rfl) ?_
  refine ops_nil ?_
  refine goes_code ?_
  refine run_ret ?_
  refine fin_turn (nilroN NC_L_int_35) ?_
  refine fin_turn (nilrow 4) ?_
  refine fin_turn (retell 5 (g := row (.slice none 0 0) 4 (([] : List S_api_Order).map S_api_Order.enc)) rfl rfl) ?_
  obtain rfl := some_eq h
  refine fin_res [.cell 4 59, .tmp 5] [.agg #[.int .i64 0, .int .i64 0, .int .i64 0, .bool false, (.slice none 0 0), (.slice none 0 0)], .int .i64 1] [4, 5] [nro (.slice none 0 0) NC_L_int_35 ([] : List (List Int)), row (.slice none 0 0) 4 (([] : List S_api_Order).map S_api_Order.enc)] Try.results52 rfl (rescons (res_box 3 Try.isAgg59 Try.sizeOf59 rfl rfl rfl) (rescons (res_tmp rfl) resnil)) (by decide) rfl ?_
  exact ⟨_, _, rfl, rfl⟩
 ·replace h := cond_f h hc5
  refine run_skip ?_
  refine goes_code ?_
  refine run_seq ?_
  refine run_region' ?_
  refine oy rfl rfl (y_fieldAddr_box (sz := 0) Try.runUnderlying59 rfl Try.sizeOf57 rfl) ?_
  refine oy rfl rfl (y_load_box 2 Try.isAgg57 rfl rfl rfl) ?_
  obtain ⟨r6, hr7, h⟩ := obind_some h
  refine ot rfl rfl (t_callx (vs := [f_0_Ordersv]) (cs := []) [(1, 0)] rfl Try.call71 rfl (slices_Clone_weirgate_api_Order_weirgate_api_Order_71_ok f_0.Orders f_0_Ordersv hr7) (showsX_view 1 rfl views_ro showsX_nil) rfl (.inl rfl)) ?_
  rintro v8 _ ⟨_, ⟨_, rfl, rfl⟩, rfl⟩
  refine oy rfl rfl (y_fieldAddr_box (sz := 0) Try.runUnderlying59 rfl Try.sizeOf57 rfl) ?_
  refine ops_slc 4 rfl reads_row (fun hs9 hs9o => ?_)
  refine ot rfl rfl (t_store 2 Try.sizeOf57 rfl rfl rfl (by rw [hs9]; rfl) (by simp [Value.cells, boxP]) (by rw [hs9]; exact allL_cons hs9o (allL_nil))) ?_
  rintro _ _ ⟨rfl, rfl⟩
  refine ops_turn (retell 2 (g := box b1 [.int .i64 f_0.Base, .int .i64 f_0.Done, .int .i64 f_0.Serial, .bool f_0.Stopped, f_0_Stagesv, v8]) rfl (by rw [hs9]; rfl)) ?_
  refine ops_nil ?_
  refine goes_code ?_
  refine run_seq ?_
  refine run_seq ?_
  refine run_weak [(1, .func (.func 62) #[] #[]), (2, boxP b1 0), (4, boxP b2 0)] [0, 2, 3, 4] [nro f_0_Stagesv NC_L_int_35 f_0.Stages, box b1 [.int .i64 f_0.Base, .int .i64 f_0.Done, .int .i64 f_0.Serial, .bool f_0.Stopped, f_0_Stagesv, v8], box b2 [.int .i64 0, .int .i64 0, .int .i64 0, .bool false, .slice none 0 0, .slice none 0 0], row v8 4 (r6.map S_api_Order.enc)] (qv3 rfl rfl rfl) (by decide) rfl ?_
  refine run_region' ?_
  refine oy rfl rfl (y_move rfl) ?_
  obtain ⟨r10, hr11, h⟩ := obind_some h
  refine ot rfl rfl (t_callx (vs := [boxP b1 0]) (cs := []) [(0, 0), (3, 2), (1, 2)] rfl Try.call62 rfl (topo_NewFleet_1_62_ok (S_api_Fleet.mk f_0.Base f_0.Done f_0.Serial f_0.Stopped f_0.Stages r6) b1 f_0_Stagesv v8 hr11) (showsX_view 0 rfl views_nro (showsX_lend 3 rfl (showsX_lend 1 rfl showsX_nil))) rfl (.inl rfl)) ?_
  rintro _ _ ⟨_, ⟨rfl, rfl⟩, rfl⟩
  refine oy rfl rfl (y_assign rfl) ?_
  refine ops_nil ?_
  refine goes_code ?_
  refine run_seq ?_
  refine run_region' ?_
  refine oy rfl rfl (y_move rfl) ?_
  refine oy rfl rfl (y_neq rfl rfl) ?_
  refine ops_nil ?_
  refine goes_code ?_
  refine run_cond (decide (r10 ≠ 0)) rfl (fun hc12 => ?_) (fun hc12 => ?_)
  ·replace h := cond_t h hc12
   refine run_seq ?_
   refine run_region' ?_
   refine oy rfl rfl (y_build_struct (cells := #[.int .i64 0, .int .i64 0, .int .i64 0, .bool false, .slice none 0 0, .slice none 0 0]) [] [] Try.zeroValue59 Try.runUnderlying59 (fs_cons Try.sizeOf3 (fs_cons Try.sizeOf3 (fs_cons Try.sizeOf3 (fs_cons Try.sizeOf4 (fs_cons Try.sizeOf56 (fs_cons Try.sizeOf57 fs_nil)))))) rfl rfl rfl) ?_
   refine oy rfl rfl (y_move rfl) ?_
   refine ot rfl rfl (t_store 2 Try.sizeOf59 rfl rfl rfl rfl (by simp [Value.cells, boxP]) (by simp [Value.cells, Value.oneCell', boxP])) ?_
   rintro _ _ ⟨rfl, rfl⟩
   refine ops_turn (retell 2 (g := box b2 [.int .i64 0, .int .i64 0, .int .i64 0, .bool false, .slice none 0 0, .slice none 0 0]) rfl rfl) ?_
   refine oy rfl rfl (y_assign rfl) ?_
   refine ops_nil ?_
   refine goes_code ?_
   refine run_ret ?_
   refine fin_turn (nilroN NC_L_int_35) ?_
   refine fin_turn (nilrow 4) ?_
   refine fin_turn (retell 7 (g := row (.slice none 0 0) 4 (([] : List S_api_Order).map S_api_Order.enc)) rfl rfl) ?_
   obtain rfl := some_eq h
   refine fin_res [.cell 4 59, .tmp 5] [.agg #[.int .i64 0, .int .i64 0, .int .i64 0, .bool false, (.slice none 0 0), (.slice none 0 0)], .int .i64 r10] [6, 7] [nro (.slice none 0 0) NC_L_int_35 ([] : List (List Int)), row (.slice none 0 0) 4 (([] : List S_api_Order).map S_api_Order.enc)] Try.results52 rfl (rescons (res_box 2 Try.isAgg59 Try.sizeOf59 rfl rfl rfl) (rescons (res_tmp rfl) resnil)) (by decide) rfl ?_
   exact ⟨_, _, rfl, rfl⟩
  ·replace h := cond_f h hc12
   refine run_skip ?_
   refine goes_code ?_
   refine run_seq ?_
   refine run_region' ?_
   refine oy rfl rfl (y_load_boxagg (c := [.int .i64 ((S_api_Fleet.mk f_0.Base f_0.Done f_0.Serial f_0.Stopped f_0.Stages r6).Base), .int .i64 ((S_api_Fleet.mk f_0.Base f_0.Done f_0.Serial f_0.Stopped f_0.Stages r6).Done), .int .i64 ((S_api_Fleet.mk f_0.Base f_0.Done f_0.Serial f_0.Stopped f_0.Stages r6).Serial), .bool ((S_api_Fleet.mk f_0.Base f_0.Done f_0.Serial f_0.Stopped f_0.Stages r6).Stopped), f_0_Stagesv, v8]) 5 Try.isAgg59 Try.sizeOf59 rfl rfl rfl) ?_
   refine ops_slcN 0 rfl readsN_ro (fun hs13 hs13o => ?_)
   refine ops_slc 4 rfl reads_row (fun hs14 hs14o => ?_)
   refine ot rfl rfl (t_store 2 Try.sizeOf59 rfl rfl rfl rfl (by simp [Value.cells, boxP]) (allL_cons rfl (allL_cons rfl (allL_cons rfl (allL_cons rfl (allL_cons hs13o (allL_cons hs14o (allL_nil)))))))) ?_
   rintro _ _ ⟨rfl, rfl⟩
   refine ops_turn (retell 2 (g := box b2 [.int .i64 ((S_api_Fleet.mk f_0.Base f_0.Done f_0.Serial f_0.Stopped f_0.Stages r6).Base), .int .i64 ((S_api_Fleet.mk f_0.Base f_0.Done f_0.Serial f_0.Stopped f_0.Stages r6).Done), .int .i64 ((S_api_Fleet.mk f_0.Base f_0.Done f_0.Serial f_0.Stopped f_0.Stages r6).Serial), .bool ((S_api_Fleet.mk f_0.Base f_0.Done f_0.Serial f_0.Stopped f_0.Stages r6).Stopped), f_0_Stagesv, v8]) rfl rfl) ?_
   refine oy rfl rfl (y_assign rfl) ?_
   refine ops_nil ?_
   refine goes_code ?_
   refine run_ret ?_
   obtain rfl := some_eq h
   refine fin_res [.cell 4 59, .tmp 5] [.agg #[.int .i64 ((S_api_Fleet.mk f_0.Base f_0.Done f_0.Serial f_0.Stopped f_0.Stages r6).Base), .int .i64 ((S_api_Fleet.mk f_0.Base f_0.Done f_0.Serial f_0.Stopped f_0.Stages r6).Done), .int .i64 ((S_api_Fleet.mk f_0.Base f_0.Done f_0.Serial f_0.Stopped f_0.Stages r6).Serial), .bool ((S_api_Fleet.mk f_0.Base f_0.Done f_0.Serial f_0.Stopped f_0.Stages r6).Stopped), f_0_Stagesv, v8], .int .i64 0] [0, 4] [nro f_0_Stagesv NC_L_int_35 f_0.Stages, row v8 4 (((S_api_Fleet.mk f_0.Base f_0.Done f_0.Serial f_0.Stopped f_0.Stages r6).Orders).map S_api_Order.enc)] Try.results52 rfl (rescons (res_box 2 Try.isAgg59 Try.sizeOf59 rfl rfl rfl) (rescons (res_tmp rfl) resnil)) (by decide) rfl ?_
   exact ⟨_, _, rfl, rfl⟩

def topo_NewFleet_L1 (sites_0 : (List Int)) (version_1 : Int) : (Int × (List S_api_Order)) → Option (Lp (Int × (List S_api_Order)) (Lp ((List S_api_Order)) (S_api_Fleet × Int))) :=
 fun (s_9, x_10) =>
  cond (decide (s_9 < (sites_0.length : Int)))
   (idx sites_0 s_9 fun x17 =>
   need (x_10.length + ([(S_api_Order.mk x17 version_1 0 0)] : List S_api_Order).length ≤ 4294967296) (
   some (.go ((IntKind.i64.wrap (s_9 + 1)), (x_10 ++ ([(S_api_Order.mk x17 version_1 0 0)] : List S_api_Order))))))
   (some (.stop (.go x_10)))
def topo_NewFleet (n : Nat) (sites_0 : (List Int)) (version_1 : Int) : Option (S_api_Fleet × Int) :=
 bindJ (S := (List S_api_Order))
  (iter (topo_NewFleet_L1 sites_0 version_1) n (0, ([] : List S_api_Order)))
 (fun x_3 =>
  obind (topo_change n (S_api_Fleet.mk version_1 0 0 false ([] : List (List Int)) x_3)) fun r22 =>
  some (r22.1, r22.2))
theorem topo_NewFleet_ok (n : Nat) (sites_0 : (List Int)) (version_1 : Int) (sites_0v : Value) {r : S_api_Fleet × Int} (h : topo_NewFleet n sites_0 version_1 = some r) :
  Meets Try.prog 32 [sites_0v, .int .i64 version_1] [ro sites_0v 1 (sites_0.map (eInt .i64))] (fun v G => ∃ v0 v1, v = .tuple #[.agg #[.int .i64 r.1.Base, .int .i64 r.1.Done, .int .i64 r.1.Serial, .bool r.1.Stopped, v0, v1], .int .i64 r.2] ∧ G = [nro v0 NC_L_int_35 r.1.Stages, row v1 4 (r.1.Orders.map S_api_Order.enc)]) := by
 refine fn_of_run Try.func32 rfl Try.ntmps32 rfl (fun w0 o0 => ?_)
 refine run_seq ?_
 refine run_region' ?_
 refine ot rfl rfl (t_alloc Try.zeroValue59) ?_
 rintro _ _ ⟨b1, rfl, rfl⟩
 refine oy rfl rfl (y_assign rfl) ?_
 refine ops_nil ?_
 refine goes_code ?_
 refine run_seq ?_
 refine run_region' ?_
 refine oy rfl rfl (y_move rfl) ?_
 refine oy rfl rfl (y_build_struct (cells := #[.int .i64 version_1, .int .i64 0, .int .i64 0, .bool false, .slice none 0 0, .slice none 0 0]) [(0, .int .i64 version_1)] [(0, [.int .i64 version_1])] Try.zeroValue59 Try.runUnderlying59 (fs_cons Try.sizeOf3 (fs_cons Try.sizeOf3 (fs_cons Try.sizeOf3 (fs_cons Try.sizeOf4 (fs_cons Try.sizeOf56 (fs_cons Try.sizeOf57 fs_nil)))))) rfl rfl rfl) ?_
 refine ot rfl rfl (t_alloc Try.zeroValue59) ?_
 rintro _ _ ⟨b2, rfl, rfl⟩
 refine ot rfl rfl (t_store 2 Try.sizeOf59 rfl rfl rfl rfl (by simp [Value.cells, boxP]) (by simp [Value.cells, Value.oneCell', boxP])) ?_
 rintro _ _ ⟨rfl, rfl⟩
 refine ops_turn (retell 2 (g := box b2 [.int .i64 version_1, .int .i64 0, .int .i64 0, .bool false, .slice none 0 0, .slice none 0 0]) rfl rfl) ?_
 refine ops_nil ?_
 refine goes_code ?_
 obtain ⟨o5, h, ho6⟩ := bindJ_some h
 refine run_cut (((List S_api_Order)) × (Value)) (fun σ => [(4, boxP b1 0), (6, boxP b2 0)]) (fun σ => [box b1 [.int .i64 0, .int .i64 0, .int .i64 0, .bool false, .slice none 0 0, .slice none 0 0], box b2 [.int .i64 version_1, .int .i64 0, .int .i64 0, .bool false, .slice none 0 0, σ.2], row σ.2 4 (σ.1.map S_api_Order.enc)]) (fun σ => o5 = .go σ.1) (fun L8 hL7 => ?_) ?_
 ·
  refine run_seq ?_
  refine run_region' ?_
  refine oy rfl rfl (y_move rfl) ?_
  refine oy rfl rfl ((y_len 0 rfl Try.runUnderlying35 rfl rfl reads_ro).to (v_len (eInt .i64) _)) ?_
  refine oy rfl rfl (y_move rfl) ?_
  refine ops_nil ?_
  refine goes_code ?_
  refine run_block ?_
  refine run_turn (nilrow 4) ?_
  refine run_turn (retell 3 (g := row (.slice none 0 0) 4 (([] : List S_api_Order).map S_api_Order.enc)) rfl rfl) ?_
  refine run_iter (step := topo_NewFleet_L1 sites_0 version_1) (n := n) (s0 := (0, ([] : List S_api_Order))) h (G := Value) (.slice none 0 0) (fun σ γ => [(1, .int .i64 version_1), (4, boxP b1 0), (6, boxP b2 0), (11, sites_0v), (12, .int .i64 (sites_0.length : Int)), (13, .int .i64 σ.1)]) (fun σ γ => [box b1 [.int .i64 0, .int .i64 0, .int .i64 0, .bool false, .slice none 0 0, .slice none 0 0], box b2 [.int .i64 version_1, .int .i64 0, .int .i64 0, .bool false, .slice none 0 0, γ], row γ 4 (σ.2.map S_api_Order.enc), ro sites_0v 1 (sites_0.map (eInt .i64))]) [1, 2, 3, 0] (qv6 rfl rfl rfl rfl rfl rfl) (by decide) rfl ?_
  rintro ⟨s_9, x_10⟩ v11 o12 h L15 hgo13 hstop14
  change Run _ _ _ (VF.of [(1, .int .i64 version_1), (4, boxP b1 0), (6, boxP b2 0), (11, sites_0v), (12, .int .i64 (sites_0.length : Int)), (13, .int .i64 s_9)]) [box b1 [.int .i64 0, .int .i64 0, .int .i64 0, .bool false, .slice none 0 0, .slice none 0 0], box b2 [.int .i64 version_1, .int .i64 0, .int .i64 0, .bool false, .slice none 0 0, v11], row v11 4 (x_10.map S_api_Order.enc), ro sites_0v 1 (sites_0.map (eInt .i64))]
  refine run_seq ?_
  refine run_region' ?_
  refine oy rfl rfl (y_lss rfl rfl) ?_
  refine ops_nil ?_
  refine goes_code ?_
  refine run_seq ?_
  refine run_cond (decide (s_9 < (sites_0.length : Int))) rfl (fun hc16 => ?_) (fun hc16 => ?_)
  ·replace h := cond_t h hc16
   refine run_skip ?_
   refine goes_code ?_
   refine run_seq ?_
   refine run_block ?_
   refine run_seq ?_
   refine run_region' ?_
   obtain ⟨x17, hzx17, hlx17, hxx17, h⟩ := idx_some h
   refine oy rfl rfl (y_indexAddrI (kd := .i64) (i := s_9) 3 Try.runUnderlying35 Try.sizeOf3 rfl rfl rfl reads_ro hzx17 (map_lt hlx17)) ?_
   refine oy rfl rfl (y_load_elem (i := s_9.toNat) 3 Try.isAgg3 rfl rfl reads_ro (map_get hxx17)) ?_
   refine oy rfl rfl (y_assign rfl) ?_
   refine ops_nil ?_
   refine goes_code ?_
   refine run_region' ?_
   refine oy rfl rfl (y_fieldAddr_box (sz := 0) Try.runUnderlying59 rfl Try.sizeOf57 rfl) ?_
   refine oy rfl rfl (y_load_box 1 Try.isAgg57 rfl rfl rfl) ?_
   refine oy rfl rfl (y_move rfl) ?_
   refine oy rfl rfl (y_move rfl) ?_
   refine oy rfl rfl (y_build_struct (cells := #[.int .i64 x17, .int .i64 version_1, .int .i64 0, .int .i64 0]) [(0, .int .i64 x17), (1, .int .i64 version_1)] [(0, [.int .i64 x17]), (1, [.int .i64 version_1])] Try.zeroValue108 Try.runUnderlying108 (fs_cons Try.sizeOf3 (fs_cons Try.sizeOf3 (fs_cons Try.sizeOf3 (fs_cons Try.sizeOf3 fs_nil)))) rfl rfl rfl) ?_
   refine ot rfl rfl (t_lit [.agg #[.int .i64 x17, .int .i64 version_1, .int .i64 0, .int .i64 0]] Try.runUnderlying57 Try.sizeOf108 Try.zeroValue108 rfl (by decide) (by decide) rfl (by simp [Value.cells, boxP])) ?_
   rintro v18 _ ⟨rfl, _⟩
   refine ops_turn (retell 4 (g := row v18 4 (([(S_api_Order.mk x17 version_1 0 0)] : List S_api_Order).map S_api_Order.enc)) rfl rfl) ?_
   obtain ⟨hr20, h⟩ := need_some h
   refine ot rfl rfl (t_append (es := 4) 2 rfl Try.runUnderlying57 rfl Try.runUnderlying57 (.inr ⟨_, rfl⟩) Try.typeInfo108 rfl (by decide) Try.zeroValue108 rfl rfl rfl rfl (src_reads 4 rfl reads_row (map_ok S_api_Order.enc_ok _)) (map_room hr20 (by decide)) (map_fit hr20)) ?_
   rintro v19 _ rfl
   refine ops_turn (retell 2 (g := row v19 4 ((x_10 ++ ([(S_api_Order.mk x17 version_1 0 0)] : List S_api_Order)).map S_api_Order.enc)) rfl (congrArg (row _ _) List.map_append.symm)) ?_
   refine oy rfl rfl (y_fieldAddr_box (sz := 0) Try.runUnderlying59 rfl Try.sizeOf57 rfl) ?_
   refine ops_slc 2 rfl reads_row (fun hs21 hs21o => ?_)
   refine ot rfl rfl (t_store 1 Try.sizeOf57 rfl rfl rfl (by rw [hs21]; rfl) (by simp [Value.cells, boxP]) (by rw [hs21]; exact allL_cons hs21o (allL_nil))) ?_
   rintro _ _ ⟨rfl, rfl⟩
   refine ops_turn (retell 1 (g := box b2 [.int .i64 version_1, .int .i64 0, .int .i64 0, .bool false, .slice none 0 0, v19]) rfl (by rw [hs21]; rfl)) ?_
   refine ops_nil ?_
   refine goes_blk ?_
   refine goes_code ?_
   refine run_weak [(1, .int .i64 version_1), (4, boxP b1 0), (6, boxP b2 0), (11, sites_0v), (12, .int .i64 (sites_0.length : Int)), (13, .int .i64 s_9)] [0, 1, 2, 3] [box b1 [.int .i64 0, .int .i64 0, .int .i64 0, .bool false, .slice none 0 0, .slice none 0 0], box b2 [.int .i64 version_1, .int .i64 0, .int .i64 0, .bool false, .slice none 0 0, v19], row v19 4 ((x_10 ++ ([(S_api_Order.mk x17 version_1 0 0)] : List S_api_Order)).map S_api_Order.enc), ro sites_0v 1 (sites_0.map (eInt .i64))] (qv6 rfl rfl rfl rfl rfl rfl) (by decide) rfl ?_
   refine run_region' ?_
   refine oy rfl rfl (y_add rfl rfl) ?_
   refine oy rfl rfl (y_move rfl) ?_
   refine ops_nil ?_
   obtain rfl := some_eq h
   exact goes_iter hgo13 ((IntKind.i64.wrap (s_9 + 1)), (x_10 ++ ([(S_api_Order.mk x17 version_1 0 0)] : List S_api_Order))) v19 [0, 1, 2, 3] rfl (qv6 rfl rfl rfl rfl rfl rfl) (by decide) rfl
  ·replace h := cond_f h hc16
   refine run_exit _ rfl ?_
   obtain rfl := some_eq h
   obtain rfl := hstop14 _ rfl
   exact goes_cut hL7 (x_10, v11) [0, 1, 2] (qv2 rfl rfl) (by decide) rfl rfl
 rintro ⟨x_3, v4⟩ hj
 obtain rfl : o5 = _ := hj
 replace h := after_go ho6
 clear ho6
 change Run _ _ _ (VF.of [(4, boxP b1 0), (6, boxP b2 0)]) [box b1 [.int .i64 0, .int .i64 0, .int .i64 0, .bool false, .slice none 0 0, .slice none 0 0], box b2 [.int .i64 version_1, .int .i64 0, .int .i64 0, .bool false, .slice none 0 0, v4], row v4 4 (x_3.map S_api_Order.enc)]
 refine run_seq ?_
 refine run_region' ?_
 refine oy rfl rfl (y_load_boxagg (c := [.int .i64 version_1, .int .i64 0, .int .i64 0, .bool false, .slice none 0 0, v4]) 1 Try.isAgg59 Try.sizeOf59 rfl rfl rfl) ?_
 refine ops_turn (nilroN NC_L_int_35) ?_
 refine ops_turn (Go.Abs.freeze 2 rfl) ?_
 obtain ⟨r22, hr23, h⟩ := obind_some h
 refine ot rfl rfl (t_callx (vs := [.agg #[.int .i64 version_1, .int .i64 0, .int .i64 0, .bool false, (.slice none 0 0), v4], .func (.func 62) #[] #[]]) (cs := []) [(3, 0), (2, 0)] rfl Try.call52 rfl (topo_change_ok n (S_api_Fleet.mk version_1 0 0 false ([] : List (List Int)) x_3) (.slice none 0 0) v4 hr23) (showsX_view 3 rfl views_nro (showsX_view 2 rfl views_ro showsX_nil)) rfl (.inl rfl)) ?_
 rintro _ _ ⟨_, ⟨v24, v25, rfl, rfl⟩, rfl⟩
 refine oy rfl rfl (y_extract rfl rfl) ?_
 refine oy rfl rfl (y_extract rfl rfl) ?_
 refine ops_slcN 4 rfl readsN_ro (fun hs26 hs26o => ?_)
 refine ops_slc 5 rfl reads_row (fun hs27 hs27o => ?_)
 refine ot rfl rfl (t_store 0 Try.sizeOf59 rfl rfl rfl rfl (by simp [Value.cells, boxP]) (allL_cons rfl (allL_cons rfl (allL_cons rfl (allL_cons rfl (allL_cons hs26o (allL_cons hs27o (allL_nil)))))))) ?_
 rintro _ _ ⟨rfl, rfl⟩
 refine ops_turn (retell 0 (g := box b1 [.int .i64 r22.1.Base, .int .i64 r22.1.Done, .int .i64 r22.1.Serial, .bool r22.1.Stopped, v24, v25]) rfl rfl) ?_
 refine oy rfl rfl (y_assign rfl) ?_
 refine ops_nil ?_
 refine goes_code ?_
 refine run_ret ?_
 obtain rfl := some_eq h
 refine fin_res [.cell 4 59, .tmp 5] [.agg #[.int .i64 r22.1.Base, .int .i64 r22.1.Done, .int .i64 r22.1.Serial, .bool r22.1.Stopped, v24, v25], .int .i64 r22.2] [4, 5] [nro v24 NC_L_int_35 r22.1.Stages, row v25 4 (r22.1.Orders.map S_api_Order.enc)] Try.results32 rfl (rescons (res_box 0 Try.isAgg59 Try.sizeOf59 rfl rfl rfl) (rescons (res_tmp rfl) resnil)) (by decide) rfl ?_
 exact ⟨_, _, rfl, rfl⟩

def topo_isSettled_1_73 (x_0 : S_api_Order) : Option (Bool) :=
 some (decide (x_0.Heard ≠ x_0.Serial))
theorem topo_isSettled_1_73_ok (x_0 : S_api_Order)  {r : Bool} (h : topo_isSettled_1_73 x_0 = some r) :
  Meets Try.prog 73 [.agg #[.int .i64 x_0.Site, .int .i64 x_0.Version, .int .i64 x_0.Serial, .int .i64 x_0.Heard]] [] (fun v G => v = .bool r ∧ G = []) := by
 refine fn_of_run Try.func73 rfl Try.ntmps73 rfl (fun w0 o0 => ?_)
 refine run_seq ?_
 refine run_region' ?_
 refine ot rfl rfl (t_box rfl) ?_
 rintro _ _ ⟨b1, rfl, rfl⟩
 refine oy rfl rfl (y_assign rfl) ?_
 refine ops_nil ?_
 refine goes_code ?_
 refine run_seq ?_
 refine run_region' ?_
 refine oy rfl rfl (y_fieldAddr_box (sz := 0) Try.runUnderlying108 rfl Try.sizeOf3 rfl) ?_
 refine oy rfl rfl (y_load_box 0 Try.isAgg3 rfl rfl rfl) ?_
 refine oy rfl rfl (y_fieldAddr_box (sz := 0) Try.runUnderlying108 rfl Try.sizeOf3 rfl) ?_
 refine oy rfl rfl (y_load_box 0 Try.isAgg3 rfl rfl rfl) ?_
 refine oy rfl rfl (y_neq rfl rfl) ?_
 refine oy rfl rfl (y_assign rfl) ?_
 refine ops_nil ?_
 refine goes_code ?_
 refine run_ret ?_
 obtain rfl := some_eq h
 refine fin_slots [2] [.bool (decide (x_0.Heard ≠ x_0.Serial))] [] [] Try.results73 rfl (by decide) rfl ?_
 exact ⟨rfl, rfl⟩

def slices_IndexFunc_weirgate_api_Order_weirgate_api_Order_55_L1 (s_0 : (List S_api_Order)) : (Int) → Option (Lp (Int) (Lp (Unit) (Int))) :=
 fun s_5 =>
  cond (decide (s_5 < (s_0.length : Int)))
   (idx s_0 s_5 fun x11 =>
   obind (topo_isSettled_1_73 x11) fun r12 =>
   cond r12
    (some (.stop (.stop s_5)))
    (some (.go (IntKind.i64.wrap (s_5 + 1)))))
   (some (.stop (.go ())))
def slices_IndexFunc_weirgate_api_Order_weirgate_api_Order_55 (n : Nat) (s_0 : (List S_api_Order)) : Option (Int) :=
 bindJ (S := Unit)
  (iter (slices_IndexFunc_weirgate_api_Order_weirgate_api_Order_55_L1 s_0) n 0)
 (fun _ =>
  some (-1))
theorem slices_IndexFunc_weirgate_api_Order_weirgate_api_Order_55_ok (n : Nat) (s_0 : (List S_api_Order)) (s_0v : Value) {r : Int} (h : slices_IndexFunc_weirgate_api_Order_weirgate_api_Order_55 n s_0 = some r) :
  Meets Try.prog 55 [s_0v, .func (.func 73) #[] #[]] [ro s_0v 4 (s_0.map S_api_Order.enc)] (fun v G => v = .int .i64 r ∧ G = []) := by
 refine fn_of_run Try.func55 rfl Try.ntmps55 rfl (fun w0 o0 => ?_)
 refine run_seq ?_
 refine run_region' ?_
 refine oy rfl rfl (y_assign rfl) ?_
 refine ops_nil ?_
 refine goes_code ?_
 obtain ⟨o1, h, ho2⟩ := bindJ_some h
 refine run_cut ((Unit) × (Unit)) (fun σ => []) (fun σ => []) (fun σ => o1 = .go σ.1) (fun L4 hL3 => ?_) ?_
 ·
  refine run_seq ?_
  refine run_region' ?_
  refine oy rfl rfl (y_move rfl) ?_
  refine oy rfl rfl ((y_len 0 rfl Try.runUnderlying57 rfl rfl reads_ro).to (v_len S_api_Order.enc _)) ?_
  refine oy rfl rfl (y_move rfl) ?_
  refine ops_nil ?_
  refine goes_code ?_
  refine run_block ?_
  refine run_iter (step := slices_IndexFunc_weirgate_api_Order_weirgate_api_Order_55_L1 s_0) (n := n) (s0 := 0) h (G := Unit) () (fun σ γ => [(0, s_0v), (1, .func (.func 73) #[] #[]), (7, .int .i64 (s_0.length : Int)), (8, .int .i64 σ)]) (fun σ γ => [ro s_0v 4 (s_0.map S_api_Order.enc)]) [0] (qv4 rfl rfl rfl rfl) (by decide) rfl ?_
  rintro s_5 _ o6 h L9 hgo7 hstop8
  change Run _ _ _ (VF.of [(0, s_0v), (1, .func (.func 73) #[] #[]), (7, .int .i64 (s_0.length : Int)), (8, .int .i64 s_5)]) [ro s_0v 4 (s_0.map S_api_Order.enc)]
  refine run_seq ?_
  refine run_region' ?_
  refine oy rfl rfl (y_lss rfl rfl) ?_
  refine ops_nil ?_
  refine goes_code ?_
  refine run_seq ?_
  refine run_cond (decide (s_5 < (s_0.length : Int))) rfl (fun hc10 => ?_) (fun hc10 => ?_)
  ·replace h := cond_t h hc10
   refine run_skip ?_
   refine goes_code ?_
   refine run_seq ?_
   refine run_block ?_
   refine run_seq ?_
   refine run_region' ?_
   refine oy rfl rfl (y_move rfl) ?_
   refine oy rfl rfl (y_assign rfl) ?_
   refine ops_nil ?_
   refine goes_code ?_
   refine run_seq ?_
   refine run_region' ?_
   refine oy rfl rfl (y_move rfl) ?_
   refine oy rfl rfl (y_move rfl) ?_
   refine oy rfl rfl (y_move rfl) ?_
   obtain ⟨x11, hzx11, hlx11, hxx11, h⟩ := idx_some h
   refine oy rfl rfl (y_indexAddrI (kd := .i64) (i := s_5) 0 Try.runUnderlying57 Try.sizeOf108 rfl rfl rfl reads_ro hzx11 (map_lt hlx11)) ?_
   refine oy rfl rfl (y_load_agg (i := s_5.toNat) (c := [.int .i64 x11.Site, .int .i64 x11.Version, .int .i64 x11.Serial, .int .i64 x11.Heard]) 0 Try.isAgg108 Try.sizeOf108 rfl rfl reads_ro (map_get hxx11)) ?_
   obtain ⟨r12, hr13, h⟩ := obind_some h
   refine ot rfl rfl (t_callx (vs := [.agg #[.int .i64 x11.Site, .int .i64 x11.Version, .int .i64 x11.Serial, .int .i64 x11.Heard]]) (cs := []) [] rfl Try.call73 rfl (topo_isSettled_1_73_ok x11  hr13) showsX_nil rfl (.inl rfl)) ?_
   rintro _ _ ⟨_, ⟨rfl, rfl⟩, rfl⟩
   refine ops_nil ?_
   refine goes_code ?_
   refine run_cond r12 rfl (fun hc14 => ?_) (fun hc14 => ?_)
   ·replace h := cond_t h hc14
    refine run_seq ?_
    refine run_weak [(5, .int .i64 s_5)] [] [] (qv1 rfl) (by decide) rfl ?_
    refine run_region' ?_
    refine oy rfl rfl (y_move rfl) ?_
    refine oy rfl rfl (y_assign rfl) ?_
    refine ops_nil ?_
    refine goes_code ?_
    refine run_ret ?_
    obtain rfl := some_eq h
    obtain rfl := hstop8 _ rfl
    skip
    obtain rfl := after_stop ho2
    refine fin_slots [4] [.int .i64 s_5] [] [] Try.results55 rfl (by decide) rfl ?_
    exact ⟨rfl, rfl⟩
   ·replace h := cond_f h hc14
    refine run_skip ?_
    refine goes_blk ?_
    refine goes_code ?_
    refine run_weak [(0, s_0v), (1, .func (.func 73) #[] #[]), (7, .int .i64 (s_0.length : Int)), (8, .int .i64 s_5)] [0] [ro s_0v 4 (s_0.map S_api_Order.enc)] (qv4 rfl rfl rfl rfl) (by decide) rfl ?_
    refine run_region' ?_
    refine oy rfl rfl (y_add rfl rfl) ?_
    refine oy rfl rfl (y_move rfl) ?_
    refine ops_nil ?_
    obtain rfl := some_eq h
    exact goes_iter hgo7 (IntKind.i64.wrap (s_5 + 1)) () [0] rfl (qv4 rfl rfl rfl rfl) (by decide) rfl
  ·replace h := cond_f h hc10
   refine run_exit _ rfl ?_
   obtain rfl := some_eq h
   obtain rfl := hstop8 _ rfl
   exact goes_cut hL3 ((), ()) [] vnil (by decide) rfl rfl
 rintro ⟨_, _⟩ hj
 obtain rfl : o1 = _ := hj
 replace h := after_go ho2
 clear ho2
 change Run _ _ _ (VF.of []) []
 refine run_seq ?_
 refine run_region' ?_
 refine oy rfl rfl (y_assign rfl) ?_
 refine ops_nil ?_
 refine goes_code ?_
 refine run_ret ?_
 obtain rfl := some_eq h
 refine fin_slots [4] [.int .i64 (-1)] [] [] Try.results55 rfl (by decide) rfl ?_
 exact ⟨rfl, rfl⟩

def slices_ContainsFunc_weirgate_api_Order_weirgate_api_Order_72 (n : Nat) (s_0 : (List S_api_Order)) : Option (Bool) :=
 obind (slices_IndexFunc_weirgate_api_Order_weirgate_api_Order_55 n s_0) fun r1 =>
 some (decide (0 ≤ r1))
theorem slices_ContainsFunc_weirgate_api_Order_weirgate_api_Order_72_ok (n : Nat) (s_0 : (List S_api_Order)) (s_0v : Value) {r : Bool} (h : slices_ContainsFunc_weirgate_api_Order_weirgate_api_Order_72 n s_0 = some r) :
  Meets Try.prog 72 [s_0v, .func (.func 73) #[] #[]] [ro s_0v 4 (s_0.map S_api_Order.enc)] (fun v G => v = .bool r ∧ G = []) := by
 refine fn_of_run Try.func72 rfl Try.ntmps72 rfl (fun w0 o0 => ?_)
 refine run_seq ?_
 refine run_region' ?_
 refine oy rfl rfl (y_assign rfl) ?_
 refine ops_nil ?_
 refine goes_code ?_
 refine run_seq ?_
 refine run_region' ?_
 refine oy rfl rfl (y_move rfl) ?_
 refine oy rfl rfl (y_move rfl) ?_
 obtain ⟨r1, hr2, h⟩ := obind_some h
 refine ot rfl rfl (t_callx (vs := [s_0v, .func (.func 73) #[] #[]]) (cs := []) [(0, 0)] rfl Try.call55 rfl (slices_IndexFunc_weirgate_api_Order_weirgate_api_Order_55_ok n s_0 s_0v hr2) (showsX_view 0 rfl views_ro showsX_nil) rfl (.inl rfl)) ?_
 rintro _ _ ⟨_, ⟨rfl, rfl⟩, rfl⟩
 refine oy rfl rfl (y_geq rfl rfl) ?_
 refine oy rfl rfl (y_assign rfl) ?_
 refine ops_nil ?_
 refine goes_code ?_
 refine run_ret ?_
 obtain rfl := some_eq h
 refine fin_slots [4] [.bool (decide (0 ≤ r1))] [] [] Try.results72 rfl (by decide) rfl ?_
 exact ⟨rfl, rfl⟩

def topo_isSettled (n : Nat) (f_0 : S_api_Fleet) : Option (Bool) :=
 obind (slices_ContainsFunc_weirgate_api_Order_weirgate_api_Order_72 n f_0.Orders) fun r2 =>
 some (!r2)
theorem topo_isSettled_ok (n : Nat) (f_0 : S_api_Fleet) (f_0_Stagesv : Value) (f_0_Ordersv : Value) {r : Bool} (h : topo_isSettled n f_0 = some r) :
  Meets Try.prog 57 [.agg #[.int .i64 f_0.Base, .int .i64 f_0.Done, .int .i64 f_0.Serial, .bool f_0.Stopped, f_0_Stagesv, f_0_Ordersv]] [nro f_0_Stagesv NC_L_int_35 f_0.Stages, ro f_0_Ordersv 4 (f_0.Orders.map S_api_Order.enc)] (fun v G => v = .bool r ∧ G = []) := by
 refine fn_of_run Try.func57 rfl Try.ntmps57 rfl (fun w0 o0 => ?_)
 refine run_seq ?_
 refine run_region' ?_
 refine ot rfl rfl (t_box rfl) ?_
 rintro _ _ ⟨b1, rfl, rfl⟩
 refine oy rfl rfl (y_assign rfl) ?_
 refine ops_nil ?_
 refine goes_code ?_
 refine run_seq ?_
 refine run_region' ?_
 refine oy rfl rfl (y_fieldAddr_box (sz := 0) Try.runUnderlying59 rfl Try.sizeOf57 rfl) ?_
 refine oy rfl rfl (y_load_box 2 Try.isAgg57 rfl rfl rfl) ?_
 obtain ⟨r2, hr3, h⟩ := obind_some h
 refine ot rfl rfl (t_callx (vs := [f_0_Ordersv, .func (.func 73) #[] #[]]) (cs := []) [(1, 0)] rfl Try.call72 rfl (slices_ContainsFunc_weirgate_api_Order_weirgate_api_Order_72_ok n f_0.Orders f_0_Ordersv hr3) (showsX_view 1 rfl views_ro showsX_nil) rfl (.inl rfl)) ?_
 rintro _ _ ⟨_, ⟨rfl, rfl⟩, rfl⟩
 refine oy rfl rfl (y_not rfl) ?_
 refine oy rfl rfl (y_assign rfl) ?_
 refine ops_nil ?_
 refine goes_code ?_
 refine run_ret ?_
 obtain rfl := some_eq h
 refine fin_slots [2] [.bool (!r2)] [] [] Try.results57 rfl (by decide) rfl ?_
 exact ⟨rfl, rfl⟩

def slices_Clone_int_int_65 (s_0 : (List Int)) : Option ((List Int)) :=
 need (([] : List Int).length + s_0.length ≤ 4294967296) (
 some (([] : List Int) ++ s_0))
theorem slices_Clone_int_int_65_ok (s_0 : (List Int)) (s_0v : Value) {r : (List Int)} (h : slices_Clone_int_int_65 s_0 = some r) :
  Meets Try.prog 65 [s_0v] [ro s_0v 1 (s_0.map (eInt .i64))] (fun v G => ∃ v0, v = v0 ∧ G = [row v0 1 (r.map (eInt .i64))]) := by
 refine fn_of_run Try.func65 rfl Try.ntmps65 rfl (fun w0 o0 => ?_)
 refine run_seq ?_
 refine run_region' ?_
 refine oy rfl rfl (y_assign rfl) ?_
 refine ops_nil ?_
 refine goes_code ?_
 refine run_seq ?_
 refine run_seq ?_
 refine run_region' ?_
 refine oy rfl rfl (y_move rfl) ?_
 refine ot rfl rfl (t_isnil 0 Try.runUnderlying35 rfl rfl rfl reads_ro) ?_
 rintro _ _ ⟨b1, rfl, rfl, hb2⟩
 refine ops_nil ?_
 refine goes_code ?_
 refine run_cond b1 rfl (fun hc3 => ?_) (fun hc3 => ?_)
 ·obtain rfl : s_0 = [] := List.map_eq_nil_iff.1 (hb2 hc3)
  obtain ⟨_, h⟩ := need_some h
  refine run_seq ?_
  refine run_region' ?_
  refine oy rfl rfl (y_assign rfl) ?_
  refine ops_nil ?_
  refine goes_code ?_
  refine run_ret ?_
  refine fin_turn (nilrow 1) ?_
  refine fin_turn (retell 1 (g := row (.slice none 0 0) 1 (([] : List Int).map (eInt .i64))) rfl rfl) ?_
  obtain rfl := some_eq h
  refine fin_slots [2] [(.slice none 0 0)] [1] [row (.slice none 0 0) 1 (([] : List Int).map (eInt .i64))] Try.results65 rfl (by decide) rfl ?_
  exact ⟨_, rfl, rfl⟩
 ·skip
  refine run_skip ?_
  refine goes_code ?_
  refine run_seq ?_
  refine run_region' ?_
  refine ot rfl rfl (t_lit [] Try.runUnderlying35 Try.sizeOf3 Try.zeroValue3 rfl (by decide) (by decide) rfl (by simp [Value.cells, boxP])) ?_
  rintro v4 _ ⟨rfl, _⟩
  refine ops_turn (retell 1 (g := row v4 1 (([] : List Int).map (eInt .i64))) rfl rfl) ?_
  refine oy rfl rfl (y_move rfl) ?_
  obtain ⟨hr6, h⟩ := need_some h
  refine ot rfl rfl (t_append (es := 1) 1 rfl Try.runUnderlying35 rfl Try.runUnderlying35 (.inr ⟨_, rfl⟩) Try.typeInfo3 rfl (by decide) Try.zeroValue3 rfl rfl rfl rfl (src_reads 0 rfl reads_ro (map_ok (eInt_ok _) _)) (map_room hr6 (by decide)) (map_fit hr6)) ?_
  rintro v5 _ rfl
  refine ops_turn (retell 1 (g := row v5 1 ((([] : List Int) ++ s_0).map (eInt .i64))) rfl (congrArg (row _ _) List.map_append.symm)) ?_
  refine oy rfl rfl (y_assign rfl) ?_
  refine ops_nil ?_
  refine goes_code ?_
  refine run_ret ?_
  obtain rfl := some_eq h
  refine fin_slots [2] [v5] [1] [row v5 1 ((([] : List Int) ++ s_0).map (eInt .i64))] Try.results65 rfl (by decide) rfl ?_
  exact ⟨_, rfl, rfl⟩

def topo_Begin_1_63_L1 (a_1 : (List (List Int))) : (Int × (List (List Int))) → Option (Lp (Int × (List (List Int))) (Lp ((List (List Int))) (Int × S_api_Fleet))) :=
 fun (s_28, x_29) =>
  cond (decide (s_28 < (a_1.length : Int)))
   (idx a_1 s_28 fun x36 =>
   obind (slices_Clone_int_int_65 x36) fun r38 =>
   need (x_29.length + ([r38] : List (List Int)).length ≤ 4294967296) (
   some (.go ((IntKind.i64.wrap (s_28 + 1)), (x_29 ++ ([r38] : List (List Int)))))))
   (some (.stop (.go x_29)))
def topo_Begin_1_63 (n : Nat) (f_0 : S_api_Fleet) (a_1 : (List (List Int))) : Option (Int × S_api_Fleet) :=
 bindJ (S := Bool)
  (cond (decide (0 < (f_0.Stages.length : Int)))
   (some (.go (decide (0 < (f_0.Stages.length : Int)))))
   (obind (topo_isSettled n f_0) fun r7 =>
   some (.go (!r7))))
 (fun s_1 =>
  cond s_1
   (some (4, f_0))
   (bindJ (S := Bool)
    (cond (decide ((a_1.length : Int) = 0))
     (some (.go (decide ((a_1.length : Int) = 0))))
     (obind (topo_isParted n f_0.Orders a_1) fun r16 =>
     some (.go (!r16))))
   (fun s_10 =>
    cond s_10
     (some (1, f_0))
     (cond (decide (f_0.Base = 1073741823))
      (some (2, f_0))
      (bindJ (S := (List (List Int)))
       (need ((f_0.Stages : List (List Int)).length = 0) (
       iter (topo_Begin_1_63_L1 a_1) n (0, ([] : List (List Int)))))
      (fun x_20 =>
       need (0 < (x_20 : List (List Int)).length) (
       some (0, (S_api_Fleet.mk f_0.Base f_0.Done f_0.Serial f_0.Stopped x_20 f_0.Orders)))))))))
theorem topo_Begin_1_63_ok (n : Nat) (f_0 : S_api_Fleet) (a_1 : (List (List Int))) (f_0b : Nat) (f_0_Stagesv : Value) (f_0_Ordersv : Value) (a_1b : Nat) (a_1v : Value) {r : Int × S_api_Fleet} (h : topo_Begin_1_63 n f_0 a_1 = some r) :
  Meets Try.prog 63 [boxP f_0b 0, boxP a_1b 0] [nro f_0_Stagesv NC_L_int_35 f_0.Stages, row f_0_Ordersv 4 (f_0.Orders.map S_api_Order.enc), box f_0b [.int .i64 f_0.Base, .int .i64 f_0.Done, .int .i64 f_0.Serial, .bool f_0.Stopped, f_0_Stagesv, f_0_Ordersv], nro a_1v NC_L_int_35 a_1, box a_1b [a_1v]] (fun v G => ∃ v0 v1, v = .int .i64 r.1 ∧ G = [nro v0 NC_L_int_35 r.2.Stages, row v1 4 (r.2.Orders.map S_api_Order.enc), box f_0b [.int .i64 r.2.Base, .int .i64 r.2.Done, .int .i64 r.2.Serial, .bool r.2.Stopped, v0, v1], box a_1b [a_1v]]) := by
 refine fn_of_run Try.func63 rfl Try.ntmps63 rfl (fun w0 o0 => ?_)
 refine run_seq ?_
 refine run_region' ?_
 refine oy rfl rfl (y_assign rfl) ?_
 refine ops_nil ?_
 refine goes_code ?_
 refine run_seq ?_
 refine run_block ?_
 obtain ⟨o2, h, ho3⟩ := bindJ_some h
 refine run_cut ((Bool) × (Unit)) (fun σ => [(0, boxP f_0b 0), (1, boxP a_1b 0), (6, .bool σ.1)]) (fun σ => [box f_0b [.int .i64 f_0.Base, .int .i64 f_0.Done, .int .i64 f_0.Serial, .bool f_0.Stopped, f_0_Stagesv, f_0_Ordersv], nro f_0_Stagesv NC_L_int_35 f_0.Stages, row f_0_Ordersv 4 (f_0.Orders.map S_api_Order.enc), box a_1b [a_1v], nro a_1v NC_L_int_35 a_1]) (fun σ => o2 = .go σ.1) (fun L5 hL4 => ?_) ?_
 ·
  refine run_seq ?_
  refine run_region' ?_
  refine oy rfl rfl (y_move rfl) ?_
  refine oy rfl rfl (y_nilBox rfl) ?_
  refine oy rfl rfl (y_fieldAddr_box (sz := 0) Try.runUnderlying59 rfl Try.sizeOf56 rfl) ?_
  refine oy rfl rfl (y_load_box 2 Try.isAgg56 rfl rfl rfl) ?_
  refine oy rfl rfl (y_lenN 0 rfl Try.runUnderlying56 rfl rfl readsN_ro) ?_
  refine oy rfl rfl (y_gtr rfl rfl) ?_
  refine oy rfl rfl (y_assign rfl) ?_
  refine ops_nil ?_
  refine goes_code ?_
  refine run_cond (decide (0 < (f_0.Stages.length : Int))) rfl (fun hc6 => ?_) (fun hc6 => ?_)
  ·replace h := cond_t h hc6
   refine run_skip ?_
   obtain rfl := some_eq h
   exact goes_cut hL4 (decide (0 < (f_0.Stages.length : Int)), ()) [2, 0, 1, 4, 3] (qv3 rfl rfl rfl) (by decide) rfl rfl
  ·replace h := cond_f h hc6
   refine run_weak [(0, boxP f_0b 0), (1, boxP a_1b 0)] [0, 1, 2, 3, 4] [nro f_0_Stagesv NC_L_int_35 f_0.Stages, row f_0_Ordersv 4 (f_0.Orders.map S_api_Order.enc), box f_0b [.int .i64 f_0.Base, .int .i64 f_0.Done, .int .i64 f_0.Serial, .bool f_0.Stopped, f_0_Stagesv, f_0_Ordersv], nro a_1v NC_L_int_35 a_1, box a_1b [a_1v]] (qv2 rfl rfl) (by decide) rfl ?_
   refine run_region' ?_
   refine oy rfl rfl (y_move rfl) ?_
   refine oy rfl rfl (y_nilBox rfl) ?_
   refine oy rfl rfl (y_load_boxagg (c := [.int .i64 f_0.Base, .int .i64 f_0.Done, .int .i64 f_0.Serial, .bool f_0.Stopped, f_0_Stagesv, f_0_Ordersv]) 2 Try.isAgg59 Try.sizeOf59 rfl rfl rfl) ?_
   obtain ⟨r7, hr8, h⟩ := obind_some h
   refine ot rfl rfl (t_callx (vs := [.agg #[.int .i64 f_0.Base, .int .i64 f_0.Done, .int .i64 f_0.Serial, .bool f_0.Stopped, f_0_Stagesv, f_0_Ordersv]]) (cs := []) [(0, 0), (1, 1)] rfl Try.call57 rfl (topo_isSettled_ok n f_0 f_0_Stagesv f_0_Ordersv hr8) (showsX_view 0 rfl views_nro (showsX_look 1 rfl views_row showsX_nil)) rfl (.inr (by rintro _ _ ⟨rfl, rfl⟩ g hg; first | (cases hg; done) | (simp only [List.mem_cons, List.not_mem_nil, or_false] at hg; first | (subst hg; first | exact strict_row | exact strict_box) | (rcases hg with rfl | rfl <;> first | exact strict_row | exact strict_box) | (rcases hg with rfl | rfl | rfl <;> first | exact strict_row | exact strict_box))))) ?_
   rintro _ _ ⟨_, ⟨rfl, rfl⟩, rfl⟩
   refine oy rfl rfl (y_not rfl) ?_
   refine oy rfl rfl (y_assign rfl) ?_
   refine ops_nil ?_
   obtain rfl := some_eq h
   exact goes_cut hL4 ((!r7), ()) [2, 0, 1, 4, 3] (qv3 rfl rfl rfl) (by decide) rfl rfl
 rintro ⟨s_1, _⟩ hj
 obtain rfl : o2 = _ := hj
 replace h := after_go ho3
 clear ho3
 change Run _ _ _ (VF.of [(0, boxP f_0b 0), (1, boxP a_1b 0), (6, .bool s_1)]) [box f_0b [.int .i64 f_0.Base, .int .i64 f_0.Done, .int .i64 f_0.Serial, .bool f_0.Stopped, f_0_Stagesv, f_0_Ordersv], nro f_0_Stagesv NC_L_int_35 f_0.Stages, row f_0_Ordersv 4 (f_0.Orders.map S_api_Order.enc), box a_1b [a_1v], nro a_1v NC_L_int_35 a_1]
 refine run_cond s_1 rfl (fun hc9 => ?_) (fun hc9 => ?_)
 ·replace h := cond_t h hc9
  refine run_seq ?_
  refine run_region' ?_
  refine oy rfl rfl (y_assign rfl) ?_
  refine ops_nil ?_
  refine goes_code ?_
  refine run_ret ?_
  obtain rfl := some_eq h
  refine fin_slots [3] [.int .i64 4] [1, 2, 0, 3] [nro f_0_Stagesv NC_L_int_35 f_0.Stages, row f_0_Ordersv 4 (f_0.Orders.map S_api_Order.enc), box f_0b [.int .i64 f_0.Base, .int .i64 f_0.Done, .int .i64 f_0.Serial, .bool f_0.Stopped, f_0_Stagesv, f_0_Ordersv], box a_1b [a_1v]] Try.results63 rfl (by decide) rfl ?_
  exact ⟨_, _, rfl, rfl⟩
 ·replace h := cond_f h hc9
  obtain ⟨o11, h, ho12⟩ := bindJ_some h
  refine run_cut ((Bool) × (Unit)) (fun σ => [(0, boxP f_0b 0), (1, boxP a_1b 0), (18, .bool σ.1)]) (fun σ => [box f_0b [.int .i64 f_0.Base, .int .i64 f_0.Done, .int .i64 f_0.Serial, .bool f_0.Stopped, f_0_Stagesv, f_0_Ordersv], nro f_0_Stagesv NC_L_int_35 f_0.Stages, row f_0_Ordersv 4 (f_0.Orders.map S_api_Order.enc), box a_1b [a_1v], nro a_1v NC_L_int_35 a_1]) (fun σ => o11 = .go σ.1) (fun L14 hL13 => ?_) ?_
  ·
   refine run_seq ?_
   refine run_region' ?_
   refine oy rfl rfl (y_load_box 3 Try.isAgg56 rfl rfl rfl) ?_
   refine oy rfl rfl (y_lenN 4 rfl Try.runUnderlying56 rfl rfl readsN_ro) ?_
   refine oy rfl rfl (y_eql rfl rfl) ?_
   refine oy rfl rfl (y_assign rfl) ?_
   refine ops_nil ?_
   refine goes_code ?_
   refine run_cond (decide ((a_1.length : Int) = 0)) rfl (fun hc15 => ?_) (fun hc15 => ?_)
   ·replace h := cond_t h hc15
    refine run_skip ?_
    obtain rfl := some_eq h
    exact goes_cut hL13 (decide ((a_1.length : Int) = 0), ()) [0, 1, 2, 3, 4] (qv3 rfl rfl rfl) (by decide) rfl rfl
   ·replace h := cond_f h hc15
    refine run_drawany [box f_0b [.int .i64 f_0.Base, .int .i64 f_0.Done, .int .i64 f_0.Serial, .bool f_0.Stopped, f_0_Stagesv, f_0_Ordersv], nro f_0_Stagesv NC_L_int_35 f_0.Stages, row f_0_Ordersv 4 (f_0.Orders.map S_api_Order.enc), box a_1b [a_1v], nro a_1v NC_L_int_35 a_1] (by kernel_rfl) ?_
    refine any_y 0 rfl (by kernel_rfl) (by kernel_rfl) (by kernel_rfl) (ss (ss (ss (ss (ss (sn)))))) (wn rfl) rfl (y_move rfl) ?_
    refine any_y 1 rfl (by kernel_rfl) (by kernel_rfl) (by kernel_rfl) (ss (ss (ss (ss (ss (sn)))))) (wn rfl) rfl (y_nilBox rfl) ?_
    refine any_y 2 rfl (by kernel_rfl) (by kernel_rfl) (by kernel_rfl) (ss (ss (ss (ss (ss (sn)))))) (wn rfl) rfl (y_fieldAddr_box (sz := 0) Try.runUnderlying59 rfl Try.sizeOf57 rfl) ?_
    refine any_y 3 rfl (by kernel_rfl) (by kernel_rfl) (by kernel_rfl) (ss (ss (ss (ss (ss (sn)))))) (wn rfl) rfl (y_load_box 0 Try.isAgg57 rfl rfl rfl) ?_
    refine any_y 4 rfl (by kernel_rfl) (by kernel_rfl) (by kernel_rfl) (ss (ss (ss (ss (ss (sn)))))) (wn rfl) rfl (y_load_box 3 Try.isAgg56 rfl rfl rfl) ?_
    refine any_all [5] (by kernel_rfl) rfl (anyo_cons ?_ anyo_nil)
    obtain ⟨r16, hr17, h⟩ := obind_some h
    refine any_t rfl (wn rfl) rfl (t_callx (vs := [f_0_Ordersv, a_1v]) (cs := []) [(2, 1), (4, 0)] rfl Try.call64 rfl (topo_isParted_ok n f_0.Orders a_1 f_0_Ordersv a_1v hr17) (showsX_look 2 rfl views_row (showsX_view 4 rfl views_nro showsX_nil)) rfl (.inr (by rintro _ _ ⟨rfl, rfl⟩ g hg; first | (cases hg; done) | (simp only [List.mem_cons, List.not_mem_nil, or_false] at hg; first | (subst hg; first | exact strict_row | exact strict_box) | (rcases hg with rfl | rfl <;> first | exact strict_row | exact strict_box) | (rcases hg with rfl | rfl | rfl <;> first | exact strict_row | exact strict_box))))) ?_
    rintro _ _ ⟨_, ⟨rfl, rfl⟩, rfl⟩
    refine ⟨(ss (ss (ss (ss (ss (sn)))))), ?_⟩
    refine any_y 6 rfl (by kernel_rfl) (by kernel_rfl) (by kernel_rfl) (ss (ss (ss (ss (ss (sn)))))) (wn rfl) rfl (y_not rfl) ?_
    refine any_y 7 rfl (by kernel_rfl) (by kernel_rfl) (by kernel_rfl) (ss (ss (ss (ss (ss (sn)))))) (wn rfl) rfl (y_assign rfl) ?_
    refine any_nil (by kernel_rfl) ?_
    obtain rfl := some_eq h
    exact goes_cut hL13 ((!r16), ()) [0, 1, 2, 3, 4] (qv3 rfl rfl rfl) (by decide) rfl rfl
  rintro ⟨s_10, _⟩ hj
  obtain rfl : o11 = _ := hj
  replace h := after_go ho12
  clear ho12
  change Run _ _ _ (VF.of [(0, boxP f_0b 0), (1, boxP a_1b 0), (18, .bool s_10)]) [box f_0b [.int .i64 f_0.Base, .int .i64 f_0.Done, .int .i64 f_0.Serial, .bool f_0.Stopped, f_0_Stagesv, f_0_Ordersv], nro f_0_Stagesv NC_L_int_35 f_0.Stages, row f_0_Ordersv 4 (f_0.Orders.map S_api_Order.enc), box a_1b [a_1v], nro a_1v NC_L_int_35 a_1]
  refine run_cond s_10 rfl (fun hc18 => ?_) (fun hc18 => ?_)
  ·replace h := cond_t h hc18
   refine run_seq ?_
   refine run_region' ?_
   refine oy rfl rfl (y_assign rfl) ?_
   refine ops_nil ?_
   refine goes_code ?_
   refine run_ret ?_
   obtain rfl := some_eq h
   refine fin_slots [3] [.int .i64 1] [1, 2, 0, 3] [nro f_0_Stagesv NC_L_int_35 f_0.Stages, row f_0_Ordersv 4 (f_0.Orders.map S_api_Order.enc), box f_0b [.int .i64 f_0.Base, .int .i64 f_0.Done, .int .i64 f_0.Serial, .bool f_0.Stopped, f_0_Stagesv, f_0_Ordersv], box a_1b [a_1v]] Try.results63 rfl (by decide) rfl ?_
   exact ⟨_, _, rfl, rfl⟩
  ·replace h := cond_f h hc18
   refine run_seq ?_
   refine run_region' ?_
   refine oy rfl rfl (y_move rfl) ?_
   refine oy rfl rfl (y_nilBox rfl) ?_
   refine oy rfl rfl (y_fieldAddr_box (sz := 0) Try.runUnderlying59 rfl Try.sizeOf3 rfl) ?_
   refine oy rfl rfl (y_load_box 0 Try.isAgg3 rfl rfl rfl) ?_
   refine oy rfl rfl (y_eql rfl rfl) ?_
   refine oy rfl rfl (y_assign rfl) ?_
   refine ops_nil ?_
   refine goes_code ?_
   refine run_cond (decide (f_0.Base = 1073741823)) rfl (fun hc19 => ?_) (fun hc19 => ?_)
   ·replace h := cond_t h hc19
    refine run_seq ?_
    refine run_region' ?_
    refine oy rfl rfl (y_assign rfl) ?_
    refine ops_nil ?_
    refine goes_code ?_
    refine run_ret ?_
    obtain rfl := some_eq h
    refine fin_slots [3] [.int .i64 2] [1, 2, 0, 3] [nro f_0_Stagesv NC_L_int_35 f_0.Stages, row f_0_Ordersv 4 (f_0.Orders.map S_api_Order.enc), box f_0b [.int .i64 f_0.Base, .int .i64 f_0.Done, .int .i64 f_0.Serial, .bool f_0.Stopped, f_0_Stagesv, f_0_Ordersv], box a_1b [a_1v]] Try.results63 rfl (by decide) rfl ?_
    exact ⟨_, _, rfl, rfl⟩
   ·replace h := cond_f h hc19
    refine run_skip ?_
    refine goes_blk ?_
    refine goes_code ?_
    obtain ⟨o22, h, ho23⟩ := bindJ_some h
    refine run_cut (((List (List Int))) × (Value)) (fun σ => []) (fun σ => [box f_0b [.int .i64 f_0.Base, .int .i64 f_0.Done, .int .i64 f_0.Serial, .bool f_0.Stopped, σ.2, f_0_Ordersv], nrow σ.2 NC_L_int_35 σ.1, row f_0_Ordersv 4 (f_0.Orders.map S_api_Order.enc), box a_1b [a_1v], nro a_1v NC_L_int_35 a_1]) (fun σ => o22 = .go σ.1) (fun L25 hL24 => ?_) ?_
    ·
     refine run_seq ?_
     refine run_region' ?_
     refine oy rfl rfl (y_load_box 3 Try.isAgg56 rfl rfl rfl) ?_
     refine oy rfl rfl (y_lenN 4 rfl Try.runUnderlying56 rfl rfl readsN_ro) ?_
     refine oy rfl rfl (y_move rfl) ?_
     refine ops_nil ?_
     refine goes_code ?_
     refine run_block ?_
     obtain ⟨hz26, h⟩ := need_some h
     refine run_nnil 1 rfl rfl (len0 hz26) (fun hv27 => ?_)
     refine run_turn (retell 0 (g := box f_0b [.int .i64 f_0.Base, .int .i64 f_0.Done, .int .i64 f_0.Serial, .bool f_0.Stopped, .slice none 0 0, f_0_Ordersv]) rfl (by rw [hv27])) ?_
     refine run_turn (nilrowN NC_L_int_35) ?_
     refine run_iter (step := topo_Begin_1_63_L1 a_1) (n := n) (s0 := (0, ([] : List (List Int)))) h (G := Value) (.slice none 0 0) (fun σ γ => [(0, boxP f_0b 0), (35, a_1v), (36, .int .i64 (a_1.length : Int)), (37, .int .i64 σ.1)]) (fun σ γ => [box f_0b [.int .i64 f_0.Base, .int .i64 f_0.Done, .int .i64 f_0.Serial, .bool f_0.Stopped, γ, f_0_Ordersv], nrow γ NC_L_int_35 σ.2, row f_0_Ordersv 4 (f_0.Orders.map S_api_Order.enc), nro a_1v NC_L_int_35 a_1, box a_1b [a_1v]]) [0, 5, 2, 4, 3] (qv4 rfl rfl rfl rfl) (by decide) rfl ?_
     rintro ⟨s_28, x_29⟩ v30 o31 h L34 hgo32 hstop33
     change Run _ _ _ (VF.of [(0, boxP f_0b 0), (35, a_1v), (36, .int .i64 (a_1.length : Int)), (37, .int .i64 s_28)]) [box f_0b [.int .i64 f_0.Base, .int .i64 f_0.Done, .int .i64 f_0.Serial, .bool f_0.Stopped, v30, f_0_Ordersv], nrow v30 NC_L_int_35 x_29, row f_0_Ordersv 4 (f_0.Orders.map S_api_Order.enc), nro a_1v NC_L_int_35 a_1, box a_1b [a_1v]]
     refine run_seq ?_
     refine run_region' ?_
     refine oy rfl rfl (y_lss rfl rfl) ?_
     refine ops_nil ?_
     refine goes_code ?_
     refine run_seq ?_
     refine run_cond (decide (s_28 < (a_1.length : Int))) rfl (fun hc35 => ?_) (fun hc35 => ?_)
     ·replace h := cond_t h hc35
      refine run_skip ?_
      refine goes_code ?_
      refine run_seq ?_
      refine run_block ?_
      refine run_seq ?_
      refine run_region' ?_
      obtain ⟨x36, hzx36, hlx36, hxx36, h⟩ := idx_some h
      refine oy rfl rfl (y_indexAddrN (kd := .i64) (i := s_28) 3 Try.runUnderlying56 Try.sizeOf35 rfl rfl rfl readsN_ro hzx36 hlx36) ?_
      refine ops_ex (exAt (C := NC_L_int_35) (i := s_28.toNat) 3 rfl hxx36) ?_
      rintro g37
      refine oy rfl rfl (y_load_at (n := s_28.toNat * 1) (j := 0) 5 Try.isAgg35 rfl rfl rfl) ?_
      refine oy rfl rfl (y_assign rfl) ?_
      refine ops_nil ?_
      refine goes_code ?_
      obtain ⟨r38, hr39, h⟩ := obind_some h
      obtain ⟨hr44, h⟩ := need_some h
      refine run_drawany [HA.emp, HA.emp, row f_0_Ordersv 4 (f_0.Orders.map S_api_Order.enc), nro a_1v NC_L_int_35 a_1, box a_1b [a_1v], atc a_1v (s_28.toNat * 1) [g37], ro g37 1 (x36.map (eInt .i64))] (by kernel_rfl) ?_
      refine any_y 0 rfl (by kernel_rfl) (by kernel_rfl) (by kernel_rfl) (se (se (ss (ss (ss (ss (ss (sn)))))))) (wn rfl) rfl (y_move rfl) ?_
      refine any_y 1 rfl (by kernel_rfl) (by kernel_rfl) (by kernel_rfl) (se (se (ss (ss (ss (ss (ss (sn)))))))) (wn rfl) rfl (y_move rfl) ?_
      refine any_y 2 rfl (by kernel_rfl) (by kernel_rfl) (by kernel_rfl) (se (se (ss (ss (ss (ss (ss (sn)))))))) (wn rfl) rfl (y_nilBox rfl) ?_
      refine any_y 3 rfl (by kernel_rfl) (by kernel_rfl) (by kernel_rfl) (se (se (ss (ss (ss (ss (ss (sn)))))))) (wn rfl) rfl (y_fieldAddr_box (sz := 0) Try.runUnderlying59 rfl Try.sizeOf56 rfl) ?_
      refine any_y 5 rfl (by kernel_rfl) (by kernel_rfl) (by kernel_rfl) (se (se (ss (ss (ss (ss (ss (sn)))))))) (wn rfl) rfl (y_move rfl) ?_
      refine any_cut2 #[true, true, true, true, true, true, true, true, true, true, true, true] 0 (Value × Value × Value) (fun σ => [(0, boxP f_0b 0), (35, a_1v), (36, .int .i64 (a_1.length : Int)), (37, .int .i64 s_28)]) (fun σ => [box f_0b [.int .i64 f_0.Base, .int .i64 f_0.Done, .int .i64 f_0.Serial, .bool f_0.Stopped, σ.1, f_0_Ordersv], nrow σ.1 NC_L_int_35 (x_29 ++ ([r38] : List (List Int))), row f_0_Ordersv 4 (f_0.Orders.map S_api_Order.enc), nro a_1v NC_L_int_35 a_1, box a_1b [a_1v], atc a_1v (s_28.toNat * 1) [g37], ro g37 1 (x36.map (eInt .i64)), ro σ.2.1 1 (r38.map (eInt .i64)), nrow σ.2.2 NC_L_int_35 ([r38] : List (List Int))]) ?_ (fun hK54 => ?_)
      ·rintro ⟨v52, v47, v50⟩
       change AnyL _ _ _ _ _ (VF.of [(0, boxP f_0b 0), (35, a_1v), (36, .int .i64 (a_1.length : Int)), (37, .int .i64 s_28)]) [box f_0b [.int .i64 f_0.Base, .int .i64 f_0.Done, .int .i64 f_0.Serial, .bool f_0.Stopped, v52, f_0_Ordersv], nrow v52 NC_L_int_35 (x_29 ++ ([r38] : List (List Int))), row f_0_Ordersv 4 (f_0.Orders.map S_api_Order.enc), nro a_1v NC_L_int_35 a_1, box a_1b [a_1v], atc a_1v (s_28.toNat * 1) [g37], ro g37 1 (x36.map (eInt .i64)), ro v47 1 (r38.map (eInt .i64)), nrow v50 NC_L_int_35 ([r38] : List (List Int))] _
       refine any_nil (by kernel_rfl) ?_
       refine goes_blk ?_
       refine goes_code ?_
       refine run_region' ?_
       refine oy rfl rfl (y_add rfl rfl) ?_
       refine oy rfl rfl (y_move rfl) ?_
       refine ops_nil ?_
       obtain rfl := some_eq h
       exact goes_iter hgo32 ((IntKind.i64.wrap (s_28 + 1)), (x_29 ++ ([r38] : List (List Int)))) v52 [0, 1, 2, 3, 4] rfl (qv4 rfl rfl rfl rfl) (by decide) rfl
      refine any_cut2 #[true, true, true, true, true, true, true, true, true, true, true, false] 1 (Value × Value × Value) (fun σ => [(0, boxP f_0b 0), (35, a_1v), (36, .int .i64 (a_1.length : Int)), (37, .int .i64 s_28), (49, σ.1), (51, boxP f_0b 4)]) (fun σ => [box f_0b [.int .i64 f_0.Base, .int .i64 f_0.Done, .int .i64 f_0.Serial, .bool f_0.Stopped, v30, f_0_Ordersv], nrow σ.1 NC_L_int_35 (x_29 ++ ([r38] : List (List Int))), row f_0_Ordersv 4 (f_0.Orders.map S_api_Order.enc), nro a_1v NC_L_int_35 a_1, box a_1b [a_1v], atc a_1v (s_28.toNat * 1) [g37], ro g37 1 (x36.map (eInt .i64)), ro σ.2.1 1 (r38.map (eInt .i64)), nrow σ.2.2 NC_L_int_35 ([r38] : List (List Int))]) ?_ (fun hK55 => ?_)
      ·rintro ⟨v52, v47, v50⟩
       change AnyL _ _ _ _ _ (VF.of [(0, boxP f_0b 0), (35, a_1v), (36, .int .i64 (a_1.length : Int)), (37, .int .i64 s_28), (49, v52), (51, boxP f_0b 4)]) [box f_0b [.int .i64 f_0.Base, .int .i64 f_0.Done, .int .i64 f_0.Serial, .bool f_0.Stopped, v30, f_0_Ordersv], nrow v52 NC_L_int_35 (x_29 ++ ([r38] : List (List Int))), row f_0_Ordersv 4 (f_0.Orders.map S_api_Order.enc), nro a_1v NC_L_int_35 a_1, box a_1b [a_1v], atc a_1v (s_28.toNat * 1) [g37], ro g37 1 (x36.map (eInt .i64)), ro v47 1 (r38.map (eInt .i64)), nrow v50 NC_L_int_35 ([r38] : List (List Int))] _
       refine any_all [11] (by kernel_rfl) rfl ?_
       refine anyo_cons ?_ ?_
       ·
        refine anyo_slcN 1 rfl readsN_row (fun hs56 hs56o => ?_)
        refine any_t rfl (wn rfl) rfl (t_store 0 Try.sizeOf56 rfl rfl rfl (by rw [hs56]; rfl) (by simp [Value.cells, boxP]) (by rw [hs56]; exact allL_cons hs56o (allL_nil))) ?_
        rintro _ _ ⟨rfl, rfl⟩
        refine ⟨(se (se (ss (ss (ss (ss (ss (sn)))))))), ?_⟩
        refine any_turn (retell 0 (g := box f_0b [.int .i64 f_0.Base, .int .i64 f_0.Done, .int .i64 f_0.Serial, .bool f_0.Stopped, v52, f_0_Ordersv]) rfl (by rw [hs56]; rfl)) ?_
        exact any_weak2 (hK54 (v52, v47, v50)) [0, 1, 2, 3, 4, 5, 6, 7, 8] (by kernel_rfl) (qv4 rfl rfl rfl rfl) (by decide) rfl
       exact anyo_nil
      refine any_cut2 #[true, true, true, true, true, true, true, true, false, false, false, false] 4 (Value × Value) (fun σ => [(0, boxP f_0b 0), (35, a_1v), (36, .int .i64 (a_1.length : Int)), (37, .int .i64 s_28), (41, boxP f_0b 0), (45, v30), (48, σ.1)]) (fun σ => [box f_0b [.int .i64 f_0.Base, .int .i64 f_0.Done, .int .i64 f_0.Serial, .bool f_0.Stopped, v30, f_0_Ordersv], nrow v30 NC_L_int_35 x_29, row f_0_Ordersv 4 (f_0.Orders.map S_api_Order.enc), nro a_1v NC_L_int_35 a_1, box a_1b [a_1v], atc a_1v (s_28.toNat * 1) [g37], ro g37 1 (x36.map (eInt .i64)), ro σ.2 1 (r38.map (eInt .i64)), nrow σ.1 NC_L_int_35 ([r38] : List (List Int))]) ?_ (fun hK57 => ?_)
      ·rintro ⟨v50, v47⟩
       change AnyL _ _ _ _ _ (VF.of [(0, boxP f_0b 0), (35, a_1v), (36, .int .i64 (a_1.length : Int)), (37, .int .i64 s_28), (41, boxP f_0b 0), (45, v30), (48, v50)]) [box f_0b [.int .i64 f_0.Base, .int .i64 f_0.Done, .int .i64 f_0.Serial, .bool f_0.Stopped, v30, f_0_Ordersv], nrow v30 NC_L_int_35 x_29, row f_0_Ordersv 4 (f_0.Orders.map S_api_Order.enc), nro a_1v NC_L_int_35 a_1, box a_1b [a_1v], atc a_1v (s_28.toNat * 1) [g37], ro g37 1 (x36.map (eInt .i64)), ro v47 1 (r38.map (eInt .i64)), nrow v50 NC_L_int_35 ([r38] : List (List Int))] _
       refine any_all [8] (by kernel_rfl) rfl ?_
       refine anyo_cons ?_ ?_
       ·
        refine any_t rfl (wn rfl) rfl (t_appendN (C := NC_L_int_35) 1 8 (by decide) rfl Try.runUnderlying56 rfl Try.runUnderlying56 Try.typeInfo35 rfl (by decide) (by decide) Try.zeroValue35 rfl rfl rfl rfl (srcN_row 8 rfl) hr44) ?_
        rintro v58 _ rfl
        refine ⟨(se (se (ss (ss (ss (ss (ss (sn)))))))), ?_⟩
        refine any_y 9 rfl (by kernel_rfl) (by kernel_rfl) (by kernel_rfl) (se (se (ss (ss (ss (ss (ss (sn)))))))) (wn rfl) rfl (y_nilBox rfl) ?_
        refine any_y 10 rfl (by kernel_rfl) (by kernel_rfl) (by kernel_rfl) (se (se (ss (ss (ss (ss (ss (sn)))))))) (wn rfl) rfl (y_fieldAddr_box (sz := 0) Try.runUnderlying59 rfl Try.sizeOf56 rfl) ?_
        exact any_weak2 (hK55 (v58, v47, v50)) [0, 1, 2, 3, 4, 5, 6, 7, 8] (by kernel_rfl) (qv6 rfl rfl rfl rfl rfl rfl) (by decide) rfl
       exact anyo_nil
      refine any_cut2 #[true, true, true, true, true, true, true, false, false, false, false, false] 5 (Value) (fun σ => [(0, boxP f_0b 0), (35, a_1v), (36, .int .i64 (a_1.length : Int)), (37, .int .i64 s_28), (41, boxP f_0b 0), (45, v30), (47, σ)]) (fun σ => [box f_0b [.int .i64 f_0.Base, .int .i64 f_0.Done, .int .i64 f_0.Serial, .bool f_0.Stopped, v30, f_0_Ordersv], nrow v30 NC_L_int_35 x_29, row f_0_Ordersv 4 (f_0.Orders.map S_api_Order.enc), nro a_1v NC_L_int_35 a_1, box a_1b [a_1v], atc a_1v (s_28.toNat * 1) [g37], ro g37 1 (x36.map (eInt .i64)), row σ 1 (r38.map (eInt .i64))]) ?_ (fun hK59 => ?_)
      ·rintro v47
       change AnyL _ _ _ _ _ (VF.of [(0, boxP f_0b 0), (35, a_1v), (36, .int .i64 (a_1.length : Int)), (37, .int .i64 s_28), (41, boxP f_0b 0), (45, v30), (47, v47)]) [box f_0b [.int .i64 f_0.Base, .int .i64 f_0.Done, .int .i64 f_0.Serial, .bool f_0.Stopped, v30, f_0_Ordersv], nrow v30 NC_L_int_35 x_29, row f_0_Ordersv 4 (f_0.Orders.map S_api_Order.enc), nro a_1v NC_L_int_35 a_1, box a_1b [a_1v], atc a_1v (s_28.toNat * 1) [g37], ro g37 1 (x36.map (eInt .i64)), row v47 1 (r38.map (eInt .i64))] _
       refine any_all [7] (by kernel_rfl) rfl ?_
       refine anyo_cons ?_ ?_
       ·
        refine anyo_turn (Go.Abs.freeze 7 rfl) ?_
        refine anyo_slc 7 rfl reads_ro (fun hs61 hs61o => ?_)
        refine any_t rfl (wn rfl) rfl (t_lit [v47] Try.runUnderlying56 Try.sizeOf35 Try.zeroValue35 rfl (by decide) (by decide) rfl (by intro q hq; simp only [List.mem_cons, List.not_mem_nil, or_false] at hq; rcases hq with rfl <;> first | rfl | (rw [hs61]; rfl))) ?_
        rintro v60 _ ⟨rfl, _⟩
        refine ⟨(se (se (ss (ss (ss (ss (ss (sn)))))))), ?_⟩
        refine any_turn (turn_closeR (C := NC_L_int_35) (l := ([r38] : List (List Int))) 8 [(r38, v47)] rfl (by simp only [List.map_cons, List.map_nil, hs61]; rfl) rfl (hasall_cons (has_cons 7 rfl has_nil) hasall_nil)) ?_
        exact any_weak2 (hK57 (v60, v47)) [0, 1, 2, 3, 4, 5, 6, 7, 8] (by kernel_rfl) (qv7 rfl rfl rfl rfl rfl rfl rfl) (by decide) rfl
       exact anyo_nil
      refine any_cut2 #[true, true, true, true, false, true, true, true, false, false, false, false] 5 (Value × Value) (fun σ => [(0, boxP f_0b 0), (35, a_1v), (36, .int .i64 (a_1.length : Int)), (37, .int .i64 s_28), (41, boxP f_0b 0), (44, boxP f_0b 4), (48, σ.1)]) (fun σ => [box f_0b [.int .i64 f_0.Base, .int .i64 f_0.Done, .int .i64 f_0.Serial, .bool f_0.Stopped, v30, f_0_Ordersv], nrow v30 NC_L_int_35 x_29, row f_0_Ordersv 4 (f_0.Orders.map S_api_Order.enc), nro a_1v NC_L_int_35 a_1, box a_1b [a_1v], atc a_1v (s_28.toNat * 1) [g37], ro g37 1 (x36.map (eInt .i64)), ro σ.2 1 (r38.map (eInt .i64)), nrow σ.1 NC_L_int_35 ([r38] : List (List Int))]) ?_ (fun hK62 => ?_)
      ·rintro ⟨v48, v46⟩
       change AnyL _ _ _ _ _ (VF.of [(0, boxP f_0b 0), (35, a_1v), (36, .int .i64 (a_1.length : Int)), (37, .int .i64 s_28), (41, boxP f_0b 0), (44, boxP f_0b 4), (48, v48)]) [box f_0b [.int .i64 f_0.Base, .int .i64 f_0.Done, .int .i64 f_0.Serial, .bool f_0.Stopped, v30, f_0_Ordersv], nrow v30 NC_L_int_35 x_29, row f_0_Ordersv 4 (f_0.Orders.map S_api_Order.enc), nro a_1v NC_L_int_35 a_1, box a_1b [a_1v], atc a_1v (s_28.toNat * 1) [g37], ro g37 1 (x36.map (eInt .i64)), ro v46 1 (r38.map (eInt .i64)), nrow v48 NC_L_int_35 ([r38] : List (List Int))] _
       refine any_all [4] (by kernel_rfl) rfl ?_
       refine anyo_cons ?_ ?_
       ·
        refine any_ty rfl (wn rfl) rfl (y_load_box 0 Try.isAgg56 rfl rfl rfl) ⟨(se (se (ss (ss (ss (ss (ss (sn)))))))), ?_⟩
        exact any_weak2 (hK57 (v48, v46)) [0, 1, 2, 3, 4, 5, 6, 7, 8] (by kernel_rfl) (qv7 rfl rfl rfl rfl rfl rfl rfl) (by decide) rfl
       exact anyo_nil
      refine any_cut2 #[true, true, true, true, true, true, false, false, false, false, false, false] 6 (Unit) (fun σ => [(0, boxP f_0b 0), (35, a_1v), (36, .int .i64 (a_1.length : Int)), (37, .int .i64 s_28), (41, boxP f_0b 0), (46, g37), (45, v30)]) (fun σ => [box f_0b [.int .i64 f_0.Base, .int .i64 f_0.Done, .int .i64 f_0.Serial, .bool f_0.Stopped, v30, f_0_Ordersv], nrow v30 NC_L_int_35 x_29, row f_0_Ordersv 4 (f_0.Orders.map S_api_Order.enc), nro a_1v NC_L_int_35 a_1, box a_1b [a_1v], atc a_1v (s_28.toNat * 1) [g37], ro g37 1 (x36.map (eInt .i64))]) ?_ (fun hK63 => ?_)
      ·rintro _
       change AnyL _ _ _ _ _ (VF.of [(0, boxP f_0b 0), (35, a_1v), (36, .int .i64 (a_1.length : Int)), (37, .int .i64 s_28), (41, boxP f_0b 0), (46, g37), (45, v30)]) [box f_0b [.int .i64 f_0.Base, .int .i64 f_0.Done, .int .i64 f_0.Serial, .bool f_0.Stopped, v30, f_0_Ordersv], nrow v30 NC_L_int_35 x_29, row f_0_Ordersv 4 (f_0.Orders.map S_api_Order.enc), nro a_1v NC_L_int_35 a_1, box a_1b [a_1v], atc a_1v (s_28.toNat * 1) [g37], ro g37 1 (x36.map (eInt .i64))] _
       refine any_all [6] (by kernel_rfl) rfl ?_
       refine anyo_cons ?_ ?_
       ·
        refine any_t rfl (wn rfl) rfl (t_callx (vs := [g37]) (cs := []) [(6, 0)] rfl Try.call65 rfl (slices_Clone_int_int_65_ok x36 g37 hr39) (showsX_view 6 rfl views_ro showsX_nil) rfl (.inl rfl)) ?_
        rintro v64 _ ⟨_, ⟨_, rfl, rfl⟩, rfl⟩
        refine ⟨(se (se (ss (ss (ss (ss (ss (sn)))))))), ?_⟩
        exact any_weak2 (hK59 v64) [0, 1, 2, 3, 4, 5, 6, 7] (by kernel_rfl) (qv7 rfl rfl rfl rfl rfl rfl rfl) (by decide) rfl
       exact anyo_nil
      refine any_cut2 #[true, true, true, true, false, true, true, false, false, false, false, false] 6 (Value) (fun σ => [(0, boxP f_0b 0), (35, a_1v), (36, .int .i64 (a_1.length : Int)), (37, .int .i64 s_28), (41, boxP f_0b 0), (44, boxP f_0b 4), (47, σ)]) (fun σ => [box f_0b [.int .i64 f_0.Base, .int .i64 f_0.Done, .int .i64 f_0.Serial, .bool f_0.Stopped, v30, f_0_Ordersv], nrow v30 NC_L_int_35 x_29, row f_0_Ordersv 4 (f_0.Orders.map S_api_Order.enc), nro a_1v NC_L_int_35 a_1, box a_1b [a_1v], atc a_1v (s_28.toNat * 1) [g37], ro g37 1 (x36.map (eInt .i64)), row σ 1 (r38.map (eInt .i64))]) ?_ (fun hK65 => ?_)
      ·rintro v46
       change AnyL _ _ _ _ _ (VF.of [(0, boxP f_0b 0), (35, a_1v), (36, .int .i64 (a_1.length : Int)), (37, .int .i64 s_28), (41, boxP f_0b 0), (44, boxP f_0b 4), (47, v46)]) [box f_0b [.int .i64 f_0.Base, .int .i64 f_0.Done, .int .i64 f_0.Serial, .bool f_0.Stopped, v30, f_0_Ordersv], nrow v30 NC_L_int_35 x_29, row f_0_Ordersv 4 (f_0.Orders.map S_api_Order.enc), nro a_1v NC_L_int_35 a_1, box a_1b [a_1v], atc a_1v (s_28.toNat * 1) [g37], ro g37 1 (x36.map (eInt .i64)), row v46 1 (r38.map (eInt .i64))] _
       refine any_all [4, 7] (by kernel_rfl) rfl ?_
       refine anyo_cons ?_ ?_
       ·
        refine any_ty rfl (wn rfl) rfl (y_load_box 0 Try.isAgg56 rfl rfl rfl) ⟨(se (se (ss (ss (ss (ss (ss (sn)))))))), ?_⟩
        exact any_weak2 (hK59 v46) [0, 1, 2, 3, 4, 5, 6, 7] (by kernel_rfl) (qv7 rfl rfl rfl rfl rfl rfl rfl) (by decide) rfl
       refine anyo_cons ?_ ?_
       ·
        refine anyo_turn (Go.Abs.freeze 7 rfl) ?_
        refine anyo_slc 7 rfl reads_ro (fun hs67 hs67o => ?_)
        refine any_t rfl (wn rfl) rfl (t_lit [v46] Try.runUnderlying56 Try.sizeOf35 Try.zeroValue35 rfl (by decide) (by decide) rfl (by intro q hq; simp only [List.mem_cons, List.not_mem_nil, or_false] at hq; rcases hq with rfl <;> first | rfl | (rw [hs67]; rfl))) ?_
        rintro v66 _ ⟨rfl, _⟩
        refine ⟨(se (se (ss (ss (ss (ss (ss (sn)))))))), ?_⟩
        refine any_turn (turn_closeR (C := NC_L_int_35) (l := ([r38] : List (List Int))) 8 [(r38, v46)] rfl (by simp only [List.map_cons, List.map_nil, hs67]; rfl) rfl (hasall_cons (has_cons 7 rfl has_nil) hasall_nil)) ?_
        exact any_weak2 (hK62 (v66, v46)) [0, 1, 2, 3, 4, 5, 6, 7, 8] (by kernel_rfl) (qv7 rfl rfl rfl rfl rfl rfl rfl) (by decide) rfl
       exact anyo_nil
      refine any_all [4, 6] (by kernel_rfl) rfl ?_
      refine anyo_cons ?_ ?_
      ·
       refine any_ty rfl (wn rfl) rfl (y_load_box 0 Try.isAgg56 rfl rfl rfl) ⟨(se (se (ss (ss (ss (ss (ss (sn)))))))), ?_⟩
       exact any_weak2 (hK63 ()) [0, 1, 2, 3, 4, 5, 6] (by kernel_rfl) (qv7 rfl rfl rfl rfl rfl rfl rfl) (by decide) rfl
      refine anyo_cons ?_ ?_
      ·
       refine any_t rfl (wn rfl) rfl (t_callx (vs := [g37]) (cs := []) [(6, 0)] rfl Try.call65 rfl (slices_Clone_int_int_65_ok x36 g37 hr39) (showsX_view 6 rfl views_ro showsX_nil) rfl (.inl rfl)) ?_
       rintro v68 _ ⟨_, ⟨_, rfl, rfl⟩, rfl⟩
       refine ⟨(se (se (ss (ss (ss (ss (ss (sn)))))))), ?_⟩
       exact any_weak2 (hK65 v68) [0, 1, 2, 3, 4, 5, 6, 7] (by kernel_rfl) (qv7 rfl rfl rfl rfl rfl rfl rfl) (by decide) rfl
      exact anyo_nil
     ·replace h := cond_f h hc35
      refine run_exit _ rfl ?_
      obtain rfl := some_eq h
      obtain rfl := hstop33 _ rfl
      exact goes_cut hL24 (x_29, v30) [0, 1, 2, 4, 3] vnil (by decide) rfl rfl
    rintro ⟨x_20, v21⟩ hj
    obtain rfl : o22 = _ := hj
    replace h := after_go ho23
    clear ho23
    change Run _ _ _ (VF.of []) [box f_0b [.int .i64 f_0.Base, .int .i64 f_0.Done, .int .i64 f_0.Serial, .bool f_0.Stopped, v21, f_0_Ordersv], nrow v21 NC_L_int_35 x_20, row f_0_Ordersv 4 (f_0.Orders.map S_api_Order.enc), box a_1b [a_1v], nro a_1v NC_L_int_35 a_1]
    refine run_seq ?_
    refine run_region' ?_
    refine oy rfl rfl (y_assign rfl) ?_
    refine ops_nil ?_
    refine goes_code ?_
    refine run_ret ?_
    obtain ⟨hq69, h⟩ := need_some h
    refine fin_turn (freezeN 1 rfl (fun _ => ne0 hq69)) ?_
    obtain rfl := some_eq h
    refine fin_slots [3] [.int .i64 0] [1, 2, 0, 3] [nro v21 NC_L_int_35 x_20, row f_0_Ordersv 4 (f_0.Orders.map S_api_Order.enc), box f_0b [.int .i64 f_0.Base, .int .i64 f_0.Done, .int .i64 f_0.Serial, .bool f_0.Stopped, v21, f_0_Ordersv], box a_1b [a_1v]] Try.results63 rfl (by decide) rfl ?_
    exact ⟨_, _, rfl, rfl⟩

def topo_change_v1 (n : Nat) (f_0 : S_api_Fleet) (how_1_0 : (List (List Int))) : Option (S_api_Fleet × Int) :=
 obind (topo_ValidFleet n f_0) fun r3 =>
 cond (!r3)
  (some ((S_api_Fleet.mk 0 0 0 false ([] : List (List Int)) ([] : List S_api_Order)), 1))
  (obind (slices_Clone_weirgate_api_Order_weirgate_api_Order_71 f_0.Orders) fun r6 =>
  obind (topo_Begin_1_63 n (S_api_Fleet.mk f_0.Base f_0.Done f_0.Serial f_0.Stopped f_0.Stages r6) how_1_0) fun r10 =>
  cond (decide (r10.1 ≠ 0))
   (some ((S_api_Fleet.mk 0 0 0 false ([] : List (List Int)) ([] : List S_api_Order)), r10.1))
   (some (r10.2, 0)))
theorem topo_change_v1_ok (n : Nat) (f_0 : S_api_Fleet) (how_1_0 : (List (List Int))) (f_0_Stagesv : Value) (f_0_Ordersv : Value) (how_1_0b : Nat) (how_1_0v : Value) {r : S_api_Fleet × Int} (h : topo_change_v1 n f_0 how_1_0 = some r) :
  Meets Try.prog 52 [.agg #[.int .i64 f_0.Base, .int .i64 f_0.Done, .int .i64 f_0.Serial, .bool f_0.Stopped, f_0_Stagesv, f_0_Ordersv], .func (.func 63) #[] #[boxP how_1_0b 0]] [nro f_0_Stagesv NC_L_int_35 f_0.Stages, ro f_0_Ordersv 4 (f_0.Orders.map S_api_Order.enc), nro how_1_0v NC_L_int_35 how_1_0, box how_1_0b [how_1_0v]] (fun v G => ∃ v0 v1, v = .tuple #[.agg #[.int .i64 r.1.Base, .int .i64 r.1.Done, .int .i64 r.1.Serial, .bool r.1.Stopped, v0, v1], .int .i64 r.2] ∧ G = [nro v0 NC_L_int_35 r.1.Stages, row v1 4 (r.1.Orders.map S_api_Order.enc), box how_1_0b [how_1_0v]]) := by
 refine fn_of_run Try.func52 rfl Try.ntmps52 rfl (fun w0 o0 => ?_)
 refine run_seq ?_
 refine run_region' ?_
 refine ot rfl rfl (t_box rfl) ?_
 rintro _ _ ⟨b1, rfl, rfl⟩
 refine ot rfl rfl (t_alloc Try.zeroValue59) ?_
 rintro _ _ ⟨b2, rfl, rfl⟩
 refine oy rfl rfl (y_assign rfl) ?_
 refine ops_nil ?_
 refine goes_code ?_
 refine run_seq ?_
 refine run_seq ?_
 refine run_region' ?_
 refine oy rfl rfl (y_load_boxagg (c := [.int .i64 f_0.Base, .int .i64 f_0.Done, .int .i64 f_0.Serial, .bool f_0.Stopped, f_0_Stagesv, f_0_Ordersv]) 4 Try.isAgg59 Try.sizeOf59 rfl rfl rfl) ?_
 obtain ⟨r3, hr4, h⟩ := obind_some h
 refine ot rfl rfl (t_callx (vs := [.agg #[.int .i64 f_0.Base, .int .i64 f_0.Done, .int .i64 f_0.Serial, .bool f_0.Stopped, f_0_Stagesv, f_0_Ordersv]]) (cs := []) [(0, 0), (1, 0)] rfl Try.call51 rfl (topo_ValidFleet_ok n f_0 f_0_Stagesv f_0_Ordersv hr4) (showsX_view 0 rfl views_nro (showsX_view 1 rfl views_ro showsX_nil)) rfl (.inl rfl)) ?_
 rintro _ _ ⟨_, ⟨rfl, rfl⟩, rfl⟩
 refine oy rfl rfl (y_not rfl) ?_
 refine ops_nil ?_
 refine goes_code ?_
 refine run_cond (!r3) rfl (fun hc5 => ?_) (fun hc5 => ?_)
 ·replace h := cond_t h hc5
  refine run_seq ?_
  refine run_region' ?_
  refine oy rfl rfl (y_build_struct (cells := #[.int .i64 0, .int .i64 0, .int .i64 0, .bool false, .slice none 0 0, .slice none 0 0]) [] [] Try.zeroValue59 Try.runUnderlying59 (fs_cons Try.sizeOf3 (fs_cons Try.sizeOf3 (fs_cons Try.sizeOf3 (fs_cons Try.sizeOf4 (fs_cons Try.sizeOf56 (fs_cons Try.sizeOf57 fs_nil)))))) rfl rfl rfl) ?_
  refine ot rfl rfl (t_store 5 Try.sizeOf59 rfl rfl rfl rfl (by simp [Value.cells, boxP]) (by simp [Value.cells, Value.oneCell', boxP])) ?_
  rintro _ _ ⟨rfl, rfl⟩
  refine ops_turn (retell 5 (g := box b2 [.int .i64 0, .int .i64 0, .int .i64 0, .bool false, .slice none 0 0, .slice none 0 0]) rfl rfl) ?_
  refine oy rfl rfl (y_assign rfl) ?_
  refine ops_nil ?_
  refine goes_code ?_
  refine run_ret ?_
  refine fin_turn (nilroN NC_L_int_35) ?_
  refine fin_turn (nilrow 4) ?_
  refine fin_turn (retell 7 (g := row (.slice none 0 0) 4 (([] : List S_api_Order).map S_api_Order.enc)) rfl rfl) ?_
  obtain rfl := some_eq h
  refine fin_res [.cell 4 59, .tmp 5] [.agg #[.int .i64 0, .int .i64 0, .int .i64 0, .bool false, (.slice none 0 0), (.slice none 0 0)], .int .i64 1] [6, 7, 3] [nro (.slice none 0 0) NC_L_int_35 ([] : List (List Int)), row (.slice none 0 0) 4 (([] : List S_api_Order).map S_api_Order.enc), box how_1_0b [how_1_0v]] Try.results52 rfl (rescons (res_box 5 Try.isAgg59 Try.sizeOf59 rfl rfl rfl) (rescons (res_tmp rfl) resnil)) (by decide) rfl ?_
  exact ⟨_, _, rfl, rfl⟩
 ·replace h := cond_f h hc5
  refine run_skip ?_
  refine goes_code ?_
  refine run_seq ?_
  refine run_region' ?_
  refine oy rfl rfl (y_fieldAddr_box (sz := 0) Try.runUnderlying59 rfl Try.sizeOf57 rfl) ?_
  refine oy rfl rfl (y_load_box 4 Try.isAgg57 rfl rfl rfl) ?_
  obtain ⟨r6, hr7, h⟩ := obind_some h
  refine ot rfl rfl (t_callx (vs := [f_0_Ordersv]) (cs := []) [(1, 0)] rfl Try.call71 rfl (slices_Clone_weirgate_api_Order_weirgate_api_Order_71_ok f_0.Orders f_0_Ordersv hr7) (showsX_view 1 rfl views_ro showsX_nil) rfl (.inl rfl)) ?_
  rintro v8 _ ⟨_, ⟨_, rfl, rfl⟩, rfl⟩
  refine oy rfl rfl (y_fieldAddr_box (sz := 0) Try.runUnderlying59 rfl Try.sizeOf57 rfl) ?_
  refine ops_slc 6 rfl reads_row (fun hs9 hs9o => ?_)
  refine ot rfl rfl (t_store 4 Try.sizeOf57 rfl rfl rfl (by rw [hs9]; rfl) (by simp [Value.cells, boxP]) (by rw [hs9]; exact allL_cons hs9o (allL_nil))) ?_
  rintro _ _ ⟨rfl, rfl⟩
  refine ops_turn (retell 4 (g := box b1 [.int .i64 f_0.Base, .int .i64 f_0.Done, .int .i64 f_0.Serial, .bool f_0.Stopped, f_0_Stagesv, v8]) rfl (by rw [hs9]; rfl)) ?_
  refine ops_nil ?_
  refine goes_code ?_
  refine run_seq ?_
  refine run_seq ?_
  refine run_weak [(1, .func (.func 63) #[] #[boxP how_1_0b 0]), (2, boxP b1 0), (4, boxP b2 0)] [0, 2, 3, 4, 5, 6] [nro f_0_Stagesv NC_L_int_35 f_0.Stages, nro how_1_0v NC_L_int_35 how_1_0, box how_1_0b [how_1_0v], box b1 [.int .i64 f_0.Base, .int .i64 f_0.Done, .int .i64 f_0.Serial, .bool f_0.Stopped, f_0_Stagesv, v8], box b2 [.int .i64 0, .int .i64 0, .int .i64 0, .bool false, .slice none 0 0, .slice none 0 0], row v8 4 (r6.map S_api_Order.enc)] (qv3 rfl rfl rfl) (by decide) rfl ?_
  refine run_region' ?_
  refine oy rfl rfl (y_move rfl) ?_
  obtain ⟨r10, hr11, h⟩ := obind_some h
  refine ot rfl rfl (t_callx (vs := [boxP b1 0]) (cs := [boxP how_1_0b 0]) [(0, 0), (5, 2), (3, 2), (1, 0), (2, 2)] rfl Try.call63 rfl (topo_Begin_1_63_ok n (S_api_Fleet.mk f_0.Base f_0.Done f_0.Serial f_0.Stopped f_0.Stages r6) how_1_0 b1 f_0_Stagesv v8 how_1_0b how_1_0v hr11) (showsX_view 0 rfl views_nro (showsX_lend 5 rfl (showsX_lend 3 rfl (showsX_view 1 rfl views_nro (showsX_lend 2 rfl showsX_nil))))) rfl (.inl rfl)) ?_
  rintro _ _ ⟨_, ⟨v12, v13, rfl, rfl⟩, rfl⟩
  refine oy rfl rfl (y_assign rfl) ?_
  refine ops_nil ?_
  refine goes_code ?_
  refine run_seq ?_
  refine run_region' ?_
  refine oy rfl rfl (y_move rfl) ?_
  refine oy rfl rfl (y_neq rfl rfl) ?_
  refine ops_nil ?_
  refine goes_code ?_
  refine run_cond (decide (r10.1 ≠ 0)) rfl (fun hc14 => ?_) (fun hc14 => ?_)
  ·replace h := cond_t h hc14
   refine run_seq ?_
   refine run_region' ?_
   refine oy rfl rfl (y_build_struct (cells := #[.int .i64 0, .int .i64 0, .int .i64 0, .bool false, .slice none 0 0, .slice none 0 0]) [] [] Try.zeroValue59 Try.runUnderlying59 (fs_cons Try.sizeOf3 (fs_cons Try.sizeOf3 (fs_cons Try.sizeOf3 (fs_cons Try.sizeOf4 (fs_cons Try.sizeOf56 (fs_cons Try.sizeOf57 fs_nil)))))) rfl rfl rfl) ?_
   refine oy rfl rfl (y_move rfl) ?_
   refine ot rfl rfl (t_store 4 Try.sizeOf59 rfl rfl rfl rfl (by simp [Value.cells, boxP]) (by simp [Value.cells, Value.oneCell', boxP])) ?_
   rintro _ _ ⟨rfl, rfl⟩
   refine ops_turn (retell 4 (g := box b2 [.int .i64 0, .int .i64 0, .int .i64 0, .bool false, .slice none 0 0, .slice none 0 0]) rfl rfl) ?_
   refine oy rfl rfl (y_assign rfl) ?_
   refine ops_nil ?_
   refine goes_code ?_
   refine run_ret ?_
   refine fin_turn (nilroN NC_L_int_35) ?_
   refine fin_turn (nilrow 4) ?_
   refine fin_turn (retell 11 (g := row (.slice none 0 0) 4 (([] : List S_api_Order).map S_api_Order.enc)) rfl rfl) ?_
   obtain rfl := some_eq h
   refine fin_res [.cell 4 59, .tmp 5] [.agg #[.int .i64 0, .int .i64 0, .int .i64 0, .bool false, (.slice none 0 0), (.slice none 0 0)], .int .i64 r10.1] [10, 11, 9] [nro (.slice none 0 0) NC_L_int_35 ([] : List (List Int)), row (.slice none 0 0) 4 (([] : List S_api_Order).map S_api_Order.enc), box how_1_0b [how_1_0v]] Try.results52 rfl (rescons (res_box 4 Try.isAgg59 Try.sizeOf59 rfl rfl rfl) (rescons (res_tmp rfl) resnil)) (by decide) rfl ?_
   exact ⟨_, _, rfl, rfl⟩
  ·replace h := cond_f h hc14
   refine run_skip ?_
   refine goes_code ?_
   refine run_seq ?_
   refine run_region' ?_
   refine oy rfl rfl (y_load_boxagg (c := [.int .i64 r10.2.Base, .int .i64 r10.2.Done, .int .i64 r10.2.Serial, .bool r10.2.Stopped, v12, v13]) 8 Try.isAgg59 Try.sizeOf59 rfl rfl rfl) ?_
   refine ops_slcN 6 rfl readsN_ro (fun hs15 hs15o => ?_)
   refine ops_slc 7 rfl reads_row (fun hs16 hs16o => ?_)
   refine ot rfl rfl (t_store 4 Try.sizeOf59 rfl rfl rfl rfl (by simp [Value.cells, boxP]) (allL_cons rfl (allL_cons rfl (allL_cons rfl (allL_cons rfl (allL_cons hs15o (allL_cons hs16o (allL_nil)))))))) ?_
   rintro _ _ ⟨rfl, rfl⟩
   refine ops_turn (retell 4 (g := box b2 [.int .i64 r10.2.Base, .int .i64 r10.2.Done, .int .i64 r10.2.Serial, .bool r10.2.Stopped, v12, v13]) rfl rfl) ?_
   refine oy rfl rfl (y_assign rfl) ?_
   refine ops_nil ?_
   refine goes_code ?_
   refine run_ret ?_
   obtain rfl := some_eq h
   refine fin_res [.cell 4 59, .tmp 5] [.agg #[.int .i64 r10.2.Base, .int .i64 r10.2.Done, .int .i64 r10.2.Serial, .bool r10.2.Stopped, v12, v13], .int .i64 0] [6, 7, 9] [nro v12 NC_L_int_35 r10.2.Stages, row v13 4 (r10.2.Orders.map S_api_Order.enc), box how_1_0b [how_1_0v]] Try.results52 rfl (rescons (res_box 4 Try.isAgg59 Try.sizeOf59 rfl rfl rfl) (rescons (res_tmp rfl) resnil)) (by decide) rfl ?_
   exact ⟨_, _, rfl, rfl⟩

def topo_Begin (n : Nat) (f_0 : S_api_Fleet) (stages_1 : (List (List Int))) : Option (S_api_Fleet × Int) :=
 obind (topo_change_v1 n f_0 stages_1) fun r5 =>
 some (r5.1, r5.2)
theorem topo_Begin_ok (n : Nat) (f_0 : S_api_Fleet) (stages_1 : (List (List Int))) (f_0_Stagesv : Value) (f_0_Ordersv : Value) (stages_1v : Value) {r : S_api_Fleet × Int} (h : topo_Begin n f_0 stages_1 = some r) :
  Meets Try.prog 33 [.agg #[.int .i64 f_0.Base, .int .i64 f_0.Done, .int .i64 f_0.Serial, .bool f_0.Stopped, f_0_Stagesv, f_0_Ordersv], stages_1v] [nro f_0_Stagesv NC_L_int_35 f_0.Stages, ro f_0_Ordersv 4 (f_0.Orders.map S_api_Order.enc), nro stages_1v NC_L_int_35 stages_1] (fun v G => ∃ v0 v1, v = .tuple #[.agg #[.int .i64 r.1.Base, .int .i64 r.1.Done, .int .i64 r.1.Serial, .bool r.1.Stopped, v0, v1], .int .i64 r.2] ∧ G = [nro v0 NC_L_int_35 r.1.Stages, row v1 4 (r.1.Orders.map S_api_Order.enc)]) := by
 refine fn_of_run Try.func33 rfl Try.ntmps33 rfl (fun w0 o0 => ?_)
 refine run_seq ?_
 refine run_region' ?_
 refine ot rfl rfl (t_box rfl) ?_
 rintro _ _ ⟨b1, rfl, rfl⟩
 refine ot rfl rfl (t_box rfl) ?_
 rintro _ _ ⟨b2, rfl, rfl⟩
 refine ops_slcN 2 rfl readsN_ro (fun hs3 hs3o => ?_)
 refine ops_turn (retell 4 (g := box b2 [stages_1v]) rfl (by rw [hs3])) ?_
 refine ot rfl rfl (t_alloc Try.zeroValue59) ?_
 rintro _ _ ⟨b4, rfl, rfl⟩
 refine oy rfl rfl (y_assign rfl) ?_
 refine ops_nil ?_
 refine goes_code ?_
 refine run_seq ?_
 refine run_region' ?_
 refine oy rfl rfl (y_load_boxagg (c := [.int .i64 f_0.Base, .int .i64 f_0.Done, .int .i64 f_0.Serial, .bool f_0.Stopped, f_0_Stagesv, f_0_Ordersv]) 3 Try.isAgg59 Try.sizeOf59 rfl rfl rfl) ?_
 refine oy rfl rfl (y_makeFunc (vs := [boxP b2 0]) rfl) ?_
 obtain ⟨r5, hr6, h⟩ := obind_some h
 refine ot rfl rfl (t_callx (vs := [.agg #[.int .i64 f_0.Base, .int .i64 f_0.Done, .int .i64 f_0.Serial, .bool f_0.Stopped, f_0_Stagesv, f_0_Ordersv], .func (.func 63) #[] #[boxP b2 0]]) (cs := []) [(0, 0), (1, 0), (2, 0), (4, 2)] rfl Try.call52 rfl (topo_change_v1_ok n f_0 stages_1 f_0_Stagesv f_0_Ordersv b2 stages_1v hr6) (showsX_view 0 rfl views_nro (showsX_view 1 rfl views_ro (showsX_view 2 rfl views_nro (showsX_lend 4 rfl showsX_nil)))) rfl (.inl rfl)) ?_
 rintro _ _ ⟨_, ⟨v7, v8, rfl, rfl⟩, rfl⟩
 refine oy rfl rfl (y_extract rfl rfl) ?_
 refine oy rfl rfl (y_extract rfl rfl) ?_
 refine ops_slcN 6 rfl readsN_ro (fun hs9 hs9o => ?_)
 refine ops_slc 7 rfl reads_row (fun hs10 hs10o => ?_)
 refine ot rfl rfl (t_store 5 Try.sizeOf59 rfl rfl rfl rfl (by simp [Value.cells, boxP]) (allL_cons rfl (allL_cons rfl (allL_cons rfl (allL_cons rfl (allL_cons hs9o (allL_cons hs10o (allL_nil)))))))) ?_
 rintro _ _ ⟨rfl, rfl⟩
 refine ops_turn (retell 5 (g := box b4 [.int .i64 r5.1.Base, .int .i64 r5.1.Done, .int .i64 r5.1.Serial, .bool r5.1.Stopped, v7, v8]) rfl rfl) ?_
 refine oy rfl rfl (y_assign rfl) ?_
 refine ops_nil ?_
 refine goes_code ?_
 refine run_ret ?_
 obtain rfl := some_eq h
 refine fin_res [.cell 4 59, .tmp 5] [.agg #[.int .i64 r5.1.Base, .int .i64 r5.1.Done, .int .i64 r5.1.Serial, .bool r5.1.Stopped, v7, v8], .int .i64 r5.2] [6, 7] [nro v7 NC_L_int_35 r5.1.Stages, row v8 4 (r5.1.Orders.map S_api_Order.enc)] Try.results33 rfl (rescons (res_box 5 Try.isAgg59 Try.sizeOf59 rfl rfl rfl) (rescons (res_tmp rfl) resnil)) (by decide) rfl ?_
 exact ⟨_, _, rfl, rfl⟩

def topo_order_L1 (n : Nat) (f_0 : S_api_Fleet) (stage_1 : Int) (version_2 : Int) : (Int × (List S_api_Order)) → Option (Lp (Int × (List S_api_Order)) (Lp ((List S_api_Order)) (Int × S_api_Fleet))) :=
 fun (s_7, x_8) =>
  cond (decide (s_7 < (f_0.Orders.length : Int)))
   (bindJ (S := (List S_api_Order))
    (idx x_8 s_7 fun x19 =>
    idx f_0.Stages stage_1 fun x20 =>
    obind (slices_Contains_int_int_45 n x20 x19.Site) fun r22 =>
    cond r22
     (some (.go ((x_8.set s_7.toNat (S_api_Order.mk x19.Site version_2 x19.Serial x19.Heard)).set s_7.toNat (S_api_Order.mk ((S_api_Order.mk x19.Site version_2 x19.Serial x19.Heard).Site) ((S_api_Order.mk x19.Site version_2 x19.Serial x19.Heard).Version) (IntKind.i64.wrap (f_0.Serial + 1)) ((S_api_Order.mk x19.Site version_2 x19.Serial x19.Heard).Heard)))))
     (some (.go x_8)))
   (fun x_14 =>
    some (.go ((IntKind.i64.wrap (s_7 + 1)), x_14))))
   (some (.stop (.go x_8)))
def topo_order (n : Nat) (f_0 : S_api_Fleet) (stage_1 : Int) (version_2 : Int) : Option (Int × S_api_Fleet) :=
 cond (decide (f_0.Serial = 1099511627776))
  (some (2, f_0))
  (bindJ (S := (List S_api_Order))
   (iter (topo_order_L1 n f_0 stage_1 version_2) n (0, f_0.Orders))
  (fun x_2 =>
   some (0, (S_api_Fleet.mk f_0.Base f_0.Done (IntKind.i64.wrap (f_0.Serial + 1)) f_0.Stopped f_0.Stages x_2))))
theorem topo_order_ok (n : Nat) (f_0 : S_api_Fleet) (stage_1 : Int) (version_2 : Int) (f_0b : Nat) (f_0_Stagesv : Value) (f_0_Ordersv : Value) {r : Int × S_api_Fleet} (h : topo_order n f_0 stage_1 version_2 = some r) :
  Meets Try.prog 59 [boxP f_0b 0, .int .i64 stage_1, .int .i64 version_2] [nro f_0_Stagesv NC_L_int_35 f_0.Stages, row f_0_Ordersv 4 (f_0.Orders.map S_api_Order.enc), box f_0b [.int .i64 f_0.Base, .int .i64 f_0.Done, .int .i64 f_0.Serial, .bool f_0.Stopped, f_0_Stagesv, f_0_Ordersv]] (fun v G => ∃ v0 v1, v = .int .i64 r.1 ∧ G = [nro v0 NC_L_int_35 r.2.Stages, row v1 4 (r.2.Orders.map S_api_Order.enc), box f_0b [.int .i64 r.2.Base, .int .i64 r.2.Done, .int .i64 r.2.Serial, .bool r.2.Stopped, v0, v1]]) := by
 refine fn_of_run Try.func59 rfl Try.ntmps59 rfl (fun w0 o0 => ?_)
 refine run_seq ?_
 refine run_region' ?_
 refine oy rfl rfl (y_assign rfl) ?_
 refine ops_nil ?_
 refine goes_code ?_
 refine run_seq ?_
 refine run_seq ?_
 refine run_region' ?_
 refine oy rfl rfl (y_move rfl) ?_
 refine oy rfl rfl (y_nilBox rfl) ?_
 refine oy rfl rfl (y_fieldAddr_box (sz := 0) Try.runUnderlying59 rfl Try.sizeOf3 rfl) ?_
 refine oy rfl rfl (y_load_box 2 Try.isAgg3 rfl rfl rfl) ?_
 refine oy rfl rfl (y_eql rfl rfl) ?_
 refine ops_nil ?_
 refine goes_code ?_
 refine run_cond (decide (f_0.Serial = 1099511627776)) rfl (fun hc1 => ?_) (fun hc1 => ?_)
 ·replace h := cond_t h hc1
  refine run_seq ?_
  refine run_region' ?_
  refine oy rfl rfl (y_assign rfl) ?_
  refine ops_nil ?_
  refine goes_code ?_
  refine run_ret ?_
  obtain rfl := some_eq h
  refine fin_slots [6] [.int .i64 2] [0, 1, 2] [nro f_0_Stagesv NC_L_int_35 f_0.Stages, row f_0_Ordersv 4 (f_0.Orders.map S_api_Order.enc), box f_0b [.int .i64 f_0.Base, .int .i64 f_0.Done, .int .i64 f_0.Serial, .bool f_0.Stopped, f_0_Stagesv, f_0_Ordersv]] Try.results59 rfl (by decide) rfl ?_
  exact ⟨_, _, rfl, rfl⟩
 ·replace h := cond_f h hc1
  refine run_skip ?_
  refine goes_code ?_
  refine run_seq ?_
  refine run_region' ?_
  refine oy rfl rfl (y_move rfl) ?_
  refine oy rfl rfl (y_nilBox rfl) ?_
  refine oy rfl rfl (y_fieldAddr_box (sz := 0) Try.runUnderlying59 rfl Try.sizeOf3 rfl) ?_
  refine oy rfl rfl (y_load_box 2 Try.isAgg3 rfl rfl rfl) ?_
  refine oy rfl rfl (y_add rfl rfl) ?_
  refine oy rfl rfl (y_nilBox rfl) ?_
  refine oy rfl rfl (y_fieldAddr_box (sz := 0) Try.runUnderlying59 rfl Try.sizeOf3 rfl) ?_
  refine ot rfl rfl (t_store 2 Try.sizeOf3 rfl rfl rfl rfl (by simp [Value.cells, boxP]) (by simp [Value.cells, Value.oneCell', boxP])) ?_
  rintro _ _ ⟨rfl, rfl⟩
  refine ops_turn (retell 2 (g := box f_0b [.int .i64 f_0.Base, .int .i64 f_0.Done, .int .i64 (IntKind.i64.wrap (f_0.Serial + 1)), .bool f_0.Stopped, f_0_Stagesv, f_0_Ordersv]) rfl rfl) ?_
  refine ops_nil ?_
  refine goes_code ?_
  obtain ⟨o3, h, ho4⟩ := bindJ_some h
  refine run_cut (((List S_api_Order)) × (Unit)) (fun σ => []) (fun σ => [box f_0b [.int .i64 f_0.Base, .int .i64 f_0.Done, .int .i64 (IntKind.i64.wrap (f_0.Serial + 1)), .bool f_0.Stopped, f_0_Stagesv, f_0_Ordersv], nro f_0_Stagesv NC_L_int_35 f_0.Stages, row f_0_Ordersv 4 (σ.1.map S_api_Order.enc)]) (fun σ => o3 = .go σ.1) (fun L6 hL5 => ?_) ?_
  ·
   refine run_seq ?_
   refine run_weak [(0, boxP f_0b 0), (1, .int .i64 stage_1), (2, .int .i64 version_2)] [0, 1, 2] [nro f_0_Stagesv NC_L_int_35 f_0.Stages, row f_0_Ordersv 4 (f_0.Orders.map S_api_Order.enc), box f_0b [.int .i64 f_0.Base, .int .i64 f_0.Done, .int .i64 (IntKind.i64.wrap (f_0.Serial + 1)), .bool f_0.Stopped, f_0_Stagesv, f_0_Ordersv]] (qv3 rfl rfl rfl) (by decide) rfl ?_
   refine run_region' ?_
   refine oy rfl rfl (y_move rfl) ?_
   refine oy rfl rfl (y_nilBox rfl) ?_
   refine oy rfl rfl (y_fieldAddr_box (sz := 0) Try.runUnderlying59 rfl Try.sizeOf57 rfl) ?_
   refine oy rfl rfl (y_load_box 2 Try.isAgg57 rfl rfl rfl) ?_
   refine oy rfl rfl ((y_len 1 rfl Try.runUnderlying57 rfl rfl reads_row).to (v_len S_api_Order.enc _)) ?_
   refine oy rfl rfl (y_move rfl) ?_
   refine ops_nil ?_
   refine goes_code ?_
   refine run_block ?_
   refine run_iter (step := topo_order_L1 n f_0 stage_1 version_2) (n := n) (s0 := (0, f_0.Orders)) h (G := Unit) () (fun σ γ => [(0, boxP f_0b 0), (1, .int .i64 stage_1), (2, .int .i64 version_2), (25, .int .i64 (f_0.Orders.length : Int)), (26, .int .i64 σ.1)]) (fun σ γ => [box f_0b [.int .i64 f_0.Base, .int .i64 f_0.Done, .int .i64 (IntKind.i64.wrap (f_0.Serial + 1)), .bool f_0.Stopped, f_0_Stagesv, f_0_Ordersv], nro f_0_Stagesv NC_L_int_35 f_0.Stages, row f_0_Ordersv 4 (σ.2.map S_api_Order.enc)]) [2, 0, 1] (qv5 rfl rfl rfl rfl rfl) (by decide) rfl ?_
   rintro ⟨s_7, x_8⟩ _ o9 h L12 hgo10 hstop11
   change Run _ _ _ (VF.of [(0, boxP f_0b 0), (1, .int .i64 stage_1), (2, .int .i64 version_2), (25, .int .i64 (f_0.Orders.length : Int)), (26, .int .i64 s_7)]) [box f_0b [.int .i64 f_0.Base, .int .i64 f_0.Done, .int .i64 (IntKind.i64.wrap (f_0.Serial + 1)), .bool f_0.Stopped, f_0_Stagesv, f_0_Ordersv], nro f_0_Stagesv NC_L_int_35 f_0.Stages, row f_0_Ordersv 4 (x_8.map S_api_Order.enc)]
   refine run_seq ?_
   refine run_region' ?_
   refine oy rfl rfl (y_lss rfl rfl) ?_
   refine ops_nil ?_
   refine goes_code ?_
   refine run_seq ?_
   refine run_cond (decide (s_7 < (f_0.Orders.length : Int))) rfl (fun hc13 => ?_) (fun hc13 => ?_)
   ·replace h := cond_t h hc13
    refine run_skip ?_
    refine goes_code ?_
    obtain ⟨o15, h, ho16⟩ := bindJ_some h
    refine run_cut (((List S_api_Order)) × (Unit)) (fun σ => [(0, boxP f_0b 0), (1, .int .i64 stage_1), (2, .int .i64 version_2), (25, .int .i64 (f_0.Orders.length : Int)), (26, .int .i64 s_7)]) (fun σ => [box f_0b [.int .i64 f_0.Base, .int .i64 f_0.Done, .int .i64 (IntKind.i64.wrap (f_0.Serial + 1)), .bool f_0.Stopped, f_0_Stagesv, f_0_Ordersv], nro f_0_Stagesv NC_L_int_35 f_0.Stages, row f_0_Ordersv 4 (σ.1.map S_api_Order.enc)]) (fun σ => o15 = .go σ.1) (fun L18 hL17 => ?_) ?_
    ·
     refine run_block ?_
     refine run_seq ?_
     refine run_region' ?_
     refine oy rfl rfl (y_move rfl) ?_
     refine oy rfl rfl (y_assign rfl) ?_
     refine ops_nil ?_
     refine goes_code ?_
     refine run_seq ?_
     refine run_region' ?_
     refine oy rfl rfl (y_move rfl) ?_
     refine oy rfl rfl (y_nilBox rfl) ?_
     refine oy rfl rfl (y_fieldAddr_box (sz := 0) Try.runUnderlying59 rfl Try.sizeOf57 rfl) ?_
     refine oy rfl rfl (y_load_box 0 Try.isAgg57 rfl rfl rfl) ?_
     refine oy rfl rfl (y_move rfl) ?_
     obtain ⟨x19, hzx19, hlx19, hxx19, h⟩ := idx_some h
     refine oy rfl rfl (y_indexAddrI (kd := .i64) (i := s_7) 2 Try.runUnderlying57 Try.sizeOf108 rfl rfl rfl reads_row hzx19 (map_lt hlx19)) ?_
     refine oy rfl rfl (y_assign rfl) ?_
     refine ops_nil ?_
     refine goes_code ?_
     refine run_seq ?_
     refine run_weak [(0, boxP f_0b 0), (1, .int .i64 stage_1), (2, .int .i64 version_2), (25, .int .i64 (f_0.Orders.length : Int)), (26, .int .i64 s_7), (8, elemP f_0_Ordersv (s_7.toNat * 4))] [0, 1, 2] [box f_0b [.int .i64 f_0.Base, .int .i64 f_0.Done, .int .i64 (IntKind.i64.wrap (f_0.Serial + 1)), .bool f_0.Stopped, f_0_Stagesv, f_0_Ordersv], nro f_0_Stagesv NC_L_int_35 f_0.Stages, row f_0_Ordersv 4 (x_8.map S_api_Order.enc)] (qv6 rfl rfl rfl rfl rfl rfl) (by decide) rfl ?_
     refine run_drawany [box f_0b [.int .i64 f_0.Base, .int .i64 f_0.Done, .int .i64 (IntKind.i64.wrap (f_0.Serial + 1)), .bool f_0.Stopped, f_0_Stagesv, f_0_Ordersv], nro f_0_Stagesv NC_L_int_35 f_0.Stages, row f_0_Ordersv 4 (x_8.map S_api_Order.enc)] (by kernel_rfl) ?_
     refine any_y 0 rfl (by kernel_rfl) (by kernel_rfl) (by kernel_rfl) (ss (ss (ss (sn)))) (wn rfl) rfl (y_move rfl) ?_
     refine any_y 1 rfl (by kernel_rfl) (by kernel_rfl) (by kernel_rfl) (ss (ss (ss (sn)))) (wn rfl) rfl (y_nilBox rfl) ?_
     refine any_y 2 rfl (by kernel_rfl) (by kernel_rfl) (by kernel_rfl) (ss (ss (ss (sn)))) (wn rfl) rfl (y_fieldAddr_box (sz := 0) Try.runUnderlying59 rfl Try.sizeOf56 rfl) ?_
     refine any_y 3 rfl (by kernel_rfl) (by kernel_rfl) (by kernel_rfl) (ss (ss (ss (sn)))) (wn rfl) rfl (y_load_box 0 Try.isAgg56 rfl rfl rfl) ?_
     refine any_y 4 rfl (by kernel_rfl) (by kernel_rfl) (by kernel_rfl) (ss (ss (ss (sn)))) (wn rfl) rfl (y_move rfl) ?_
     obtain ⟨x20, hzx20, hlx20, hxx20, h⟩ := idx_some h
     refine any_y 5 rfl (by kernel_rfl) (by kernel_rfl) (by kernel_rfl) (ss (ss (ss (sn)))) (wn rfl) rfl (y_indexAddrN (kd := .i64) (i := stage_1) 1 Try.runUnderlying56 Try.sizeOf35 rfl rfl rfl readsN_ro hzx20 hlx20) ?_
     refine any_ex (exAt (C := NC_L_int_35) (i := stage_1.toNat) 1 rfl hxx20) ?_
     rintro g21
     refine any_y 7 rfl (by kernel_rfl) (by kernel_rfl) (by kernel_rfl) (ss (ss (ss (sn)))) (wn rfl) rfl (y_move rfl) ?_
     refine any_y 8 rfl (by kernel_rfl) (by kernel_rfl) (by kernel_rfl) (ss (ss (ss (sn)))) (wn rfl) rfl (y_nilE rfl) ?_
     refine any_y 9 rfl (by kernel_rfl) (by kernel_rfl) (by kernel_rfl) (ss (ss (ss (sn)))) (wn rfl) rfl (y_fieldAddr_elem (sz := 0) Try.runUnderlying108 rfl Try.sizeOf3 rfl) ?_
     refine any_y 10 rfl (by kernel_rfl) (by kernel_rfl) (by kernel_rfl) (ss (ss (ss (sn)))) (wn rfl) rfl (y_load_field (i := s_7.toNat) (j := 0) 2 Try.isAgg3 rfl rfl reads_row (map_get hxx19) rfl) ?_
     refine any_all [6] (by kernel_rfl) rfl (anyo_cons ?_ anyo_nil)
     refine any_ty rfl (wn rfl) rfl (y_load_at (n := stage_1.toNat * 1) (j := 0) 3 Try.isAgg35 rfl rfl rfl) ⟨(ss (ss (ss (sn)))), ?_⟩
     refine any_all [11] (by kernel_rfl) rfl (anyo_cons ?_ anyo_nil)
     obtain ⟨r22, hr23, h⟩ := obind_some h
     refine any_t rfl (wn rfl) rfl (t_callx (vs := [g21, .int .i64 x19.Site]) (cs := []) [(4, 0)] rfl Try.call45 rfl (slices_Contains_int_int_45_ok n x20 x19.Site g21 hr23) (showsX_view 4 rfl views_ro showsX_nil) rfl (.inl rfl)) ?_
     rintro _ _ ⟨_, ⟨rfl, rfl⟩, rfl⟩
     refine ⟨(ss (ss (ss (sn)))), ?_⟩
     refine any_nil (by kernel_rfl) ?_
     refine goes_code ?_
     refine run_cond r22 rfl (fun hc24 => ?_) (fun hc24 => ?_)
     ·replace h := cond_t h hc24
      refine run_weak [(0, boxP f_0b 0), (1, .int .i64 stage_1), (2, .int .i64 version_2), (25, .int .i64 (f_0.Orders.length : Int)), (26, .int .i64 s_7), (8, elemP f_0_Ordersv (s_7.toNat * 4))] [0, 1, 2] [box f_0b [.int .i64 f_0.Base, .int .i64 f_0.Done, .int .i64 (IntKind.i64.wrap (f_0.Serial + 1)), .bool f_0.Stopped, f_0_Stagesv, f_0_Ordersv], nro f_0_Stagesv NC_L_int_35 f_0.Stages, row f_0_Ordersv 4 (x_8.map S_api_Order.enc)] (qv6 rfl rfl rfl rfl rfl rfl) (by decide) rfl ?_
      refine run_region' ?_
      refine oy rfl rfl (y_move rfl) ?_
      refine oy rfl rfl (y_move rfl) ?_
      refine oy rfl rfl (y_move rfl) ?_
      refine oy rfl rfl (y_move rfl) ?_
      refine oy rfl rfl (y_nilBox rfl) ?_
      refine oy rfl rfl (y_fieldAddr_box (sz := 0) Try.runUnderlying59 rfl Try.sizeOf3 rfl) ?_
      refine oy rfl rfl (y_load_box 0 Try.isAgg3 rfl rfl rfl) ?_
      refine oy rfl rfl (y_nilE rfl) ?_
      refine oy rfl rfl (y_fieldAddr_elem (sz := 0) Try.runUnderlying108 rfl Try.sizeOf3 rfl) ?_
      refine ot rfl rfl (t_store_row (i := s_7.toNat) (j := 1) (c := S_api_Order.enc x19) 2 Try.sizeOf3 rfl rfl rfl rfl (map_get hxx19) (by decide) (by simp [Value.cells, Value.oneCell', boxP])) ?_
      rintro _ _ ⟨rfl, rfl⟩
      obtain hxx25 : ((x_8.set s_7.toNat (S_api_Order.mk x19.Site version_2 x19.Serial x19.Heard)) : List S_api_Order)[s_7.toNat]? = some (S_api_Order.mk x19.Site version_2 x19.Serial x19.Heard) := set_at hlx19
      obtain hlx25 : s_7.toNat < ((x_8.set s_7.toNat (S_api_Order.mk x19.Site version_2 x19.Serial x19.Heard)) : List S_api_Order).length := set_lt hlx19
      obtain hzx25 : (0 : Int) ≤ s_7 := id hzx19
      refine ops_turn (retell 2 (g := row f_0_Ordersv 4 ((x_8.set s_7.toNat (S_api_Order.mk x19.Site version_2 x19.Serial x19.Heard)).map S_api_Order.enc)) rfl (congrArg (row _ _) (map_set_at rfl))) ?_
      refine oy rfl rfl (y_nilE rfl) ?_
      refine oy rfl rfl (y_fieldAddr_elem (sz := 0) Try.runUnderlying108 rfl Try.sizeOf3 rfl) ?_
      refine ot rfl rfl (t_store_row (i := s_7.toNat) (j := 2) (c := S_api_Order.enc (S_api_Order.mk x19.Site version_2 x19.Serial x19.Heard)) 2 Try.sizeOf3 rfl rfl rfl rfl (map_get hxx25) (by decide) (by simp [Value.cells, Value.oneCell', boxP])) ?_
      rintro _ _ ⟨rfl, rfl⟩
      obtain hxx26 : (((x_8.set s_7.toNat (S_api_Order.mk x19.Site version_2 x19.Serial x19.Heard)).set s_7.toNat (S_api_Order.mk ((S_api_Order.mk x19.Site version_2 x19.Serial x19.Heard).Site) ((S_api_Order.mk x19.Site version_2 x19.Serial x19.Heard).Version) (IntKind.i64.wrap (f_0.Serial + 1)) ((S_api_Order.mk x19.Site version_2 x19.Serial x19.Heard).Heard))) : List S_api_Order)[s_7.toNat]? = some (S_api_Order.mk ((S_api_Order.mk x19.Site version_2 x19.Serial x19.Heard).Site) ((S_api_Order.mk x19.Site version_2 x19.Serial x19.Heard).Version) (IntKind.i64.wrap (f_0.Serial + 1)) ((S_api_Order.mk x19.Site version_2 x19.Serial x19.Heard).Heard)) := set_at hlx25
      obtain hlx26 : s_7.toNat < (((x_8.set s_7.toNat (S_api_Order.mk x19.Site version_2 x19.Serial x19.Heard)).set s_7.toNat (S_api_Order.mk ((S_api_Order.mk x19.Site version_2 x19.Serial x19.Heard).Site) ((S_api_Order.mk x19.Site version_2 x19.Serial x19.Heard).Version) (IntKind.i64.wrap (f_0.Serial + 1)) ((S_api_Order.mk x19.Site version_2 x19.Serial x19.Heard).Heard))) : List S_api_Order).length := set_lt hlx25
      obtain hzx26 : (0 : Int) ≤ s_7 := id hzx25
      refine ops_turn (retell 2 (g := row f_0_Ordersv 4 (((x_8.set s_7.toNat (S_api_Order.mk x19.Site version_2 x19.Serial x19.Heard)).set s_7.toNat (S_api_Order.mk ((S_api_Order.mk x19.Site version_2 x19.Serial x19.Heard).Site) ((S_api_Order.mk x19.Site version_2 x19.Serial x19.Heard).Version) (IntKind.i64.wrap (f_0.Serial + 1)) ((S_api_Order.mk x19.Site version_2 x19.Serial x19.Heard).Heard))).map S_api_Order.enc)) rfl (congrArg (row _ _) (map_set_at rfl))) ?_
      refine ops_nil ?_
      refine goes_blk ?_
      obtain rfl := some_eq h
      exact goes_cut hL17 (((x_8.set s_7.toNat (S_api_Order.mk x19.Site version_2 x19.Serial x19.Heard)).set s_7.toNat (S_api_Order.mk ((S_api_Order.mk x19.Site version_2 x19.Serial x19.Heard).Site) ((S_api_Order.mk x19.Site version_2 x19.Serial x19.Heard).Version) (IntKind.i64.wrap (f_0.Serial + 1)) ((S_api_Order.mk x19.Site version_2 x19.Serial x19.Heard).Heard))), ()) [0, 1, 2] (qv5 rfl rfl rfl rfl rfl) (by decide) rfl rfl
     ·replace h := cond_f h hc24
      refine run_skip ?_
      refine goes_blk ?_
      obtain rfl := some_eq h
      exact goes_cut hL17 (x_8, ()) [0, 1, 2] (qv5 rfl rfl rfl rfl rfl) (by decide) rfl rfl
    rintro ⟨x_14, _⟩ hj
    obtain rfl : o15 = _ := hj
    replace h := after_go ho16
    clear ho16
    change Run _ _ _ (VF.of [(0, boxP f_0b 0), (1, .int .i64 stage_1), (2, .int .i64 version_2), (25, .int .i64 (f_0.Orders.length : Int)), (26, .int .i64 s_7)]) [box f_0b [.int .i64 f_0.Base, .int .i64 f_0.Done, .int .i64 (IntKind.i64.wrap (f_0.Serial + 1)), .bool f_0.Stopped, f_0_Stagesv, f_0_Ordersv], nro f_0_Stagesv NC_L_int_35 f_0.Stages, row f_0_Ordersv 4 (x_14.map S_api_Order.enc)]
    refine run_region' ?_
    refine oy rfl rfl (y_add rfl rfl) ?_
    refine oy rfl rfl (y_move rfl) ?_
    refine ops_nil ?_
    obtain rfl := some_eq h
    exact goes_iter hgo10 ((IntKind.i64.wrap (s_7 + 1)), x_14) () [0, 1, 2] rfl (qv5 rfl rfl rfl rfl rfl) (by decide) rfl
   ·replace h := cond_f h hc13
    refine run_exit _ rfl ?_
    obtain rfl := some_eq h
    obtain rfl := hstop11 _ rfl
    exact goes_cut hL5 (x_8, ()) [0, 1, 2] vnil (by decide) rfl rfl
  rintro ⟨x_2, _⟩ hj
  obtain rfl : o3 = _ := hj
  replace h := after_go ho4
  clear ho4
  change Run _ _ _ (VF.of []) [box f_0b [.int .i64 f_0.Base, .int .i64 f_0.Done, .int .i64 (IntKind.i64.wrap (f_0.Serial + 1)), .bool f_0.Stopped, f_0_Stagesv, f_0_Ordersv], nro f_0_Stagesv NC_L_int_35 f_0.Stages, row f_0_Ordersv 4 (x_2.map S_api_Order.enc)]
  refine run_seq ?_
  refine run_region' ?_
  refine oy rfl rfl (y_assign rfl) ?_
  refine ops_nil ?_
  refine goes_code ?_
  refine run_ret ?_
  obtain rfl := some_eq h
  refine fin_slots [6] [.int .i64 0] [1, 2, 0] [nro f_0_Stagesv NC_L_int_35 f_0.Stages, row f_0_Ordersv 4 (x_2.map S_api_Order.enc), box f_0b [.int .i64 f_0.Base, .int .i64 f_0.Done, .int .i64 (IntKind.i64.wrap (f_0.Serial + 1)), .bool f_0.Stopped, f_0_Stagesv, f_0_Ordersv]] Try.results59 rfl (by decide) rfl ?_
  exact ⟨_, _, rfl, rfl⟩

end Go.Proofs.Ytigiikkenamneaa
