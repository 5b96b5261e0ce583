/-
  Functions of the program, lifted: part 3.
-/
import Derived.Test.YtigiikkenamneaaBFb
namespace Go.Proofs.Ytigiikkenamneaa
open Go.Abs
set_option linter.unusedVariables false
set_option linter.unusedSimpArgs false
set_option maxRecDepth 20000
set_option maxHeartbeats 4000000

def topo_Forward_1_60 (n : Nat) (f_0 : S_api_Fleet) : Option (Int × S_api_Fleet) :=
 bindJ (S := Bool)
  (cond (decide (f_0.Done = (f_0.Stages.length : Int)) || f_0.Stopped)
   (some (.go true))
   (obind (topo_isSettled n f_0) fun r10 =>
   some (.go (!r10))))
 (fun b4 =>
  cond b4
   (some (4, f_0))
   (obind (topo_order n (S_api_Fleet.mk f_0.Base (IntKind.i64.wrap (f_0.Done + 1)) f_0.Serial f_0.Stopped f_0.Stages f_0.Orders) (IntKind.i64.wrap ((IntKind.i64.wrap (f_0.Done + 1)) - 1)) (IntKind.i64.wrap (f_0.Base + 1))) fun r13 =>
   some (r13.1, r13.2)))
theorem topo_Forward_1_60_ok (n : Nat) (f_0 : S_api_Fleet) (f_0b : Nat) (f_0_Stagesv : Value) (f_0_Ordersv : Value) {r : Int × S_api_Fleet} (h : topo_Forward_1_60 n f_0 = some r) :
  Meets Try.prog 60 [boxP f_0b 0] [nro f_0_Stagesv NC_L_int_35 f_0.Stages, row f_0_Ordersv 4 (f_0.Orders.map S_api_Order.enc), box f_0b [.int .i64 f_0.Base, .int .i64 f_0.Done, .int .i64 f_0.Serial, .bool f_0.Stopped, f_0_Stagesv, f_0_Ordersv]] (fun v G => ∃ v0 v1, v = .int .i64 r.1 ∧ G = [nro v0 NC_L_int_35 r.2.Stages, row v1 4 (r.2.Orders.map S_api_Order.enc), box f_0b [.int .i64 r.2.Base, .int .i64 r.2.Done, .int .i64 r.2.Serial, .bool r.2.Stopped, v0, v1]]) := by
 refine fn_of_run Try.func60 rfl Try.ntmps60 rfl (fun w0 o0 => ?_)
 refine run_seq ?_
 refine run_region' ?_
 refine oy rfl rfl (y_assign rfl) ?_
 refine ops_nil ?_
 refine goes_code ?_
 refine run_seq ?_
 refine run_seq ?_
 refine run_drawany [nro f_0_Stagesv NC_L_int_35 f_0.Stages, row f_0_Ordersv 4 (f_0.Orders.map S_api_Order.enc), box f_0b [.int .i64 f_0.Base, .int .i64 f_0.Done, .int .i64 f_0.Serial, .bool f_0.Stopped, f_0_Stagesv, f_0_Ordersv]] (by kernel_rfl) ?_
 refine any_y 0 rfl (by kernel_rfl) (by kernel_rfl) (by kernel_rfl) (ss (ss (ss (sn)))) (wn rfl) rfl (y_move rfl) ?_
 refine any_y 1 rfl (by kernel_rfl) (by kernel_rfl) (by kernel_rfl) (ss (ss (ss (sn)))) (wn rfl) rfl (y_nilBox rfl) ?_
 refine any_y 2 rfl (by kernel_rfl) (by kernel_rfl) (by kernel_rfl) (ss (ss (ss (sn)))) (wn rfl) rfl (y_fieldAddr_box (sz := 0) Try.runUnderlying59 rfl Try.sizeOf3 rfl) ?_
 refine any_y 3 rfl (by kernel_rfl) (by kernel_rfl) (by kernel_rfl) (ss (ss (ss (sn)))) (wn rfl) rfl (y_load_box 2 Try.isAgg3 rfl rfl rfl) ?_
 refine any_y 4 rfl (by kernel_rfl) (by kernel_rfl) (by kernel_rfl) (ss (ss (ss (sn)))) (wn rfl) rfl (y_move rfl) ?_
 refine any_y 5 rfl (by kernel_rfl) (by kernel_rfl) (by kernel_rfl) (ss (ss (ss (sn)))) (wn rfl) rfl (y_nilBox rfl) ?_
 refine any_y 6 rfl (by kernel_rfl) (by kernel_rfl) (by kernel_rfl) (ss (ss (ss (sn)))) (wn rfl) rfl (y_fieldAddr_box (sz := 0) Try.runUnderlying59 rfl Try.sizeOf56 rfl) ?_
 refine any_y 7 rfl (by kernel_rfl) (by kernel_rfl) (by kernel_rfl) (ss (ss (ss (sn)))) (wn rfl) rfl (y_load_box 2 Try.isAgg56 rfl rfl rfl) ?_
 refine any_y 8 rfl (by kernel_rfl) (by kernel_rfl) (by kernel_rfl) (ss (ss (ss (sn)))) (wn rfl) rfl (y_lenN 0 rfl Try.runUnderlying56 rfl rfl readsN_ro) ?_
 refine any_y 9 rfl (by kernel_rfl) (by kernel_rfl) (by kernel_rfl) (ss (ss (ss (sn)))) (wn rfl) rfl (y_eql rfl rfl) ?_
 refine any_y 10 rfl (by kernel_rfl) (by kernel_rfl) (by kernel_rfl) (ss (ss (ss (sn)))) (wn rfl) rfl (y_move rfl) ?_
 refine any_cut #[true, true, true, true, true, true, true, true, true, true, true, true, true, true, true, true, false, false, false, false, false, false, false] 7 Bool (fun σ => [(0, boxP f_0b 0), (18, .bool σ)]) (fun σ => [nro f_0_Stagesv NC_L_int_35 f_0.Stages, row f_0_Ordersv 4 (f_0.Orders.map S_api_Order.enc), box f_0b [.int .i64 f_0.Base, .int .i64 f_0.Done, .int .i64 f_0.Serial, .bool f_0.Stopped, f_0_Stagesv, f_0_Ordersv]]) (fun σ => σ = (decide (f_0.Done = (f_0.Stages.length : Int)) || f_0.Stopped)) (fun hL2 => ?_) ?_
 ·refine any_split 13 (decide (f_0.Done = (f_0.Stages.length : Int))) rfl (fun hg3 => ?_) (fun hg3 => ?_)
  ·skip
   refine any_no 11 rfl (by kernel_rfl) (by kernel_rfl) (by kernel_rfl) (ss (ss (ss (sn)))) 10 false 13 rfl rfl rfl rfl rfl ?_
   refine any_no 12 rfl (by kernel_rfl) (by kernel_rfl) (by kernel_rfl) (ss (ss (ss (sn)))) 10 false 13 rfl rfl rfl rfl rfl ?_
   refine any_no 13 rfl (by kernel_rfl) (by kernel_rfl) (by kernel_rfl) (ss (ss (ss (sn)))) 10 false 13 rfl rfl rfl rfl rfl ?_
   refine any_no 14 rfl (by kernel_rfl) (by kernel_rfl) (by kernel_rfl) (ss (ss (ss (sn)))) 10 false 13 rfl rfl rfl rfl rfl ?_
   refine any_y 15 rfl (by kernel_rfl) (by kernel_rfl) (by kernel_rfl) (ss (ss (ss (sn)))) (wn rfl) rfl (y_pick (b := true) rfl rfl) ?_
   exact any_weak [(0, boxP f_0b 0), (18, .bool true)] [0, 1, 2] [nro f_0_Stagesv NC_L_int_35 f_0.Stages, row f_0_Ordersv 4 (f_0.Orders.map S_api_Order.enc), box f_0b [.int .i64 f_0.Base, .int .i64 f_0.Done, .int .i64 f_0.Serial, .bool f_0.Stopped, f_0_Stagesv, f_0_Ordersv]] (by kernel_rfl) (qv2 rfl rfl) (by decide) rfl (hL2 true (by rw [hg3]; simp))
  ·skip
   refine any_y 11 rfl (by kernel_rfl) (by kernel_rfl) (by kernel_rfl) (ss (ss (ss (sn)))) (wg 10 false 13 rfl rfl rfl rfl) rfl (y_move rfl) ?_
   refine any_y 12 rfl (by kernel_rfl) (by kernel_rfl) (by kernel_rfl) (ss (ss (ss (sn)))) (wg 10 false 13 rfl rfl rfl rfl) rfl (y_nilBox rfl) ?_
   refine any_y 13 rfl (by kernel_rfl) (by kernel_rfl) (by kernel_rfl) (ss (ss (ss (sn)))) (wg 10 false 13 rfl rfl rfl rfl) rfl (y_fieldAddr_box (sz := 0) Try.runUnderlying59 rfl Try.sizeOf4 rfl) ?_
   refine any_y 14 rfl (by kernel_rfl) (by kernel_rfl) (by kernel_rfl) (ss (ss (ss (sn)))) (wg 10 false 13 rfl rfl rfl rfl) rfl (y_load_box 2 Try.isAgg4 rfl rfl rfl) ?_
   refine any_y 15 rfl (by kernel_rfl) (by kernel_rfl) (by kernel_rfl) (ss (ss (ss (sn)))) (wn rfl) rfl (y_pick (b := false) rfl rfl) ?_
   exact any_weak [(0, boxP f_0b 0), (18, .bool f_0.Stopped)] [0, 1, 2] [nro f_0_Stagesv NC_L_int_35 f_0.Stages, row f_0_Ordersv 4 (f_0.Orders.map S_api_Order.enc), box f_0b [.int .i64 f_0.Base, .int .i64 f_0.Done, .int .i64 f_0.Serial, .bool f_0.Stopped, f_0_Stagesv, f_0_Ordersv]] (by kernel_rfl) (qv2 rfl rfl) (by decide) rfl (hL2 f_0.Stopped (by rw [hg3]; simp))
 rintro _ rfl
 refine any_y 16 rfl (by kernel_rfl) (by kernel_rfl) (by kernel_rfl) (ss (ss (ss (sn)))) (wn rfl) rfl (y_move rfl) ?_
 obtain ⟨o5, h, ho6⟩ := bindJ_some h
 refine any_cut #[true, true, true, true, true, true, true, true, true, true, true, true, true, true, true, true, true, true, true, true, true, true, true] 0 Bool (fun σ => [(0, boxP f_0b 0), (25, .bool σ)]) (fun σ => [nro f_0_Stagesv NC_L_int_35 f_0.Stages, row f_0_Ordersv 4 (f_0.Orders.map S_api_Order.enc), box f_0b [.int .i64 f_0.Base, .int .i64 f_0.Done, .int .i64 f_0.Serial, .bool f_0.Stopped, f_0_Stagesv, f_0_Ordersv]]) (fun σ => o5 = .go σ) (fun hL8 => ?_) ?_
 ·refine any_split 19 (decide (f_0.Done = (f_0.Stages.length : Int)) || f_0.Stopped) rfl (fun hg9 => ?_) (fun hg9 => ?_)
  ·replace h := cond_t h hg9
   refine any_no 17 rfl (by kernel_rfl) (by kernel_rfl) (by kernel_rfl) (ss (ss (ss (sn)))) 16 false 19 rfl rfl rfl rfl rfl ?_
   refine any_no 18 rfl (by kernel_rfl) (by kernel_rfl) (by kernel_rfl) (ss (ss (ss (sn)))) 16 false 19 rfl rfl rfl rfl rfl ?_
   refine any_no 19 rfl (by kernel_rfl) (by kernel_rfl) (by kernel_rfl) (ss (ss (ss (sn)))) 16 false 19 rfl rfl rfl rfl rfl ?_
   refine any_no 20 rfl (by kernel_rfl) (by kernel_rfl) (by kernel_rfl) (ss (ss (ss (sn)))) 16 false 19 rfl rfl rfl rfl rfl ?_
   refine any_no 21 rfl (by kernel_rfl) (by kernel_rfl) (by kernel_rfl) (ss (ss (ss (sn)))) 16 false 19 rfl rfl rfl rfl rfl ?_
   refine any_y 22 rfl (by kernel_rfl) (by kernel_rfl) (by kernel_rfl) (ss (ss (ss (sn)))) (wn rfl) rfl (y_pick (b := true) rfl rfl) ?_
   obtain rfl := some_eq h
   exact any_weak [(0, boxP f_0b 0), (25, .bool true)] [0, 1, 2] [nro f_0_Stagesv NC_L_int_35 f_0.Stages, row f_0_Ordersv 4 (f_0.Orders.map S_api_Order.enc), box f_0b [.int .i64 f_0.Base, .int .i64 f_0.Done, .int .i64 f_0.Serial, .bool f_0.Stopped, f_0_Stagesv, f_0_Ordersv]] (by kernel_rfl) (qv2 rfl rfl) (by decide) rfl (hL8 true rfl)
  ·replace h := cond_f h hg9
   refine any_y 17 rfl (by kernel_rfl) (by kernel_rfl) (by kernel_rfl) (ss (ss (ss (sn)))) (wg 16 false 19 rfl rfl rfl rfl) rfl (y_move rfl) ?_
   refine any_y 18 rfl (by kernel_rfl) (by kernel_rfl) (by kernel_rfl) (ss (ss (ss (sn)))) (wg 16 false 19 rfl rfl rfl rfl) rfl (y_nilBox rfl) ?_
   refine any_y 19 rfl (by kernel_rfl) (by kernel_rfl) (by kernel_rfl) (ss (ss (ss (sn)))) (wg 16 false 19 rfl rfl rfl rfl) rfl (y_load_boxagg (c := [.int .i64 f_0.Base, .int .i64 f_0.Done, .int .i64 f_0.Serial, .bool f_0.Stopped, f_0_Stagesv, f_0_Ordersv]) 2 Try.isAgg59 Try.sizeOf59 rfl rfl rfl) ?_
   refine any_all [20] (by kernel_rfl) rfl (anyo_cons ?_ anyo_nil)
   obtain ⟨r10, hr11, h⟩ := obind_some h
   refine any_t rfl (wg 16 false 19 rfl rfl rfl rfl) rfl (t_callx (vs := [.agg #[.int .i64 f_0.Base, .int .i64 f_0.Done, .int .i64 f_0.Serial, .bool f_0.Stopped, f_0_Stagesv, f_0_Ordersv]]) (cs := []) [(0, 0), (1, 1)] rfl Try.call57 rfl (topo_isSettled_ok n f_0 f_0_Stagesv f_0_Ordersv hr11) (showsX_view 0 rfl views_nro (showsX_look 1 rfl views_row showsX_nil)) rfl (.inr (by rintro _ _ ⟨rfl, rfl⟩ g hg; first | (cases hg; done) | (simp only [List.mem_cons, List.not_mem_nil, or_false] at hg; first | (subst hg; first | exact strict_row | exact strict_box) | (rcases hg with rfl | rfl <;> first | exact strict_row | exact strict_box) | (rcases hg with rfl | rfl | rfl <;> first | exact strict_row | exact strict_box))))) ?_
   rintro _ _ ⟨_, ⟨rfl, rfl⟩, rfl⟩
   refine ⟨(ss (ss (ss (sn)))), ?_⟩
   refine any_y 21 rfl (by kernel_rfl) (by kernel_rfl) (by kernel_rfl) (ss (ss (ss (sn)))) (wg 16 false 19 rfl rfl rfl rfl) rfl (y_not rfl) ?_
   refine any_y 22 rfl (by kernel_rfl) (by kernel_rfl) (by kernel_rfl) (ss (ss (ss (sn)))) (wn rfl) rfl (y_pick (b := false) rfl rfl) ?_
   obtain rfl := some_eq h
   exact any_weak [(0, boxP f_0b 0), (25, .bool (!r10))] [0, 1, 2] [nro f_0_Stagesv NC_L_int_35 f_0.Stages, row f_0_Ordersv 4 (f_0.Orders.map S_api_Order.enc), box f_0b [.int .i64 f_0.Base, .int .i64 f_0.Done, .int .i64 f_0.Serial, .bool f_0.Stopped, f_0_Stagesv, f_0_Ordersv]] (by kernel_rfl) (qv2 rfl rfl) (by decide) rfl (hL8 (!r10) rfl)
 rintro b4 hj
 obtain rfl : o5 = _ := hj
 replace h := after_go ho6
 clear ho6
 refine any_nil (by kernel_rfl) ?_
 refine goes_code ?_
 refine run_cond b4 rfl (fun hc12 => ?_) (fun hc12 => ?_)
 ·replace h := cond_t h hc12
  refine run_seq ?_
  refine run_region' ?_
  refine oy rfl rfl (y_assign rfl) ?_
  refine ops_nil ?_
  refine goes_code ?_
  refine run_ret ?_
  obtain rfl := some_eq h
  refine fin_slots [2] [.int .i64 4] [0, 1, 2] [nro f_0_Stagesv NC_L_int_35 f_0.Stages, row f_0_Ordersv 4 (f_0.Orders.map S_api_Order.enc), box f_0b [.int .i64 f_0.Base, .int .i64 f_0.Done, .int .i64 f_0.Serial, .bool f_0.Stopped, f_0_Stagesv, f_0_Ordersv]] Try.results60 rfl (by decide) rfl ?_
  exact ⟨_, _, rfl, rfl⟩
 ·replace h := cond_f h hc12
  refine run_skip ?_
  refine goes_code ?_
  refine run_seq ?_
  refine run_region' ?_
  refine oy rfl rfl (y_move rfl) ?_
  refine oy rfl rfl (y_nilBox rfl) ?_
  refine oy rfl rfl (y_fieldAddr_box (sz := 0) Try.runUnderlying59 rfl Try.sizeOf3 rfl) ?_
  refine oy rfl rfl (y_load_box 2 Try.isAgg3 rfl rfl rfl) ?_
  refine oy rfl rfl (y_add rfl rfl) ?_
  refine oy rfl rfl (y_nilBox rfl) ?_
  refine oy rfl rfl (y_fieldAddr_box (sz := 0) Try.runUnderlying59 rfl Try.sizeOf3 rfl) ?_
  refine ot rfl rfl (t_store 2 Try.sizeOf3 rfl rfl rfl rfl (by simp [Value.cells, boxP]) (by simp [Value.cells, Value.oneCell', boxP])) ?_
  rintro _ _ ⟨rfl, rfl⟩
  refine ops_turn (retell 2 (g := box f_0b [.int .i64 f_0.Base, .int .i64 (IntKind.i64.wrap (f_0.Done + 1)), .int .i64 f_0.Serial, .bool f_0.Stopped, f_0_Stagesv, f_0_Ordersv]) rfl rfl) ?_
  refine ops_nil ?_
  refine goes_code ?_
  refine run_seq ?_
  refine run_weak [(0, boxP f_0b 0)] [0, 1, 2] [nro f_0_Stagesv NC_L_int_35 f_0.Stages, row f_0_Ordersv 4 (f_0.Orders.map S_api_Order.enc), box f_0b [.int .i64 f_0.Base, .int .i64 (IntKind.i64.wrap (f_0.Done + 1)), .int .i64 f_0.Serial, .bool f_0.Stopped, f_0_Stagesv, f_0_Ordersv]] (qv1 rfl) (by decide) rfl ?_
  obtain ⟨r13, hr14, h⟩ := obind_some h
  refine run_drawany [nro f_0_Stagesv NC_L_int_35 f_0.Stages, HA.emp, HA.emp] (by kernel_rfl) ?_
  refine any_y 0 rfl (by kernel_rfl) (by kernel_rfl) (by kernel_rfl) (ss (se (se (sn)))) (wn rfl) rfl (y_move rfl) ?_
  refine any_y 1 rfl (by kernel_rfl) (by kernel_rfl) (by kernel_rfl) (ss (se (se (sn)))) (wn rfl) rfl (y_move rfl) ?_
  refine any_y 2 rfl (by kernel_rfl) (by kernel_rfl) (by kernel_rfl) (ss (se (se (sn)))) (wn rfl) rfl (y_nilBox rfl) ?_
  refine any_y 3 rfl (by kernel_rfl) (by kernel_rfl) (by kernel_rfl) (ss (se (se (sn)))) (wn rfl) rfl (y_fieldAddr_box (sz := 0) Try.runUnderlying59 rfl Try.sizeOf3 rfl) ?_
  refine any_y 6 rfl (by kernel_rfl) (by kernel_rfl) (by kernel_rfl) (ss (se (se (sn)))) (wn rfl) rfl (y_move rfl) ?_
  refine any_y 7 rfl (by kernel_rfl) (by kernel_rfl) (by kernel_rfl) (ss (se (se (sn)))) (wn rfl) rfl (y_nilBox rfl) ?_
  refine any_y 8 rfl (by kernel_rfl) (by kernel_rfl) (by kernel_rfl) (ss (se (se (sn)))) (wn rfl) rfl (y_fieldAddr_box (sz := 0) Try.runUnderlying59 rfl Try.sizeOf3 rfl) ?_
  refine any_cut2 #[true, true, true, true, true, true, true, true, true, true, true, true, true] 0 (Value × Value) (fun σ => [(2, .int .i64 r13.1)]) (fun σ => [nro f_0_Stagesv NC_L_int_35 f_0.Stages, HA.emp, HA.emp, nro σ.1 NC_L_int_35 r13.2.Stages, row σ.2 4 (r13.2.Orders.map S_api_Order.enc), box f_0b [.int .i64 r13.2.Base, .int .i64 r13.2.Done, .int .i64 r13.2.Serial, .bool r13.2.Stopped, σ.1, σ.2]]) ?_ (fun hK19 => ?_)
  ·rintro ⟨v17, v18⟩
   change AnyL _ _ _ _ _ (VF.of [(2, .int .i64 r13.1)]) [nro f_0_Stagesv NC_L_int_35 f_0.Stages, HA.emp, HA.emp, nro v17 NC_L_int_35 r13.2.Stages, row v18 4 (r13.2.Orders.map S_api_Order.enc), box f_0b [.int .i64 r13.2.Base, .int .i64 r13.2.Done, .int .i64 r13.2.Serial, .bool r13.2.Stopped, v17, v18]] _
   refine any_nil (by kernel_rfl) ?_
   refine goes_code ?_
   refine run_ret ?_
   obtain rfl := some_eq h
   refine fin_slots [2] [.int .i64 r13.1] [3, 4, 5] [nro v17 NC_L_int_35 r13.2.Stages, row v18 4 (r13.2.Orders.map S_api_Order.enc), box f_0b [.int .i64 r13.2.Base, .int .i64 r13.2.Done, .int .i64 r13.2.Serial, .bool r13.2.Stopped, v17, v18]] Try.results60 rfl (by decide) rfl ?_
   exact ⟨_, _, rfl, rfl⟩
  refine any_cut2 #[true, true, true, true, true, true, true, true, true, true, true, false, false] 2 (Unit) (fun σ => [(33, boxP f_0b 0), (38, .int .i64 (IntKind.i64.wrap ((IntKind.i64.wrap (f_0.Done + 1)) - 1))), (43, .int .i64 (IntKind.i64.wrap (f_0.Base + 1)))]) (fun σ => [nro f_0_Stagesv NC_L_int_35 f_0.Stages, row f_0_Ordersv 4 (f_0.Orders.map S_api_Order.enc), box f_0b [.int .i64 f_0.Base, .int .i64 (IntKind.i64.wrap (f_0.Done + 1)), .int .i64 f_0.Serial, .bool f_0.Stopped, f_0_Stagesv, f_0_Ordersv]]) ?_ (fun hK20 => ?_)
  ·rintro _
   change AnyL _ _ _ _ _ (VF.of [(33, boxP f_0b 0), (38, .int .i64 (IntKind.i64.wrap ((IntKind.i64.wrap (f_0.Done + 1)) - 1))), (43, .int .i64 (IntKind.i64.wrap (f_0.Base + 1)))]) [nro f_0_Stagesv NC_L_int_35 f_0.Stages, row f_0_Ordersv 4 (f_0.Orders.map S_api_Order.enc), box f_0b [.int .i64 f_0.Base, .int .i64 (IntKind.i64.wrap (f_0.Done + 1)), .int .i64 f_0.Serial, .bool f_0.Stopped, f_0_Stagesv, f_0_Ordersv]] _
   refine any_all [11] (by kernel_rfl) rfl ?_
   refine anyo_cons ?_ ?_
   ·
    refine any_t rfl (wn rfl) rfl (t_callx (vs := [boxP f_0b 0, .int .i64 (IntKind.i64.wrap ((IntKind.i64.wrap (f_0.Done + 1)) - 1)), .int .i64 (IntKind.i64.wrap (f_0.Base + 1))]) (cs := []) [(0, 0), (1, 2), (2, 2)] rfl Try.call59 rfl (topo_order_ok n (S_api_Fleet.mk f_0.Base (IntKind.i64.wrap (f_0.Done + 1)) f_0.Serial f_0.Stopped f_0.Stages f_0.Orders) (IntKind.i64.wrap ((IntKind.i64.wrap (f_0.Done + 1)) - 1)) (IntKind.i64.wrap (f_0.Base + 1)) f_0b f_0_Stagesv f_0_Ordersv hr14) (showsX_view 0 rfl views_nro (showsX_lend 1 rfl (showsX_lend 2 rfl showsX_nil))) rfl (.inl rfl)) ?_
    rintro _ _ ⟨_, ⟨v21, v22, rfl, rfl⟩, rfl⟩
    refine ⟨(ss (se (se (sn)))), ?_⟩
    refine any_y 12 rfl (by kernel_rfl) (by kernel_rfl) (by kernel_rfl) (ss (se (se (sn)))) (wn rfl) rfl (y_assign rfl) ?_
    exact any_weak2 (hK19 (v21, v22)) [0, 1, 2, 3, 4, 5] (by kernel_rfl) (qv1 rfl) (by decide) rfl
   exact anyo_nil
  refine any_cut2 #[true, true, true, true, true, true, true, true, true, false, false, false, false] 4 (Unit) (fun σ => [(33, boxP f_0b 0), (41, boxP f_0b 0), (38, .int .i64 (IntKind.i64.wrap ((IntKind.i64.wrap (f_0.Done + 1)) - 1)))]) (fun σ => [nro f_0_Stagesv NC_L_int_35 f_0.Stages, row f_0_Ordersv 4 (f_0.Orders.map S_api_Order.enc), box f_0b [.int .i64 f_0.Base, .int .i64 (IntKind.i64.wrap (f_0.Done + 1)), .int .i64 f_0.Serial, .bool f_0.Stopped, f_0_Stagesv, f_0_Ordersv]]) ?_ (fun hK23 => ?_)
  ·rintro _
   change AnyL _ _ _ _ _ (VF.of [(33, boxP f_0b 0), (41, boxP f_0b 0), (38, .int .i64 (IntKind.i64.wrap ((IntKind.i64.wrap (f_0.Done + 1)) - 1)))]) [nro f_0_Stagesv NC_L_int_35 f_0.Stages, row f_0_Ordersv 4 (f_0.Orders.map S_api_Order.enc), box f_0b [.int .i64 f_0.Base, .int .i64 (IntKind.i64.wrap (f_0.Done + 1)), .int .i64 f_0.Serial, .bool f_0.Stopped, f_0_Stagesv, f_0_Ordersv]] _
   refine any_all [9] (by kernel_rfl) rfl ?_
   refine anyo_cons ?_ ?_
   ·
    refine any_ty rfl (wn rfl) rfl (y_load_box 2 Try.isAgg3 rfl rfl rfl) ⟨(ss (se (se (sn)))), ?_⟩
    refine any_y 10 rfl (by kernel_rfl) (by kernel_rfl) (by kernel_rfl) (ss (se (se (sn)))) (wn rfl) rfl (y_add rfl rfl) ?_
    exact any_weak2 (hK20 ()) [0, 1, 2] (by kernel_rfl) (qv3 rfl rfl rfl) (by decide) rfl
   exact anyo_nil
  refine any_cut2 #[true, true, true, true, false, false, true, true, true, true, true, false, false] 4 (Unit) (fun σ => [(33, boxP f_0b 0), (36, boxP f_0b 1), (43, .int .i64 (IntKind.i64.wrap (f_0.Base + 1)))]) (fun σ => [nro f_0_Stagesv NC_L_int_35 f_0.Stages, row f_0_Ordersv 4 (f_0.Orders.map S_api_Order.enc), box f_0b [.int .i64 f_0.Base, .int .i64 (IntKind.i64.wrap (f_0.Done + 1)), .int .i64 f_0.Serial, .bool f_0.Stopped, f_0_Stagesv, f_0_Ordersv]]) ?_ (fun hK24 => ?_)
  ·rintro _
   change AnyL _ _ _ _ _ (VF.of [(33, boxP f_0b 0), (36, boxP f_0b 1), (43, .int .i64 (IntKind.i64.wrap (f_0.Base + 1)))]) [nro f_0_Stagesv NC_L_int_35 f_0.Stages, row f_0_Ordersv 4 (f_0.Orders.map S_api_Order.enc), box f_0b [.int .i64 f_0.Base, .int .i64 (IntKind.i64.wrap (f_0.Done + 1)), .int .i64 f_0.Serial, .bool f_0.Stopped, f_0_Stagesv, f_0_Ordersv]] _
   refine any_all [4] (by kernel_rfl) rfl ?_
   refine anyo_cons ?_ ?_
   ·
    refine any_ty rfl (wn rfl) rfl (y_load_box 2 Try.isAgg3 rfl rfl rfl) ⟨(ss (se (se (sn)))), ?_⟩
    refine any_y 5 rfl (by kernel_rfl) (by kernel_rfl) (by kernel_rfl) (ss (se (se (sn)))) (wn rfl) rfl (y_sub rfl rfl) ?_
    exact any_weak2 (hK20 ()) [0, 1, 2] (by kernel_rfl) (qv3 rfl rfl rfl) (by decide) rfl
   exact anyo_nil
  refine any_all [4, 9] (by kernel_rfl) rfl ?_
  refine anyo_cons ?_ ?_
  ·
   refine any_ty rfl (wn rfl) rfl (y_load_box 2 Try.isAgg3 rfl rfl rfl) ⟨(ss (se (se (sn)))), ?_⟩
   refine any_y 5 rfl (by kernel_rfl) (by kernel_rfl) (by kernel_rfl) (ss (se (se (sn)))) (wn rfl) rfl (y_sub rfl rfl) ?_
   exact any_weak2 (hK23 ()) [0, 1, 2] (by kernel_rfl) (qv3 rfl rfl rfl) (by decide) rfl
  refine anyo_cons ?_ ?_
  ·
   refine any_ty rfl (wn rfl) rfl (y_load_box 2 Try.isAgg3 rfl rfl rfl) ⟨(ss (se (se (sn)))), ?_⟩
   refine any_y 10 rfl (by kernel_rfl) (by kernel_rfl) (by kernel_rfl) (ss (se (se (sn)))) (wn rfl) rfl (y_add rfl rfl) ?_
   exact any_weak2 (hK24 ()) [0, 1, 2] (by kernel_rfl) (qv3 rfl rfl rfl) (by decide) rfl
  exact anyo_nil

def topo_change_v2 (n : Nat) (f_0 : S_api_Fleet) : Option (S_api_Fleet × Int) :=
 obind (topo_ValidFleet n f_0) fun r3 =>
 cond (!r3)
  (some ((S_api_Fleet.mk 0 0 0 false ([] : List (List Int)) ([] : List S_api_Order)), 1))
  (obind (slices_Clone_weirgate_api_Order_weirgate_api_Order_71 f_0.Orders) fun r6 =>
  obind (topo_Forward_1_60 n (S_api_Fleet.mk f_0.Base f_0.Done f_0.Serial f_0.Stopped f_0.Stages r6)) fun r10 =>
  cond (decide (r10.1 ≠ 0))
   (some ((S_api_Fleet.mk 0 0 0 false ([] : List (List Int)) ([] : List S_api_Order)), r10.1))
   (some (r10.2, 0)))
theorem topo_change_v2_ok (n : Nat) (f_0 : S_api_Fleet) (f_0_Stagesv : Value) (f_0_Ordersv : Value) {r : S_api_Fleet × Int} (h : topo_change_v2 n f_0 = some r) :
  Meets Try.prog 52 [.agg #[.int .i64 f_0.Base, .int .i64 f_0.Done, .int .i64 f_0.Serial, .bool f_0.Stopped, f_0_Stagesv, f_0_Ordersv], .func (.func 60) #[] #[]] [nro f_0_Stagesv NC_L_int_35 f_0.Stages, ro f_0_Ordersv 4 (f_0.Orders.map S_api_Order.enc)] (fun v G => ∃ v0 v1, v = .tuple #[.agg #[.int .i64 r.1.Base, .int .i64 r.1.Done, .int .i64 r.1.Serial, .bool r.1.Stopped, v0, v1], .int .i64 r.2] ∧ G = [nro v0 NC_L_int_35 r.1.Stages, row v1 4 (r.1.Orders.map S_api_Order.enc)]) := by
 refine fn_of_run Try.func52 rfl Try.ntmps52 rfl (fun w0 o0 => ?_)
 refine run_seq ?_
 refine run_region' ?_
 refine ot rfl rfl (t_box rfl) ?_
 rintro _ _ ⟨b1, rfl, rfl⟩
 refine ot rfl rfl (t_alloc Try.zeroValue59) ?_
 rintro _ _ ⟨b2, rfl, rfl⟩
 refine oy rfl rfl (y_assign rfl) ?_
 refine ops_nil ?_
 refine goes_code ?_
 refine run_seq ?_
 refine run_seq ?_
 refine run_region' ?_
 refine oy rfl rfl (y_load_boxagg (c := [.int .i64 f_0.Base, .int .i64 f_0.Done, .int .i64 f_0.Serial, .bool f_0.Stopped, f_0_Stagesv, f_0_Ordersv]) 2 Try.isAgg59 Try.sizeOf59 rfl rfl rfl) ?_
 obtain ⟨r3, hr4, h⟩ := obind_some h
 refine ot rfl rfl (t_callx (vs := [.agg #[.int .i64 f_0.Base, .int .i64 f_0.Done, .int .i64 f_0.Serial, .bool f_0.Stopped, f_0_Stagesv, f_0_Ordersv]]) (cs := []) [(0, 0), (1, 0)] rfl Try.call51 rfl (topo_ValidFleet_ok n f_0 f_0_Stagesv f_0_Ordersv hr4) (showsX_view 0 rfl views_nro (showsX_view 1 rfl views_ro showsX_nil)) rfl (.inl rfl)) ?_
 rintro _ _ ⟨_, ⟨rfl, rfl⟩, rfl⟩
 refine oy rfl rfl (y_not rfl) ?_
 refine ops_nil ?_
 refine goes_code ?_
 refine run_cond (!r3) rfl (fun hc5 => ?_) (fun hc5 => ?_)
 ·replace h := cond_t h hc5
  refine run_seq ?_
  refine run_region' ?_
  refine oy rfl rfl (y_build_struct (cells := #[.int .i64 0, .int .i64 0, .int .i64 0, .bool false, .slice none 0 0, .slice none 0 0]) [] [] Try.zeroValue59 Try.runUnderlying59 (fs_cons Try.sizeOf3 (fs_cons Try.sizeOf3 (fs_cons Try.sizeOf3 (fs_cons Try.sizeOf4 (fs_cons Try.sizeOf56 (fs_cons Try.sizeOf57 fs_nil)))))) rfl rfl rfl) ?_
  refine ot rfl rfl (t_store 3 Try.sizeOf59 rfl rfl rfl rfl (by simp [Value.cells, boxP]) (by simp [Value.cells, Value.oneCell', boxP])) ?_
  rintro _ _ ⟨rfl, rfl⟩
  refine ops_turn (retell 3 (g := box b2 [.int .i64 0, .int .i64 0, .int .i64 0, .bool false, .slice none 0 0, .slice none 0 0]) rfl rfl) ?_
  refine oy rfl rfl (y_assign rfl) ?_
  refine ops_nil ?_
  refine goes_code ?_
  refine run_ret ?_
  refine fin_turn (nilroN NC_L_int_35) ?_
  refine fin_turn (nilrow 4) ?_
  refine fin_turn (retell 5 (g := row (.slice none 0 0) 4 (([] : List S_api_Order).map S_api_Order.enc)) rfl rfl) ?_
  obtain rfl := some_eq h
  refine fin_res [.cell 4 59, .tmp 5] [.agg #[.int .i64 0, .int .i64 0, .int .i64 0, .bool false, (.slice none 0 0), (.slice none 0 0)], .int .i64 1] [4, 5] [nro (.slice none 0 0) NC_L_int_35 ([] : List (List Int)), row (.slice none 0 0) 4 (([] : List S_api_Order).map S_api_Order.enc)] Try.results52 rfl (rescons (res_box 3 Try.isAgg59 Try.sizeOf59 rfl rfl rfl) (rescons (res_tmp rfl) resnil)) (by decide) rfl ?_
  exact ⟨_, _, rfl, rfl⟩
 ·replace h := cond_f h hc5
  refine run_skip ?_
  refine goes_code ?_
  refine run_seq ?_
  refine run_region' ?_
  refine oy rfl rfl (y_fieldAddr_box (sz := 0) Try.runUnderlying59 rfl Try.sizeOf57 rfl) ?_
  refine oy rfl rfl (y_load_box 2 Try.isAgg57 rfl rfl rfl) ?_
  obtain ⟨r6, hr7, h⟩ := obind_some h
  refine ot rfl rfl (t_callx (vs := [f_0_Ordersv]) (cs := []) [(1, 0)] rfl Try.call71 rfl (slices_Clone_weirgate_api_Order_weirgate_api_Order_71_ok f_0.Orders f_0_Ordersv hr7) (showsX_view 1 rfl views_ro showsX_nil) rfl (.inl rfl)) ?_
  rintro v8 _ ⟨_, ⟨_, rfl, rfl⟩, rfl⟩
  refine oy rfl rfl (y_fieldAddr_box (sz := 0) Try.runUnderlying59 rfl Try.sizeOf57 rfl) ?_
  refine ops_slc 4 rfl reads_row (fun hs9 hs9o => ?_)
  refine ot rfl rfl (t_store 2 Try.sizeOf57 rfl rfl rfl (by rw [hs9]; rfl) (by simp [Value.cells, boxP]) (by rw [hs9]; exact allL_cons hs9o (allL_nil))) ?_
  rintro _ _ ⟨rfl, rfl⟩
  refine ops_turn (retell 2 (g := box b1 [.int .i64 f_0.Base, .int .i64 f_0.Done, .int .i64 f_0.Serial, .bool f_0.Stopped, f_0_Stagesv, v8]) rfl (by rw [hs9]; rfl)) ?_
  refine ops_nil ?_
  refine goes_code ?_
  refine run_seq ?_
  refine run_seq ?_
  refine run_weak [(1, .func (.func 60) #[] #[]), (2, boxP b1 0), (4, boxP b2 0)] [0, 2, 3, 4] [nro f_0_Stagesv NC_L_int_35 f_0.Stages, box b1 [.int .i64 f_0.Base, .int .i64 f_0.Done, .int .i64 f_0.Serial, .bool f_0.Stopped, f_0_Stagesv, v8], box b2 [.int .i64 0, .int .i64 0, .int .i64 0, .bool false, .slice none 0 0, .slice none 0 0], row v8 4 (r6.map S_api_Order.enc)] (qv3 rfl rfl rfl) (by decide) rfl ?_
  refine run_region' ?_
  refine oy rfl rfl (y_move rfl) ?_
  obtain ⟨r10, hr11, h⟩ := obind_some h
  refine ot rfl rfl (t_callx (vs := [boxP b1 0]) (cs := []) [(0, 0), (3, 2), (1, 2)] rfl Try.call60 rfl (topo_Forward_1_60_ok n (S_api_Fleet.mk f_0.Base f_0.Done f_0.Serial f_0.Stopped f_0.Stages r6) b1 f_0_Stagesv v8 hr11) (showsX_view 0 rfl views_nro (showsX_lend 3 rfl (showsX_lend 1 rfl showsX_nil))) rfl (.inl rfl)) ?_
  rintro _ _ ⟨_, ⟨v12, v13, rfl, rfl⟩, rfl⟩
  refine oy rfl rfl (y_assign rfl) ?_
  refine ops_nil ?_
  refine goes_code ?_
  refine run_seq ?_
  refine run_region' ?_
  refine oy rfl rfl (y_move rfl) ?_
  refine oy rfl rfl (y_neq rfl rfl) ?_
  refine ops_nil ?_
  refine goes_code ?_
  refine run_cond (decide (r10.1 ≠ 0)) rfl (fun hc14 => ?_) (fun hc14 => ?_)
  ·replace h := cond_t h hc14
   refine run_seq ?_
   refine run_region' ?_
   refine oy rfl rfl (y_build_struct (cells := #[.int .i64 0, .int .i64 0, .int .i64 0, .bool false, .slice none 0 0, .slice none 0 0]) [] [] Try.zeroValue59 Try.runUnderlying59 (fs_cons Try.sizeOf3 (fs_cons Try.sizeOf3 (fs_cons Try.sizeOf3 (fs_cons Try.sizeOf4 (fs_cons Try.sizeOf56 (fs_cons Try.sizeOf57 fs_nil)))))) rfl rfl rfl) ?_
   refine oy rfl rfl (y_move rfl) ?_
   refine ot rfl rfl (t_store 2 Try.sizeOf59 rfl rfl rfl rfl (by simp [Value.cells, boxP]) (by simp [Value.cells, Value.oneCell', boxP])) ?_
   rintro _ _ ⟨rfl, rfl⟩
   refine ops_turn (retell 2 (g := box b2 [.int .i64 0, .int .i64 0, .int .i64 0, .bool false, .slice none 0 0, .slice none 0 0]) rfl rfl) ?_
   refine oy rfl rfl (y_assign rfl) ?_
   refine ops_nil ?_
   refine goes_code ?_
   refine run_ret ?_
   refine fin_turn (nilroN NC_L_int_35) ?_
   refine fin_turn (nilrow 4) ?_
   refine fin_turn (retell 8 (g := row (.slice none 0 0) 4 (([] : List S_api_Order).map S_api_Order.enc)) rfl rfl) ?_
   obtain rfl := some_eq h
   refine fin_res [.cell 4 59, .tmp 5] [.agg #[.int .i64 0, .int .i64 0, .int .i64 0, .bool false, (.slice none 0 0), (.slice none 0 0)], .int .i64 r10.1] [7, 8] [nro (.slice none 0 0) NC_L_int_35 ([] : List (List Int)), row (.slice none 0 0) 4 (([] : List S_api_Order).map S_api_Order.enc)] Try.results52 rfl (rescons (res_box 2 Try.isAgg59 Try.sizeOf59 rfl rfl rfl) (rescons (res_tmp rfl) resnil)) (by decide) rfl ?_
   exact ⟨_, _, rfl, rfl⟩
  ·replace h := cond_f h hc14
   refine run_skip ?_
   refine goes_code ?_
   refine run_seq ?_
   refine run_region' ?_
   refine oy rfl rfl (y_load_boxagg (c := [.int .i64 r10.2.Base, .int .i64 r10.2.Done, .int .i64 r10.2.Serial, .bool r10.2.Stopped, v12, v13]) 6 Try.isAgg59 Try.sizeOf59 rfl rfl rfl) ?_
   refine ops_slcN 4 rfl readsN_ro (fun hs15 hs15o => ?_)
   refine ops_slc 5 rfl reads_row (fun hs16 hs16o => ?_)
   refine ot rfl rfl (t_store 2 Try.sizeOf59 rfl rfl rfl rfl (by simp [Value.cells, boxP]) (allL_cons rfl (allL_cons rfl (allL_cons rfl (allL_cons rfl (allL_cons hs15o (allL_cons hs16o (allL_nil)))))))) ?_
   rintro _ _ ⟨rfl, rfl⟩
   refine ops_turn (retell 2 (g := box b2 [.int .i64 r10.2.Base, .int .i64 r10.2.Done, .int .i64 r10.2.Serial, .bool r10.2.Stopped, v12, v13]) rfl rfl) ?_
   refine oy rfl rfl (y_assign rfl) ?_
   refine ops_nil ?_
   refine goes_code ?_
   refine run_ret ?_
   obtain rfl := some_eq h
   refine fin_res [.cell 4 59, .tmp 5] [.agg #[.int .i64 r10.2.Base, .int .i64 r10.2.Done, .int .i64 r10.2.Serial, .bool r10.2.Stopped, v12, v13], .int .i64 0] [4, 5] [nro v12 NC_L_int_35 r10.2.Stages, row v13 4 (r10.2.Orders.map S_api_Order.enc)] Try.results52 rfl (rescons (res_box 2 Try.isAgg59 Try.sizeOf59 rfl rfl rfl) (rescons (res_tmp rfl) resnil)) (by decide) rfl ?_
   exact ⟨_, _, rfl, rfl⟩

def topo_Forward (n : Nat) (f_0 : S_api_Fleet) : Option (S_api_Fleet × Int) :=
 obind (topo_change_v2 n f_0) fun r3 =>
 some (r3.1, r3.2)
theorem topo_Forward_ok (n : Nat) (f_0 : S_api_Fleet) (f_0_Stagesv : Value) (f_0_Ordersv : Value) {r : S_api_Fleet × Int} (h : topo_Forward n f_0 = some r) :
  Meets Try.prog 30 [.agg #[.int .i64 f_0.Base, .int .i64 f_0.Done, .int .i64 f_0.Serial, .bool f_0.Stopped, f_0_Stagesv, f_0_Ordersv]] [nro f_0_Stagesv NC_L_int_35 f_0.Stages, ro f_0_Ordersv 4 (f_0.Orders.map S_api_Order.enc)] (fun v G => ∃ v0 v1, v = .tuple #[.agg #[.int .i64 r.1.Base, .int .i64 r.1.Done, .int .i64 r.1.Serial, .bool r.1.Stopped, v0, v1], .int .i64 r.2] ∧ G = [nro v0 NC_L_int_35 r.1.Stages, row v1 4 (r.1.Orders.map S_api_Order.enc)]) := by
 refine fn_of_run Try.func30 rfl Try.ntmps30 rfl (fun w0 o0 => ?_)
 refine run_seq ?_
 refine run_region' ?_
 refine ot rfl rfl (t_box rfl) ?_
 rintro _ _ ⟨b1, rfl, rfl⟩
 refine ot rfl rfl (t_alloc Try.zeroValue59) ?_
 rintro _ _ ⟨b2, rfl, rfl⟩
 refine oy rfl rfl (y_assign rfl) ?_
 refine ops_nil ?_
 refine goes_code ?_
 refine run_seq ?_
 refine run_region' ?_
 refine oy rfl rfl (y_load_boxagg (c := [.int .i64 f_0.Base, .int .i64 f_0.Done, .int .i64 f_0.Serial, .bool f_0.Stopped, f_0_Stagesv, f_0_Ordersv]) 2 Try.isAgg59 Try.sizeOf59 rfl rfl rfl) ?_
 obtain ⟨r3, hr4, h⟩ := obind_some h
 refine ot rfl rfl (t_callx (vs := [.agg #[.int .i64 f_0.Base, .int .i64 f_0.Done, .int .i64 f_0.Serial, .bool f_0.Stopped, f_0_Stagesv, f_0_Ordersv], .func (.func 60) #[] #[]]) (cs := []) [(0, 0), (1, 0)] rfl Try.call52 rfl (topo_change_v2_ok n f_0 f_0_Stagesv f_0_Ordersv hr4) (showsX_view 0 rfl views_nro (showsX_view 1 rfl views_ro showsX_nil)) rfl (.inl rfl)) ?_
 rintro _ _ ⟨_, ⟨v5, v6, rfl, rfl⟩, rfl⟩
 refine oy rfl rfl (y_extract rfl rfl) ?_
 refine oy rfl rfl (y_extract rfl rfl) ?_
 refine ops_slcN 4 rfl readsN_ro (fun hs7 hs7o => ?_)
 refine ops_slc 5 rfl reads_row (fun hs8 hs8o => ?_)
 refine ot rfl rfl (t_store 3 Try.sizeOf59 rfl rfl rfl rfl (by simp [Value.cells, boxP]) (allL_cons rfl (allL_cons rfl (allL_cons rfl (allL_cons rfl (allL_cons hs7o (allL_cons hs8o (allL_nil)))))))) ?_
 rintro _ _ ⟨rfl, rfl⟩
 refine ops_turn (retell 3 (g := box b2 [.int .i64 r3.1.Base, .int .i64 r3.1.Done, .int .i64 r3.1.Serial, .bool r3.1.Stopped, v5, v6]) rfl rfl) ?_
 refine oy rfl rfl (y_assign rfl) ?_
 refine ops_nil ?_
 refine goes_code ?_
 refine run_ret ?_
 obtain rfl := some_eq h
 refine fin_res [.cell 2 59, .tmp 3] [.agg #[.int .i64 r3.1.Base, .int .i64 r3.1.Done, .int .i64 r3.1.Serial, .bool r3.1.Stopped, v5, v6], .int .i64 r3.2] [4, 5] [nro v5 NC_L_int_35 r3.1.Stages, row v6 4 (r3.1.Orders.map S_api_Order.enc)] Try.results30 rfl (rescons (res_box 3 Try.isAgg59 Try.sizeOf59 rfl rfl rfl) (rescons (res_tmp rfl) resnil)) (by decide) rfl ?_
 exact ⟨_, _, rfl, rfl⟩

def topo_Confirm_1_1_56 (x_0 : S_api_Order) (a_1 : Int) : Option (Bool) :=
 some (decide (x_0.Site = a_1))
theorem topo_Confirm_1_1_56_ok (x_0 : S_api_Order) (a_1 : Int) (a_1b : Nat) {r : Bool} (h : topo_Confirm_1_1_56 x_0 a_1 = some r) :
  Meets Try.prog 56 [.agg #[.int .i64 x_0.Site, .int .i64 x_0.Version, .int .i64 x_0.Serial, .int .i64 x_0.Heard], boxP a_1b 0] [box a_1b [.int .i64 a_1]] (fun v G => v = .bool r ∧ G = [box a_1b [.int .i64 a_1]]) := by
 refine fn_of_run Try.func56 rfl Try.ntmps56 rfl (fun w0 o0 => ?_)
 refine run_seq ?_
 refine run_region' ?_
 refine ot rfl rfl (t_box rfl) ?_
 rintro _ _ ⟨b1, rfl, rfl⟩
 refine oy rfl rfl (y_assign rfl) ?_
 refine ops_nil ?_
 refine goes_code ?_
 refine run_seq ?_
 refine run_region' ?_
 refine oy rfl rfl (y_fieldAddr_box (sz := 0) Try.runUnderlying108 rfl Try.sizeOf3 rfl) ?_
 refine oy rfl rfl (y_load_box 1 Try.isAgg3 rfl rfl rfl) ?_
 refine oy rfl rfl (y_load_box 0 Try.isAgg3 rfl rfl rfl) ?_
 refine oy rfl rfl (y_eql rfl rfl) ?_
 refine oy rfl rfl (y_assign rfl) ?_
 refine ops_nil ?_
 refine goes_code ?_
 refine run_ret ?_
 obtain rfl := some_eq h
 refine fin_slots [3] [.bool (decide (x_0.Site = a_1))] [0] [box a_1b [.int .i64 a_1]] Try.results56 rfl (by decide) rfl ?_
 exact ⟨rfl, rfl⟩

def slices_IndexFunc_weirgate_api_Order_weirgate_api_Order_55_v1_L1 (s_0 : (List S_api_Order)) (f_1_0 : Int) : (Int) → Option (Lp (Int) (Lp (Unit) (Int))) :=
 fun s_5 =>
  cond (decide (s_5 < (s_0.length : Int)))
   (idx s_0 s_5 fun x11 =>
   obind (topo_Confirm_1_1_56 x11 f_1_0) fun r12 =>
   cond r12
    (some (.stop (.stop s_5)))
    (some (.go (IntKind.i64.wrap (s_5 + 1)))))
   (some (.stop (.go ())))
def slices_IndexFunc_weirgate_api_Order_weirgate_api_Order_55_v1 (n : Nat) (s_0 : (List S_api_Order)) (f_1_0 : Int) : Option (Int) :=
 bindJ (S := Unit)
  (iter (slices_IndexFunc_weirgate_api_Order_weirgate_api_Order_55_v1_L1 s_0 f_1_0) n 0)
 (fun _ =>
  some (-1))
theorem slices_IndexFunc_weirgate_api_Order_weirgate_api_Order_55_v1_ok (n : Nat) (s_0 : (List S_api_Order)) (f_1_0 : Int) (s_0v : Value) (f_1_0b : Nat) {r : Int} (h : slices_IndexFunc_weirgate_api_Order_weirgate_api_Order_55_v1 n s_0 f_1_0 = some r) :
  Meets Try.prog 55 [s_0v, .func (.func 56) #[] #[boxP f_1_0b 0]] [ro s_0v 4 (s_0.map S_api_Order.enc), box f_1_0b [.int .i64 f_1_0]] (fun v G => v = .int .i64 r ∧ G = [box f_1_0b [.int .i64 f_1_0]]) := by
 refine fn_of_run Try.func55 rfl Try.ntmps55 rfl (fun w0 o0 => ?_)
 refine run_seq ?_
 refine run_region' ?_
 refine oy rfl rfl (y_assign rfl) ?_
 refine ops_nil ?_
 refine goes_code ?_
 obtain ⟨o1, h, ho2⟩ := bindJ_some h
 refine run_cut ((Unit) × (Unit)) (fun σ => []) (fun σ => [box f_1_0b [.int .i64 f_1_0]]) (fun σ => o1 = .go σ.1) (fun L4 hL3 => ?_) ?_
 ·
  refine run_seq ?_
  refine run_region' ?_
  refine oy rfl rfl (y_move rfl) ?_
  refine oy rfl rfl ((y_len 0 rfl Try.runUnderlying57 rfl rfl reads_ro).to (v_len S_api_Order.enc _)) ?_
  refine oy rfl rfl (y_move rfl) ?_
  refine ops_nil ?_
  refine goes_code ?_
  refine run_block ?_
  refine run_iter (step := slices_IndexFunc_weirgate_api_Order_weirgate_api_Order_55_v1_L1 s_0 f_1_0) (n := n) (s0 := 0) h (G := Unit) () (fun σ γ => [(0, s_0v), (1, .func (.func 56) #[] #[boxP f_1_0b 0]), (7, .int .i64 (s_0.length : Int)), (8, .int .i64 σ)]) (fun σ γ => [ro s_0v 4 (s_0.map S_api_Order.enc), box f_1_0b [.int .i64 f_1_0]]) [0, 1] (qv4 rfl rfl rfl rfl) (by decide) rfl ?_
  rintro s_5 _ o6 h L9 hgo7 hstop8
  change Run _ _ _ (VF.of [(0, s_0v), (1, .func (.func 56) #[] #[boxP f_1_0b 0]), (7, .int .i64 (s_0.length : Int)), (8, .int .i64 s_5)]) [ro s_0v 4 (s_0.map S_api_Order.enc), box f_1_0b [.int .i64 f_1_0]]
  refine run_seq ?_
  refine run_region' ?_
  refine oy rfl rfl (y_lss rfl rfl) ?_
  refine ops_nil ?_
  refine goes_code ?_
  refine run_seq ?_
  refine run_cond (decide (s_5 < (s_0.length : Int))) rfl (fun hc10 => ?_) (fun hc10 => ?_)
  ·replace h := cond_t h hc10
   refine run_skip ?_
   refine goes_code ?_
   refine run_seq ?_
   refine run_block ?_
   refine run_seq ?_
   refine run_region' ?_
   refine oy rfl rfl (y_move rfl) ?_
   refine oy rfl rfl (y_assign rfl) ?_
   refine ops_nil ?_
   refine goes_code ?_
   refine run_seq ?_
   refine run_region' ?_
   refine oy rfl rfl (y_move rfl) ?_
   refine oy rfl rfl (y_move rfl) ?_
   refine oy rfl rfl (y_move rfl) ?_
   obtain ⟨x11, hzx11, hlx11, hxx11, h⟩ := idx_some h
   refine oy rfl rfl (y_indexAddrI (kd := .i64) (i := s_5) 0 Try.runUnderlying57 Try.sizeOf108 rfl rfl rfl reads_ro hzx11 (map_lt hlx11)) ?_
   refine oy rfl rfl (y_load_agg (i := s_5.toNat) (c := [.int .i64 x11.Site, .int .i64 x11.Version, .int .i64 x11.Serial, .int .i64 x11.Heard]) 0 Try.isAgg108 Try.sizeOf108 rfl rfl reads_ro (map_get hxx11)) ?_
   obtain ⟨r12, hr13, h⟩ := obind_some h
   refine ot rfl rfl (t_callx (vs := [.agg #[.int .i64 x11.Site, .int .i64 x11.Version, .int .i64 x11.Serial, .int .i64 x11.Heard]]) (cs := [boxP f_1_0b 0]) [(1, 2)] rfl Try.call56 rfl (topo_Confirm_1_1_56_ok x11 f_1_0 f_1_0b hr13) (showsX_lend 1 rfl showsX_nil) rfl (.inl rfl)) ?_
   rintro _ _ ⟨_, ⟨rfl, rfl⟩, rfl⟩
   refine ops_nil ?_
   refine goes_code ?_
   refine run_cond r12 rfl (fun hc14 => ?_) (fun hc14 => ?_)
   ·replace h := cond_t h hc14
    refine run_seq ?_
    refine run_weak [(5, .int .i64 s_5)] [2] [box f_1_0b [.int .i64 f_1_0]] (qv1 rfl) (by decide) rfl ?_
    refine run_region' ?_
    refine oy rfl rfl (y_move rfl) ?_
    refine oy rfl rfl (y_assign rfl) ?_
    refine ops_nil ?_
    refine goes_code ?_
    refine run_ret ?_
    obtain rfl := some_eq h
    obtain rfl := hstop8 _ rfl
    skip
    obtain rfl := after_stop ho2
    refine fin_slots [4] [.int .i64 s_5] [0] [box f_1_0b [.int .i64 f_1_0]] Try.results55 rfl (by decide) rfl ?_
    exact ⟨rfl, rfl⟩
   ·replace h := cond_f h hc14
    refine run_skip ?_
    refine goes_blk ?_
    refine goes_code ?_
    refine run_weak [(0, s_0v), (1, .func (.func 56) #[] #[boxP f_1_0b 0]), (7, .int .i64 (s_0.length : Int)), (8, .int .i64 s_5)] [0, 2] [ro s_0v 4 (s_0.map S_api_Order.enc), box f_1_0b [.int .i64 f_1_0]] (qv4 rfl rfl rfl rfl) (by decide) rfl ?_
    refine run_region' ?_
    refine oy rfl rfl (y_add rfl rfl) ?_
    refine oy rfl rfl (y_move rfl) ?_
    refine ops_nil ?_
    obtain rfl := some_eq h
    exact goes_iter hgo7 (IntKind.i64.wrap (s_5 + 1)) () [0, 1] rfl (qv4 rfl rfl rfl rfl) (by decide) rfl
  ·replace h := cond_f h hc10
   refine run_exit _ rfl ?_
   obtain rfl := some_eq h
   obtain rfl := hstop8 _ rfl
   exact goes_cut hL3 ((), ()) [1] vnil (by decide) rfl rfl
 rintro ⟨_, _⟩ hj
 obtain rfl : o1 = _ := hj
 replace h := after_go ho2
 clear ho2
 change Run _ _ _ (VF.of []) [box f_1_0b [.int .i64 f_1_0]]
 refine run_seq ?_
 refine run_region' ?_
 refine oy rfl rfl (y_assign rfl) ?_
 refine ops_nil ?_
 refine goes_code ?_
 refine run_ret ?_
 obtain rfl := some_eq h
 refine fin_slots [4] [.int .i64 (-1)] [0] [box f_1_0b [.int .i64 f_1_0]] Try.results55 rfl (by decide) rfl ?_
 exact ⟨rfl, rfl⟩

def topo_Confirm_1_54 (n : Nat) (f_0 : S_api_Fleet) (a_1 : Int) (a_2 : Int) : Option (Int × S_api_Fleet) :=
 obind (slices_IndexFunc_weirgate_api_Order_weirgate_api_Order_55_v1 n f_0.Orders a_1) fun r1 =>
 cond (decide (r1 < 0))
  (some (5, f_0))
  (bindJ (S := Bool)
   (cond (decide (a_2 < 0))
    (some (.go (decide (a_2 < 0))))
    (idx f_0.Orders r1 fun x10 =>
    some (.go (decide (x10.Serial < a_2)))))
  (fun s_4 =>
   cond s_4
    (some (1, f_0))
    (idx f_0.Orders r1 fun x12 =>
    some (0, (S_api_Fleet.mk f_0.Base f_0.Done f_0.Serial f_0.Stopped f_0.Stages (f_0.Orders.set r1.toNat (S_api_Order.mk x12.Site x12.Version x12.Serial (max x12.Heard a_2))))))))
theorem topo_Confirm_1_54_ok (n : Nat) (f_0 : S_api_Fleet) (a_1 : Int) (a_2 : Int) (f_0b : Nat) (f_0_Stagesv : Value) (f_0_Ordersv : Value) (a_1b : Nat) (a_2b : Nat) {r : Int × S_api_Fleet} (h : topo_Confirm_1_54 n f_0 a_1 a_2 = some r) :
  Meets Try.prog 54 [boxP f_0b 0, boxP a_1b 0, boxP a_2b 0] [nro f_0_Stagesv NC_L_int_35 f_0.Stages, row f_0_Ordersv 4 (f_0.Orders.map S_api_Order.enc), box f_0b [.int .i64 f_0.Base, .int .i64 f_0.Done, .int .i64 f_0.Serial, .bool f_0.Stopped, f_0_Stagesv, f_0_Ordersv], box a_1b [.int .i64 a_1], box a_2b [.int .i64 a_2]] (fun v G => ∃ v0 v1, v = .int .i64 r.1 ∧ G = [nro v0 NC_L_int_35 r.2.Stages, row v1 4 (r.2.Orders.map S_api_Order.enc), box f_0b [.int .i64 r.2.Base, .int .i64 r.2.Done, .int .i64 r.2.Serial, .bool r.2.Stopped, v0, v1], box a_1b [.int .i64 a_1], box a_2b [.int .i64 a_2]]) := by
 refine fn_of_run Try.func54 rfl Try.ntmps54 rfl (fun w0 o0 => ?_)
 refine run_seq ?_
 refine run_region' ?_
 refine oy rfl rfl (y_assign rfl) ?_
 refine ops_nil ?_
 refine goes_code ?_
 refine run_seq ?_
 refine run_region' ?_
 refine oy rfl rfl (y_move rfl) ?_
 refine oy rfl rfl (y_nilBox rfl) ?_
 refine oy rfl rfl (y_fieldAddr_box (sz := 0) Try.runUnderlying59 rfl Try.sizeOf57 rfl) ?_
 refine oy rfl rfl (y_load_box 2 Try.isAgg57 rfl rfl rfl) ?_
 refine oy rfl rfl (y_makeFunc (vs := [boxP a_1b 0]) rfl) ?_
 obtain ⟨r1, hr2, h⟩ := obind_some h
 refine ot rfl rfl (t_callx (vs := [f_0_Ordersv, .func (.func 56) #[] #[boxP a_1b 0]]) (cs := []) [(1, 1), (3, 2)] rfl Try.call55 rfl (slices_IndexFunc_weirgate_api_Order_weirgate_api_Order_55_v1_ok n f_0.Orders a_1 f_0_Ordersv a_1b hr2) (showsX_look 1 rfl views_row (showsX_lend 3 rfl showsX_nil)) rfl (.inr (by rintro _ _ ⟨rfl, rfl⟩ g hg; first | (cases hg; done) | (simp only [List.mem_cons, List.not_mem_nil, or_false] at hg; first | (subst hg; first | exact strict_row | exact strict_box) | (rcases hg with rfl | rfl <;> first | exact strict_row | exact strict_box) | (rcases hg with rfl | rfl | rfl <;> first | exact strict_row | exact strict_box))))) ?_
 rintro _ _ ⟨_, ⟨rfl, rfl⟩, rfl⟩
 refine oy rfl rfl (y_assign rfl) ?_
 refine ops_nil ?_
 refine goes_code ?_
 refine run_seq ?_
 refine run_block ?_
 refine run_seq ?_
 refine run_weak [(0, boxP f_0b 0), (2, boxP a_2b 0), (5, .int .i64 r1)] [0, 1, 2, 4, 5] [nro f_0_Stagesv NC_L_int_35 f_0.Stages, row f_0_Ordersv 4 (f_0.Orders.map S_api_Order.enc), box f_0b [.int .i64 f_0.Base, .int .i64 f_0.Done, .int .i64 f_0.Serial, .bool f_0.Stopped, f_0_Stagesv, f_0_Ordersv], box a_2b [.int .i64 a_2], box a_1b [.int .i64 a_1]] (qv3 rfl rfl rfl) (by decide) rfl ?_
 refine run_region' ?_
 refine oy rfl rfl (y_move rfl) ?_
 refine oy rfl rfl (y_lss rfl rfl) ?_
 refine oy rfl rfl (y_assign rfl) ?_
 refine ops_nil ?_
 refine goes_code ?_
 refine run_cond (decide (r1 < 0)) rfl (fun hc3 => ?_) (fun hc3 => ?_)
 ·replace h := cond_t h hc3
  refine run_seq ?_
  refine run_region' ?_
  refine oy rfl rfl (y_assign rfl) ?_
  refine ops_nil ?_
  refine goes_code ?_
  refine run_ret ?_
  obtain rfl := some_eq h
  refine fin_slots [4] [.int .i64 5] [0, 1, 2, 4, 3] [nro f_0_Stagesv NC_L_int_35 f_0.Stages, row f_0_Ordersv 4 (f_0.Orders.map S_api_Order.enc), box f_0b [.int .i64 f_0.Base, .int .i64 f_0.Done, .int .i64 f_0.Serial, .bool f_0.Stopped, f_0_Stagesv, f_0_Ordersv], box a_1b [.int .i64 a_1], box a_2b [.int .i64 a_2]] Try.results54 rfl (by decide) rfl ?_
  exact ⟨_, _, rfl, rfl⟩
 ·replace h := cond_f h hc3
  obtain ⟨o5, h, ho6⟩ := bindJ_some h
  refine run_cut ((Bool) × (Unit)) (fun σ => [(0, boxP f_0b 0), (2, boxP a_2b 0), (5, .int .i64 r1), (15, .bool σ.1)]) (fun σ => [box f_0b [.int .i64 f_0.Base, .int .i64 f_0.Done, .int .i64 f_0.Serial, .bool f_0.Stopped, f_0_Stagesv, f_0_Ordersv], nro f_0_Stagesv NC_L_int_35 f_0.Stages, row f_0_Ordersv 4 (f_0.Orders.map S_api_Order.enc), box a_2b [.int .i64 a_2], box a_1b [.int .i64 a_1]]) (fun σ => o5 = .go σ.1) (fun L8 hL7 => ?_) ?_
  ·
   refine run_seq ?_
   refine run_region' ?_
   refine oy rfl rfl (y_load_box 3 Try.isAgg3 rfl rfl rfl) ?_
   refine oy rfl rfl (y_lss rfl rfl) ?_
   refine oy rfl rfl (y_assign rfl) ?_
   refine ops_nil ?_
   refine goes_code ?_
   refine run_cond (decide (a_2 < 0)) rfl (fun hc9 => ?_) (fun hc9 => ?_)
   ·replace h := cond_t h hc9
    refine run_skip ?_
    obtain rfl := some_eq h
    exact goes_cut hL7 (decide (a_2 < 0), ()) [2, 0, 1, 3, 4] (qv4 rfl rfl rfl rfl) (by decide) rfl rfl
   ·replace h := cond_f h hc9
    refine run_draw (by kernel_rfl) (by kernel_rfl) ?_
    refine sy rfl rfl (y_load_box 3 Try.isAgg3 rfl rfl rfl) ?_
    refine sy rfl rfl (y_move rfl) ?_
    refine sy rfl rfl (y_nilBox rfl) ?_
    refine sy rfl rfl (y_fieldAddr_box (sz := 0) Try.runUnderlying59 rfl Try.sizeOf57 rfl) ?_
    refine sy rfl rfl (y_load_box 2 Try.isAgg57 rfl rfl rfl) ?_
    refine sy rfl rfl (y_move rfl) ?_
    obtain ⟨x10, hzx10, hlx10, hxx10, h⟩ := idx_some h
    refine sy rfl rfl (y_indexAddrI (kd := .i64) (i := r1) 1 Try.runUnderlying57 Try.sizeOf108 rfl rfl rfl reads_row hzx10 (map_lt hlx10)) ?_
    refine sy rfl rfl (y_fieldAddr_elem (sz := 0) Try.runUnderlying108 rfl Try.sizeOf3 rfl) ?_
    refine sy rfl rfl (y_load_field (i := r1.toNat) (j := 2) 1 Try.isAgg3 rfl rfl reads_row (map_get hxx10) rfl) ?_
    refine sy rfl rfl (y_gtr rfl rfl) ?_
    refine sy rfl rfl (y_assign rfl) ?_
    refine still_nil ?_
    obtain rfl := some_eq h
    exact goes_cut hL7 (decide (x10.Serial < a_2), ()) [2, 0, 1, 3, 4] (qv4 rfl rfl rfl rfl) (by decide) rfl rfl
  rintro ⟨s_4, _⟩ hj
  obtain rfl : o5 = _ := hj
  replace h := after_go ho6
  clear ho6
  change Run _ _ _ (VF.of [(0, boxP f_0b 0), (2, boxP a_2b 0), (5, .int .i64 r1), (15, .bool s_4)]) [box f_0b [.int .i64 f_0.Base, .int .i64 f_0.Done, .int .i64 f_0.Serial, .bool f_0.Stopped, f_0_Stagesv, f_0_Ordersv], nro f_0_Stagesv NC_L_int_35 f_0.Stages, row f_0_Ordersv 4 (f_0.Orders.map S_api_Order.enc), box a_2b [.int .i64 a_2], box a_1b [.int .i64 a_1]]
  refine run_cond s_4 rfl (fun hc11 => ?_) (fun hc11 => ?_)
  ·replace h := cond_t h hc11
   refine run_seq ?_
   refine run_region' ?_
   refine oy rfl rfl (y_assign rfl) ?_
   refine ops_nil ?_
   refine goes_code ?_
   refine run_ret ?_
   obtain rfl := some_eq h
   refine fin_slots [4] [.int .i64 1] [1, 2, 0, 4, 3] [nro f_0_Stagesv NC_L_int_35 f_0.Stages, row f_0_Ordersv 4 (f_0.Orders.map S_api_Order.enc), box f_0b [.int .i64 f_0.Base, .int .i64 f_0.Done, .int .i64 f_0.Serial, .bool f_0.Stopped, f_0_Stagesv, f_0_Ordersv], box a_1b [.int .i64 a_1], box a_2b [.int .i64 a_2]] Try.results54 rfl (by decide) rfl ?_
   exact ⟨_, _, rfl, rfl⟩
  ·replace h := cond_f h hc11
   refine run_skip ?_
   refine goes_blk ?_
   refine goes_code ?_
   refine run_seq ?_
   refine run_drawany [box f_0b [.int .i64 f_0.Base, .int .i64 f_0.Done, .int .i64 f_0.Serial, .bool f_0.Stopped, f_0_Stagesv, f_0_Ordersv], nro f_0_Stagesv NC_L_int_35 f_0.Stages, HA.emp, box a_2b [.int .i64 a_2], box a_1b [.int .i64 a_1]] (by kernel_rfl) ?_
   refine any_y 0 rfl (by kernel_rfl) (by kernel_rfl) (by kernel_rfl) (ss (ss (se (ss (ss (sn)))))) (wn rfl) rfl (y_move rfl) ?_
   refine any_y 1 rfl (by kernel_rfl) (by kernel_rfl) (by kernel_rfl) (ss (ss (se (ss (ss (sn)))))) (wn rfl) rfl (y_nilBox rfl) ?_
   refine any_y 2 rfl (by kernel_rfl) (by kernel_rfl) (by kernel_rfl) (ss (ss (se (ss (ss (sn)))))) (wn rfl) rfl (y_fieldAddr_box (sz := 0) Try.runUnderlying59 rfl Try.sizeOf57 rfl) ?_
   refine any_y 3 rfl (by kernel_rfl) (by kernel_rfl) (by kernel_rfl) (ss (ss (se (ss (ss (sn)))))) (wn rfl) rfl (y_load_box 0 Try.isAgg57 rfl rfl rfl) ?_
   refine any_y 4 rfl (by kernel_rfl) (by kernel_rfl) (by kernel_rfl) (ss (ss (se (ss (ss (sn)))))) (wn rfl) rfl (y_move rfl) ?_
   refine any_y 5 rfl (by kernel_rfl) (by kernel_rfl) (by kernel_rfl) (ss (ss (se (ss (ss (sn)))))) (wn rfl) rfl (y_move rfl) ?_
   refine any_y 6 rfl (by kernel_rfl) (by kernel_rfl) (by kernel_rfl) (ss (ss (se (ss (ss (sn)))))) (wn rfl) rfl (y_nilBox rfl) ?_
   refine any_y 7 rfl (by kernel_rfl) (by kernel_rfl) (by kernel_rfl) (ss (ss (se (ss (ss (sn)))))) (wn rfl) rfl (y_fieldAddr_box (sz := 0) Try.runUnderlying59 rfl Try.sizeOf57 rfl) ?_
   refine any_y 8 rfl (by kernel_rfl) (by kernel_rfl) (by kernel_rfl) (ss (ss (se (ss (ss (sn)))))) (wn rfl) rfl (y_load_box 0 Try.isAgg57 rfl rfl rfl) ?_
   refine any_y 9 rfl (by kernel_rfl) (by kernel_rfl) (by kernel_rfl) (ss (ss (se (ss (ss (sn)))))) (wn rfl) rfl (y_move rfl) ?_
   refine any_y 13 rfl (by kernel_rfl) (by kernel_rfl) (by kernel_rfl) (ss (ss (se (ss (ss (sn)))))) (wn rfl) rfl (y_load_box 3 Try.isAgg3 rfl rfl rfl) ?_
   refine any_all [10] (by kernel_rfl) rfl (anyo_cons ?_ anyo_nil)
   obtain ⟨x12, hzx12, hlx12, hxx12, h⟩ := idx_some h
   refine any_ty rfl (wn rfl) rfl (y_indexAddrI (kd := .i64) (i := r1) 2 Try.runUnderlying57 Try.sizeOf108 rfl rfl rfl reads_row hzx12 (map_lt hlx12)) ⟨(ss (ss (se (ss (ss (sn)))))), ?_⟩
   refine any_y 11 rfl (by kernel_rfl) (by kernel_rfl) (by kernel_rfl) (ss (ss (se (ss (ss (sn)))))) (wn rfl) rfl (y_fieldAddr_elem (sz := 0) Try.runUnderlying108 rfl Try.sizeOf3 rfl) ?_
   refine any_all [12] (by kernel_rfl) rfl (anyo_cons ?_ anyo_nil)
   refine any_ty rfl (wn rfl) rfl (y_load_field (i := r1.toNat) (j := 3) 2 Try.isAgg3 rfl rfl reads_row (map_get hxx12) rfl) ⟨(ss (ss (se (ss (ss (sn)))))), ?_⟩
   refine any_y 14 rfl (by kernel_rfl) (by kernel_rfl) (by kernel_rfl) (ss (ss (se (ss (ss (sn)))))) (wn rfl) rfl (y_max rfl rfl) ?_
   refine any_all [15] (by kernel_rfl) rfl (anyo_cons ?_ anyo_nil)
   refine any_ty rfl (wn rfl) rfl (y_indexAddrI (kd := .i64) (i := r1) 2 Try.runUnderlying57 Try.sizeOf108 rfl rfl rfl reads_row hzx12 (map_lt hlx12)) ⟨(ss (ss (se (ss (ss (sn)))))), ?_⟩
   refine any_y 16 rfl (by kernel_rfl) (by kernel_rfl) (by kernel_rfl) (ss (ss (se (ss (ss (sn)))))) (wn rfl) rfl (y_fieldAddr_elem (sz := 0) Try.runUnderlying108 rfl Try.sizeOf3 rfl) ?_
   refine any_all [17] (by kernel_rfl) rfl (anyo_cons ?_ anyo_nil)
   refine any_t rfl (wn rfl) rfl (t_store_row (i := r1.toNat) (j := 3) (c := S_api_Order.enc x12) 2 Try.sizeOf3 rfl rfl rfl rfl (map_get hxx12) (by decide) (by simp [Value.cells, Value.oneCell', boxP])) ?_
   rintro _ _ ⟨rfl, rfl⟩
   refine ⟨(ss (ss (se (ss (ss (sn)))))), ?_⟩
   obtain hxx13 : ((f_0.Orders.set r1.toNat (S_api_Order.mk x12.Site x12.Version x12.Serial (max x12.Heard a_2))) : List S_api_Order)[r1.toNat]? = some (S_api_Order.mk x12.Site x12.Version x12.Serial (max x12.Heard a_2)) := set_at hlx12
   obtain hlx13 : r1.toNat < ((f_0.Orders.set r1.toNat (S_api_Order.mk x12.Site x12.Version x12.Serial (max x12.Heard a_2))) : List S_api_Order).length := set_lt hlx12
   obtain hzx13 : (0 : Int) ≤ r1 := id hzx12
   refine any_turn (retell 2 (g := row f_0_Ordersv 4 ((f_0.Orders.set r1.toNat (S_api_Order.mk x12.Site x12.Version x12.Serial (max x12.Heard a_2))).map S_api_Order.enc)) rfl (congrArg (row _ _) (map_set_at rfl))) ?_
   refine any_nil (by kernel_rfl) ?_
   refine goes_code ?_
   refine run_seq ?_
   refine run_weak [] [0, 1, 2, 3, 4] [box f_0b [.int .i64 f_0.Base, .int .i64 f_0.Done, .int .i64 f_0.Serial, .bool f_0.Stopped, f_0_Stagesv, f_0_Ordersv], nro f_0_Stagesv NC_L_int_35 f_0.Stages, row f_0_Ordersv 4 ((f_0.Orders.set r1.toNat (S_api_Order.mk x12.Site x12.Version x12.Serial (max x12.Heard a_2))).map S_api_Order.enc), box a_2b [.int .i64 a_2], box a_1b [.int .i64 a_1]] vnil (by decide) rfl ?_
   refine run_region' ?_
   refine oy rfl rfl (y_assign rfl) ?_
   refine ops_nil ?_
   refine goes_code ?_
   refine run_ret ?_
   obtain rfl := some_eq h
   refine fin_slots [4] [.int .i64 0] [1, 2, 0, 4, 3] [nro f_0_Stagesv NC_L_int_35 f_0.Stages, row f_0_Ordersv 4 ((f_0.Orders.set r1.toNat (S_api_Order.mk x12.Site x12.Version x12.Serial (max x12.Heard a_2))).map S_api_Order.enc), box f_0b [.int .i64 f_0.Base, .int .i64 f_0.Done, .int .i64 f_0.Serial, .bool f_0.Stopped, f_0_Stagesv, f_0_Ordersv], box a_1b [.int .i64 a_1], box a_2b [.int .i64 a_2]] Try.results54 rfl (by decide) rfl ?_
   exact ⟨_, _, rfl, rfl⟩

def topo_change_v3 (n : Nat) (f_0 : S_api_Fleet) (how_1_0 : Int) (how_1_1 : Int) : Option (S_api_Fleet × Int) :=
 obind (topo_ValidFleet n f_0) fun r3 =>
 cond (!r3)
  (some ((S_api_Fleet.mk 0 0 0 false ([] : List (List Int)) ([] : List S_api_Order)), 1))
  (obind (slices_Clone_weirgate_api_Order_weirgate_api_Order_71 f_0.Orders) fun r6 =>
  obind (topo_Confirm_1_54 n (S_api_Fleet.mk f_0.Base f_0.Done f_0.Serial f_0.Stopped f_0.Stages r6) how_1_0 how_1_1) fun r10 =>
  cond (decide (r10.1 ≠ 0))
   (some ((S_api_Fleet.mk 0 0 0 false ([] : List (List Int)) ([] : List S_api_Order)), r10.1))
   (some (r10.2, 0)))
theorem topo_change_v3_ok (n : Nat) (f_0 : S_api_Fleet) (how_1_0 : Int) (how_1_1 : Int) (f_0_Stagesv : Value) (f_0_Ordersv : Value) (how_1_0b : Nat) (how_1_1b : Nat) {r : S_api_Fleet × Int} (h : topo_change_v3 n f_0 how_1_0 how_1_1 = some r) :
  Meets Try.prog 52 [.agg #[.int .i64 f_0.Base, .int .i64 f_0.Done, .int .i64 f_0.Serial, .bool f_0.Stopped, f_0_Stagesv, f_0_Ordersv], .func (.func 54) #[] #[boxP how_1_0b 0, boxP how_1_1b 0]] [nro f_0_Stagesv NC_L_int_35 f_0.Stages, ro f_0_Ordersv 4 (f_0.Orders.map S_api_Order.enc), box how_1_0b [.int .i64 how_1_0], box how_1_1b [.int .i64 how_1_1]] (fun v G => ∃ v0 v1, v = .tuple #[.agg #[.int .i64 r.1.Base, .int .i64 r.1.Done, .int .i64 r.1.Serial, .bool r.1.Stopped, v0, v1], .int .i64 r.2] ∧ G = [nro v0 NC_L_int_35 r.1.Stages, row v1 4 (r.1.Orders.map S_api_Order.enc), box how_1_0b [.int .i64 how_1_0], box how_1_1b [.int .i64 how_1_1]]) := by
 refine fn_of_run Try.func52 rfl Try.ntmps52 rfl (fun w0 o0 => ?_)
 refine run_seq ?_
 refine run_region' ?_
 refine ot rfl rfl (t_box rfl) ?_
 rintro _ _ ⟨b1, rfl, rfl⟩
 refine ot rfl rfl (t_alloc Try.zeroValue59) ?_
 rintro _ _ ⟨b2, rfl, rfl⟩
 refine oy rfl rfl (y_assign rfl) ?_
 refine ops_nil ?_
 refine goes_code ?_
 refine run_seq ?_
 refine run_seq ?_
 refine run_region' ?_
 refine oy rfl rfl (y_load_boxagg (c := [.int .i64 f_0.Base, .int .i64 f_0.Done, .int .i64 f_0.Serial, .bool f_0.Stopped, f_0_Stagesv, f_0_Ordersv]) 4 Try.isAgg59 Try.sizeOf59 rfl rfl rfl) ?_
 obtain ⟨r3, hr4, h⟩ := obind_some h
 refine ot rfl rfl (t_callx (vs := [.agg #[.int .i64 f_0.Base, .int .i64 f_0.Done, .int .i64 f_0.Serial, .bool f_0.Stopped, f_0_Stagesv, f_0_Ordersv]]) (cs := []) [(0, 0), (1, 0)] rfl Try.call51 rfl (topo_ValidFleet_ok n f_0 f_0_Stagesv f_0_Ordersv hr4) (showsX_view 0 rfl views_nro (showsX_view 1 rfl views_ro showsX_nil)) rfl (.inl rfl)) ?_
 rintro _ _ ⟨_, ⟨rfl, rfl⟩, rfl⟩
 refine oy rfl rfl (y_not rfl) ?_
 refine ops_nil ?_
 refine goes_code ?_
 refine run_cond (!r3) rfl (fun hc5 => ?_) (fun hc5 => ?_)
 ·replace h := cond_t h hc5
  refine run_seq ?_
  refine run_region' ?_
  refine oy rfl rfl (y_build_struct (cells := #[.int .i64 0, .int .i64 0, .int .i64 0, .bool false, .slice none 0 0, .slice none 0 0]) [] [] Try.zeroValue59 Try.runUnderlying59 (fs_cons Try.sizeOf3 (fs_cons Try.sizeOf3 (fs_cons Try.sizeOf3 (fs_cons Try.sizeOf4 (fs_cons Try.sizeOf56 (fs_cons Try.sizeOf57 fs_nil)))))) rfl rfl rfl) ?_
  refine ot rfl rfl (t_store 5 Try.sizeOf59 rfl rfl rfl rfl (by simp [Value.cells, boxP]) (by simp [Value.cells, Value.oneCell', boxP])) ?_
  rintro _ _ ⟨rfl, rfl⟩
  refine ops_turn (retell 5 (g := box b2 [.int .i64 0, .int .i64 0, .int .i64 0, .bool false, .slice none 0 0, .slice none 0 0]) rfl rfl) ?_
  refine oy rfl rfl (y_assign rfl) ?_
  refine ops_nil ?_
  refine goes_code ?_
  refine run_ret ?_
  refine fin_turn (nilroN NC_L_int_35) ?_
  refine fin_turn (nilrow 4) ?_
  refine fin_turn (retell 7 (g := row (.slice none 0 0) 4 (([] : List S_api_Order).map S_api_Order.enc)) rfl rfl) ?_
  obtain rfl := some_eq h
  refine fin_res [.cell 4 59, .tmp 5] [.agg #[.int .i64 0, .int .i64 0, .int .i64 0, .bool false, (.slice none 0 0), (.slice none 0 0)], .int .i64 1] [6, 7, 2, 3] [nro (.slice none 0 0) NC_L_int_35 ([] : List (List Int)), row (.slice none 0 0) 4 (([] : List S_api_Order).map S_api_Order.enc), box how_1_0b [.int .i64 how_1_0], box how_1_1b [.int .i64 how_1_1]] Try.results52 rfl (rescons (res_box 5 Try.isAgg59 Try.sizeOf59 rfl rfl rfl) (rescons (res_tmp rfl) resnil)) (by decide) rfl ?_
  exact ⟨_, _, rfl, rfl⟩
 ·replace h := cond_f h hc5
  refine run_skip ?_
  refine goes_code ?_
  refine run_seq ?_
  refine run_region' ?_
  refine oy rfl rfl (y_fieldAddr_box (sz := 0) Try.runUnderlying59 rfl Try.sizeOf57 rfl) ?_
  refine oy rfl rfl (y_load_box 4 Try.isAgg57 rfl rfl rfl) ?_
  obtain ⟨r6, hr7, h⟩ := obind_some h
  refine ot rfl rfl (t_callx (vs := [f_0_Ordersv]) (cs := []) [(1, 0)] rfl Try.call71 rfl (slices_Clone_weirgate_api_Order_weirgate_api_Order_71_ok f_0.Orders f_0_Ordersv hr7) (showsX_view 1 rfl views_ro showsX_nil) rfl (.inl rfl)) ?_
  rintro v8 _ ⟨_, ⟨_, rfl, rfl⟩, rfl⟩
  refine oy rfl rfl (y_fieldAddr_box (sz := 0) Try.runUnderlying59 rfl Try.sizeOf57 rfl) ?_
  refine ops_slc 6 rfl reads_row (fun hs9 hs9o => ?_)
  refine ot rfl rfl (t_store 4 Try.sizeOf57 rfl rfl rfl (by rw [hs9]; rfl) (by simp [Value.cells, boxP]) (by rw [hs9]; exact allL_cons hs9o (allL_nil))) ?_
  rintro _ _ ⟨rfl, rfl⟩
  refine ops_turn (retell 4 (g := box b1 [.int .i64 f_0.Base, .int .i64 f_0.Done, .int .i64 f_0.Serial, .bool f_0.Stopped, f_0_Stagesv, v8]) rfl (by rw [hs9]; rfl)) ?_
  refine ops_nil ?_
  refine goes_code ?_
  refine run_seq ?_
  refine run_seq ?_
  refine run_weak [(1, .func (.func 54) #[] #[boxP how_1_0b 0, boxP how_1_1b 0]), (2, boxP b1 0), (4, boxP b2 0)] [0, 2, 3, 4, 5, 6] [nro f_0_Stagesv NC_L_int_35 f_0.Stages, box how_1_0b [.int .i64 how_1_0], box how_1_1b [.int .i64 how_1_1], box b1 [.int .i64 f_0.Base, .int .i64 f_0.Done, .int .i64 f_0.Serial, .bool f_0.Stopped, f_0_Stagesv, v8], box b2 [.int .i64 0, .int .i64 0, .int .i64 0, .bool false, .slice none 0 0, .slice none 0 0], row v8 4 (r6.map S_api_Order.enc)] (qv3 rfl rfl rfl) (by decide) rfl ?_
  refine run_region' ?_
  refine oy rfl rfl (y_move rfl) ?_
  obtain ⟨r10, hr11, h⟩ := obind_some h
  refine ot rfl rfl (t_callx (vs := [boxP b1 0]) (cs := [boxP how_1_0b 0, boxP how_1_1b 0]) [(0, 0), (5, 2), (3, 2), (1, 2), (2, 2)] rfl Try.call54 rfl (topo_Confirm_1_54_ok n (S_api_Fleet.mk f_0.Base f_0.Done f_0.Serial f_0.Stopped f_0.Stages r6) how_1_0 how_1_1 b1 f_0_Stagesv v8 how_1_0b how_1_1b hr11) (showsX_view 0 rfl views_nro (showsX_lend 5 rfl (showsX_lend 3 rfl (showsX_lend 1 rfl (showsX_lend 2 rfl showsX_nil))))) rfl (.inl rfl)) ?_
  rintro _ _ ⟨_, ⟨v12, v13, rfl, rfl⟩, rfl⟩
  refine oy rfl rfl (y_assign rfl) ?_
  refine ops_nil ?_
  refine goes_code ?_
  refine run_seq ?_
  refine run_region' ?_
  refine oy rfl rfl (y_move rfl) ?_
  refine oy rfl rfl (y_neq rfl rfl) ?_
  refine ops_nil ?_
  refine goes_code ?_
  refine run_cond (decide (r10.1 ≠ 0)) rfl (fun hc14 => ?_) (fun hc14 => ?_)
  ·replace h := cond_t h hc14
   refine run_seq ?_
   refine run_region' ?_
   refine oy rfl rfl (y_build_struct (cells := #[.int .i64 0, .int .i64 0, .int .i64 0, .bool false, .slice none 0 0, .slice none 0 0]) [] [] Try.zeroValue59 Try.runUnderlying59 (fs_cons Try.sizeOf3 (fs_cons Try.sizeOf3 (fs_cons Try.sizeOf3 (fs_cons Try.sizeOf4 (fs_cons Try.sizeOf56 (fs_cons Try.sizeOf57 fs_nil)))))) rfl rfl rfl) ?_
   refine oy rfl rfl (y_move rfl) ?_
   refine ot rfl rfl (t_store 4 Try.sizeOf59 rfl rfl rfl rfl (by simp [Value.cells, boxP]) (by simp [Value.cells, Value.oneCell', boxP])) ?_
   rintro _ _ ⟨rfl, rfl⟩
   refine ops_turn (retell 4 (g := box b2 [.int .i64 0, .int .i64 0, .int .i64 0, .bool false, .slice none 0 0, .slice none 0 0]) rfl rfl) ?_
   refine oy rfl rfl (y_assign rfl) ?_
   refine ops_nil ?_
   refine goes_code ?_
   refine run_ret ?_
   refine fin_turn (nilroN NC_L_int_35) ?_
   refine fin_turn (nilrow 4) ?_
   refine fin_turn (retell 12 (g := row (.slice none 0 0) 4 (([] : List S_api_Order).map S_api_Order.enc)) rfl rfl) ?_
   obtain rfl := some_eq h
   refine fin_res [.cell 4 59, .tmp 5] [.agg #[.int .i64 0, .int .i64 0, .int .i64 0, .bool false, (.slice none 0 0), (.slice none 0 0)], .int .i64 r10.1] [11, 12, 9, 10] [nro (.slice none 0 0) NC_L_int_35 ([] : List (List Int)), row (.slice none 0 0) 4 (([] : List S_api_Order).map S_api_Order.enc), box how_1_0b [.int .i64 how_1_0], box how_1_1b [.int .i64 how_1_1]] Try.results52 rfl (rescons (res_box 4 Try.isAgg59 Try.sizeOf59 rfl rfl rfl) (rescons (res_tmp rfl) resnil)) (by decide) rfl ?_
   exact ⟨_, _, rfl, rfl⟩
  ·replace h := cond_f h hc14
   refine run_skip ?_
   refine goes_code ?_
   refine run_seq ?_
   refine run_region' ?_
   refine oy rfl rfl (y_load_boxagg (c := [.int .i64 r10.2.Base, .int .i64 r10.2.Done, .int .i64 r10.2.Serial, .bool r10.2.Stopped, v12, v13]) 8 Try.isAgg59 Try.sizeOf59 rfl rfl rfl) ?_
   refine ops_slcN 6 rfl readsN_ro (fun hs15 hs15o => ?_)
   refine ops_slc 7 rfl reads_row (fun hs16 hs16o => ?_)
   refine ot rfl rfl (t_store 4 Try.sizeOf59 rfl rfl rfl rfl (by simp [Value.cells, boxP]) (allL_cons rfl (allL_cons rfl (allL_cons rfl (allL_cons rfl (allL_cons hs15o (allL_cons hs16o (allL_nil)))))))) ?_
   rintro _ _ ⟨rfl, rfl⟩
   refine ops_turn (retell 4 (g := box b2 [.int .i64 r10.2.Base, .int .i64 r10.2.Done, .int .i64 r10.2.Serial, .bool r10.2.Stopped, v12, v13]) rfl rfl) ?_
   refine oy rfl rfl (y_assign rfl) ?_
   refine ops_nil ?_
   refine goes_code ?_
   refine run_ret ?_
   obtain rfl := some_eq h
   refine fin_res [.cell 4 59, .tmp 5] [.agg #[.int .i64 r10.2.Base, .int .i64 r10.2.Done, .int .i64 r10.2.Serial, .bool r10.2.Stopped, v12, v13], .int .i64 0] [6, 7, 9, 10] [nro v12 NC_L_int_35 r10.2.Stages, row v13 4 (r10.2.Orders.map S_api_Order.enc), box how_1_0b [.int .i64 how_1_0], box how_1_1b [.int .i64 how_1_1]] Try.results52 rfl (rescons (res_box 4 Try.isAgg59 Try.sizeOf59 rfl rfl rfl) (rescons (res_tmp rfl) resnil)) (by decide) rfl ?_
   exact ⟨_, _, rfl, rfl⟩

def topo_Confirm (n : Nat) (f_0 : S_api_Fleet) (site_1 : Int) (serial_2 : Int) : Option (S_api_Fleet × Int) :=
 obind (topo_change_v3 n f_0 site_1 serial_2) fun r5 =>
 some (r5.1, r5.2)
theorem topo_Confirm_ok (n : Nat) (f_0 : S_api_Fleet) (site_1 : Int) (serial_2 : Int) (f_0_Stagesv : Value) (f_0_Ordersv : Value) {r : S_api_Fleet × Int} (h : topo_Confirm n f_0 site_1 serial_2 = some r) :
  Meets Try.prog 27 [.agg #[.int .i64 f_0.Base, .int .i64 f_0.Done, .int .i64 f_0.Serial, .bool f_0.Stopped, f_0_Stagesv, f_0_Ordersv], .int .i64 site_1, .int .i64 serial_2] [nro f_0_Stagesv NC_L_int_35 f_0.Stages, ro f_0_Ordersv 4 (f_0.Orders.map S_api_Order.enc)] (fun v G => ∃ v0 v1, v = .tuple #[.agg #[.int .i64 r.1.Base, .int .i64 r.1.Done, .int .i64 r.1.Serial, .bool r.1.Stopped, v0, v1], .int .i64 r.2] ∧ G = [nro v0 NC_L_int_35 r.1.Stages, row v1 4 (r.1.Orders.map S_api_Order.enc)]) := by
 refine fn_of_run Try.func27 rfl Try.ntmps27 rfl (fun w0 o0 => ?_)
 refine run_seq ?_
 refine run_region' ?_
 refine ot rfl rfl (t_box rfl) ?_
 rintro _ _ ⟨b1, rfl, rfl⟩
 refine ot rfl rfl (t_box rfl) ?_
 rintro _ _ ⟨b2, rfl, rfl⟩
 refine ot rfl rfl (t_box rfl) ?_
 rintro _ _ ⟨b3, rfl, rfl⟩
 refine ot rfl rfl (t_alloc Try.zeroValue59) ?_
 rintro _ _ ⟨b4, rfl, rfl⟩
 refine oy rfl rfl (y_assign rfl) ?_
 refine ops_nil ?_
 refine goes_code ?_
 refine run_seq ?_
 refine run_region' ?_
 refine oy rfl rfl (y_load_boxagg (c := [.int .i64 f_0.Base, .int .i64 f_0.Done, .int .i64 f_0.Serial, .bool f_0.Stopped, f_0_Stagesv, f_0_Ordersv]) 2 Try.isAgg59 Try.sizeOf59 rfl rfl rfl) ?_
 refine oy rfl rfl (y_makeFunc (vs := [boxP b2 0, boxP b3 0]) rfl) ?_
 obtain ⟨r5, hr6, h⟩ := obind_some h
 refine ot rfl rfl (t_callx (vs := [.agg #[.int .i64 f_0.Base, .int .i64 f_0.Done, .int .i64 f_0.Serial, .bool f_0.Stopped, f_0_Stagesv, f_0_Ordersv], .func (.func 54) #[] #[boxP b2 0, boxP b3 0]]) (cs := []) [(0, 0), (1, 0), (3, 2), (4, 2)] rfl Try.call52 rfl (topo_change_v3_ok n f_0 site_1 serial_2 f_0_Stagesv f_0_Ordersv b2 b3 hr6) (showsX_view 0 rfl views_nro (showsX_view 1 rfl views_ro (showsX_lend 3 rfl (showsX_lend 4 rfl showsX_nil)))) rfl (.inl rfl)) ?_
 rintro _ _ ⟨_, ⟨v7, v8, rfl, rfl⟩, rfl⟩
 refine oy rfl rfl (y_extract rfl rfl) ?_
 refine oy rfl rfl (y_extract rfl rfl) ?_
 refine ops_slcN 6 rfl readsN_ro (fun hs9 hs9o => ?_)
 refine ops_slc 7 rfl reads_row (fun hs10 hs10o => ?_)
 refine ot rfl rfl (t_store 5 Try.sizeOf59 rfl rfl rfl rfl (by simp [Value.cells, boxP]) (allL_cons rfl (allL_cons rfl (allL_cons rfl (allL_cons rfl (allL_cons hs9o (allL_cons hs10o (allL_nil)))))))) ?_
 rintro _ _ ⟨rfl, rfl⟩
 refine ops_turn (retell 5 (g := box b4 [.int .i64 r5.1.Base, .int .i64 r5.1.Done, .int .i64 r5.1.Serial, .bool r5.1.Stopped, v7, v8]) rfl rfl) ?_
 refine oy rfl rfl (y_assign rfl) ?_
 refine ops_nil ?_
 refine goes_code ?_
 refine run_ret ?_
 obtain rfl := some_eq h
 refine fin_res [.cell 6 59, .tmp 7] [.agg #[.int .i64 r5.1.Base, .int .i64 r5.1.Done, .int .i64 r5.1.Serial, .bool r5.1.Stopped, v7, v8], .int .i64 r5.2] [6, 7] [nro v7 NC_L_int_35 r5.1.Stages, row v8 4 (r5.1.Orders.map S_api_Order.enc)] Try.results27 rfl (rescons (res_box 5 Try.isAgg59 Try.sizeOf59 rfl rfl rfl) (rescons (res_tmp rfl) resnil)) (by decide) rfl ?_
 exact ⟨_, _, rfl, rfl⟩

def topo_OrderOf_L1 (f_0 : S_api_Fleet) (site_1 : Int) : (Int) → Option (Lp (Int) (Lp (Unit) (S_api_Node × Int))) :=
 fun s_10 =>
  cond (decide (s_10 < (f_0.Orders.length : Int)))
   (idx f_0.Orders s_10 fun x16 =>
   cond (decide (x16.Site = site_1))
    (some (.stop (.stop ((S_api_Node.mk site_1 x16.Version x16.Serial), 0))))
    (some (.go (IntKind.i64.wrap (s_10 + 1)))))
   (some (.stop (.go ())))
def topo_OrderOf (n : Nat) (f_0 : S_api_Fleet) (site_1 : Int) : Option (S_api_Node × Int) :=
 obind (topo_ValidFleet n f_0) fun r3 =>
 cond (!r3)
  (some ((S_api_Node.mk 0 0 0), 1))
  (bindJ (S := Unit)
   (iter (topo_OrderOf_L1 f_0 site_1) n 0)
  (fun _ =>
   some ((S_api_Node.mk 0 0 0), 5)))
theorem topo_OrderOf_ok (n : Nat) (f_0 : S_api_Fleet) (site_1 : Int) (f_0_Stagesv : Value) (f_0_Ordersv : Value) {r : S_api_Node × Int} (h : topo_OrderOf n f_0 site_1 = some r) :
  Meets Try.prog 25 [.agg #[.int .i64 f_0.Base, .int .i64 f_0.Done, .int .i64 f_0.Serial, .bool f_0.Stopped, f_0_Stagesv, f_0_Ordersv], .int .i64 site_1] [nro f_0_Stagesv NC_L_int_35 f_0.Stages, ro f_0_Ordersv 4 (f_0.Orders.map S_api_Order.enc)] (fun v G => v = .tuple #[.agg #[.int .i64 r.1.Site, .int .i64 r.1.Version, .int .i64 r.1.Serial], .int .i64 r.2] ∧ G = []) := by
 refine fn_of_run Try.func25 rfl Try.ntmps25 rfl (fun w0 o0 => ?_)
 refine run_seq ?_
 refine run_region' ?_
 refine ot rfl rfl (t_box rfl) ?_
 rintro _ _ ⟨b1, rfl, rfl⟩
 refine ot rfl rfl (t_alloc Try.zeroValue61) ?_
 rintro _ _ ⟨b2, rfl, rfl⟩
 refine oy rfl rfl (y_assign rfl) ?_
 refine ops_nil ?_
 refine goes_code ?_
 refine run_seq ?_
 refine run_seq ?_
 refine run_region' ?_
 refine oy rfl rfl (y_load_boxagg (c := [.int .i64 f_0.Base, .int .i64 f_0.Done, .int .i64 f_0.Serial, .bool f_0.Stopped, f_0_Stagesv, f_0_Ordersv]) 2 Try.isAgg59 Try.sizeOf59 rfl rfl rfl) ?_
 obtain ⟨r3, hr4, h⟩ := obind_some h
 refine ot rfl rfl (t_callx (vs := [.agg #[.int .i64 f_0.Base, .int .i64 f_0.Done, .int .i64 f_0.Serial, .bool f_0.Stopped, f_0_Stagesv, f_0_Ordersv]]) (cs := []) [(0, 0), (1, 0)] rfl Try.call51 rfl (topo_ValidFleet_ok n f_0 f_0_Stagesv f_0_Ordersv hr4) (showsX_view 0 rfl views_nro (showsX_view 1 rfl views_ro showsX_nil)) rfl (.inl rfl)) ?_
 rintro _ _ ⟨_, ⟨rfl, rfl⟩, rfl⟩
 refine oy rfl rfl (y_not rfl) ?_
 refine ops_nil ?_
 refine goes_code ?_
 refine run_cond (!r3) rfl (fun hc5 => ?_) (fun hc5 => ?_)
 ·replace h := cond_t h hc5
  refine run_seq ?_
  refine run_region' ?_
  refine oy rfl rfl (y_build_struct (cells := #[.int .i64 0, .int .i64 0, .int .i64 0]) [] [] Try.zeroValue61 Try.runUnderlying61 (fs_cons Try.sizeOf3 (fs_cons Try.sizeOf3 (fs_cons Try.sizeOf3 fs_nil))) rfl rfl rfl) ?_
  refine ot rfl rfl (t_store 3 Try.sizeOf61 rfl rfl rfl rfl (by simp [Value.cells, boxP]) (by simp [Value.cells, Value.oneCell', boxP])) ?_
  rintro _ _ ⟨rfl, rfl⟩
  refine ops_turn (retell 3 (g := box b2 [.int .i64 0, .int .i64 0, .int .i64 0]) rfl rfl) ?_
  refine oy rfl rfl (y_assign rfl) ?_
  refine ops_nil ?_
  refine goes_code ?_
  refine run_ret ?_
  obtain rfl := some_eq h
  refine fin_res [.cell 4 61, .tmp 5] [.agg #[.int .i64 0, .int .i64 0, .int .i64 0], .int .i64 1] [] [] Try.results25 rfl (rescons (res_box 3 Try.isAgg61 Try.sizeOf61 rfl rfl rfl) (rescons (res_tmp rfl) resnil)) (by decide) rfl ?_
  exact ⟨rfl, rfl⟩
 ·replace h := cond_f h hc5
  refine run_skip ?_
  refine goes_code ?_
  obtain ⟨o6, h, ho7⟩ := bindJ_some h
  refine run_cut ((Unit) × (Unit)) (fun σ => [(4, boxP b2 0)]) (fun σ => [box b2 [.int .i64 0, .int .i64 0, .int .i64 0]]) (fun σ => o6 = .go σ.1) (fun L9 hL8 => ?_) ?_
  ·
   refine run_seq ?_
   refine run_region' ?_
   refine oy rfl rfl (y_fieldAddr_box (sz := 0) Try.runUnderlying59 rfl Try.sizeOf57 rfl) ?_
   refine oy rfl rfl (y_load_box 2 Try.isAgg57 rfl rfl rfl) ?_
   refine oy rfl rfl ((y_len 1 rfl Try.runUnderlying57 rfl rfl reads_ro).to (v_len S_api_Order.enc _)) ?_
   refine oy rfl rfl (y_move rfl) ?_
   refine ops_nil ?_
   refine goes_code ?_
   refine run_block ?_
   refine run_iter (step := topo_OrderOf_L1 f_0 site_1) (n := n) (s0 := 0) h (G := Unit) () (fun σ γ => [(1, .int .i64 site_1), (4, boxP b2 0), (13, f_0_Ordersv), (14, .int .i64 (f_0.Orders.length : Int)), (15, .int .i64 σ)]) (fun σ γ => [box b2 [.int .i64 0, .int .i64 0, .int .i64 0], ro f_0_Ordersv 4 (f_0.Orders.map S_api_Order.enc)]) [3, 1] (qv5 rfl rfl rfl rfl rfl) (by decide) rfl ?_
   rintro s_10 _ o11 h L14 hgo12 hstop13
   change Run _ _ _ (VF.of [(1, .int .i64 site_1), (4, boxP b2 0), (13, f_0_Ordersv), (14, .int .i64 (f_0.Orders.length : Int)), (15, .int .i64 s_10)]) [box b2 [.int .i64 0, .int .i64 0, .int .i64 0], ro f_0_Ordersv 4 (f_0.Orders.map S_api_Order.enc)]
   refine run_seq ?_
   refine run_region' ?_
   refine oy rfl rfl (y_lss rfl rfl) ?_
   refine ops_nil ?_
   refine goes_code ?_
   refine run_seq ?_
   refine run_cond (decide (s_10 < (f_0.Orders.length : Int))) rfl (fun hc15 => ?_) (fun hc15 => ?_)
   ·replace h := cond_t h hc15
    refine run_skip ?_
    refine goes_code ?_
    refine run_seq ?_
    refine run_block ?_
    refine run_seq ?_
    refine run_region' ?_
    obtain ⟨x16, hzx16, hlx16, hxx16, h⟩ := idx_some h
    refine oy rfl rfl (y_indexAddrI (kd := .i64) (i := s_10) 1 Try.runUnderlying57 Try.sizeOf108 rfl rfl rfl reads_ro hzx16 (map_lt hlx16)) ?_
    refine oy rfl rfl (y_load_agg (i := s_10.toNat) (c := [.int .i64 x16.Site, .int .i64 x16.Version, .int .i64 x16.Serial, .int .i64 x16.Heard]) 1 Try.isAgg108 Try.sizeOf108 rfl rfl reads_ro (map_get hxx16)) ?_
    refine ot rfl rfl (t_alloc Try.zeroValue108) ?_
    rintro _ _ ⟨b17, rfl, rfl⟩
    refine ot rfl rfl (t_store 2 Try.sizeOf108 rfl rfl rfl rfl (by simp [Value.cells, boxP]) (by simp [Value.cells, Value.oneCell', boxP])) ?_
    rintro _ _ ⟨rfl, rfl⟩
    refine ops_turn (retell 2 (g := box b17 [.int .i64 x16.Site, .int .i64 x16.Version, .int .i64 x16.Serial, .int .i64 x16.Heard]) rfl rfl) ?_
    refine ops_nil ?_
    refine goes_code ?_
    refine run_seq ?_
    refine run_region' ?_
    refine oy rfl rfl (y_fieldAddr_box (sz := 0) Try.runUnderlying108 rfl Try.sizeOf3 rfl) ?_
    refine oy rfl rfl (y_load_box 2 Try.isAgg3 rfl rfl rfl) ?_
    refine oy rfl rfl (y_move rfl) ?_
    refine oy rfl rfl (y_eql rfl rfl) ?_
    refine ops_nil ?_
    refine goes_code ?_
    refine run_cond (decide (x16.Site = site_1)) rfl (fun hc18 => ?_) (fun hc18 => ?_)
    ·replace h := cond_t h hc18
     refine run_seq ?_
     refine run_weak [(1, .int .i64 site_1), (4, boxP b2 0), (7, boxP b17 0)] [0, 2] [box b2 [.int .i64 0, .int .i64 0, .int .i64 0], box b17 [.int .i64 x16.Site, .int .i64 x16.Version, .int .i64 x16.Serial, .int .i64 x16.Heard]] (qv3 rfl rfl rfl) (by decide) rfl ?_
     refine run_region' ?_
     refine oy rfl rfl (y_move rfl) ?_
     refine oy rfl rfl (y_fieldAddr_box (sz := 0) Try.runUnderlying108 rfl Try.sizeOf3 rfl) ?_
     refine oy rfl rfl (y_load_box 1 Try.isAgg3 rfl rfl rfl) ?_
     refine oy rfl rfl (y_fieldAddr_box (sz := 0) Try.runUnderlying108 rfl Try.sizeOf3 rfl) ?_
     refine oy rfl rfl (y_load_box 1 Try.isAgg3 rfl rfl rfl) ?_
     refine oy rfl rfl (y_build_struct (cells := #[.int .i64 site_1, .int .i64 x16.Version, .int .i64 x16.Serial]) [(0, .int .i64 site_1), (1, .int .i64 x16.Version), (2, .int .i64 x16.Serial)] [(0, [.int .i64 site_1]), (1, [.int .i64 x16.Version]), (2, [.int .i64 x16.Serial])] Try.zeroValue61 Try.runUnderlying61 (fs_cons Try.sizeOf3 (fs_cons Try.sizeOf3 (fs_cons Try.sizeOf3 fs_nil))) rfl rfl rfl) ?_
     refine ot rfl rfl (t_store 0 Try.sizeOf61 rfl rfl rfl rfl (by simp [Value.cells, boxP]) (by simp [Value.cells, Value.oneCell', boxP])) ?_
     rintro _ _ ⟨rfl, rfl⟩
     refine ops_turn (retell 0 (g := box b2 [.int .i64 site_1, .int .i64 x16.Version, .int .i64 x16.Serial]) rfl rfl) ?_
     refine oy rfl rfl (y_assign rfl) ?_
     refine ops_nil ?_
     refine goes_code ?_
     refine run_ret ?_
     obtain rfl := some_eq h
     obtain rfl := hstop13 _ rfl
     skip
     obtain rfl := after_stop ho7
     refine fin_res [.cell 4 61, .tmp 5] [.agg #[.int .i64 site_1, .int .i64 x16.Version, .int .i64 x16.Serial], .int .i64 0] [] [] Try.results25 rfl (rescons (res_box 0 Try.isAgg61 Try.sizeOf61 rfl rfl rfl) (rescons (res_tmp rfl) resnil)) (by decide) rfl ?_
     exact ⟨rfl, rfl⟩
    ·replace h := cond_f h hc18
     refine run_skip ?_
     refine goes_blk ?_
     refine goes_code ?_
     refine run_weak [(1, .int .i64 site_1), (4, boxP b2 0), (13, f_0_Ordersv), (14, .int .i64 (f_0.Orders.length : Int)), (15, .int .i64 s_10)] [0, 1] [box b2 [.int .i64 0, .int .i64 0, .int .i64 0], ro f_0_Ordersv 4 (f_0.Orders.map S_api_Order.enc)] (qv5 rfl rfl rfl rfl rfl) (by decide) rfl ?_
     refine run_region' ?_
     refine oy rfl rfl (y_add rfl rfl) ?_
     refine oy rfl rfl (y_move rfl) ?_
     refine ops_nil ?_
     obtain rfl := some_eq h
     exact goes_iter hgo12 (IntKind.i64.wrap (s_10 + 1)) () [0, 1] rfl (qv5 rfl rfl rfl rfl rfl) (by decide) rfl
   ·replace h := cond_f h hc15
    refine run_exit _ rfl ?_
    obtain rfl := some_eq h
    obtain rfl := hstop13 _ rfl
    exact goes_cut hL8 ((), ()) [0] (qv1 rfl) (by decide) rfl rfl
  rintro ⟨_, _⟩ hj
  obtain rfl : o6 = _ := hj
  replace h := after_go ho7
  clear ho7
  change Run _ _ _ (VF.of [(4, boxP b2 0)]) [box b2 [.int .i64 0, .int .i64 0, .int .i64 0]]
  refine run_seq ?_
  refine run_region' ?_
  refine oy rfl rfl (y_build_struct (cells := #[.int .i64 0, .int .i64 0, .int .i64 0]) [] [] Try.zeroValue61 Try.runUnderlying61 (fs_cons Try.sizeOf3 (fs_cons Try.sizeOf3 (fs_cons Try.sizeOf3 fs_nil))) rfl rfl rfl) ?_
  refine ot rfl rfl (t_store 0 Try.sizeOf61 rfl rfl rfl rfl (by simp [Value.cells, boxP]) (by simp [Value.cells, Value.oneCell', boxP])) ?_
  rintro _ _ ⟨rfl, rfl⟩
  refine ops_turn (retell 0 (g := box b2 [.int .i64 0, .int .i64 0, .int .i64 0]) rfl rfl) ?_
  refine oy rfl rfl (y_assign rfl) ?_
  refine ops_nil ?_
  refine goes_code ?_
  refine run_ret ?_
  obtain rfl := some_eq h
  refine fin_res [.cell 4 61, .tmp 5] [.agg #[.int .i64 0, .int .i64 0, .int .i64 0], .int .i64 5] [] [] Try.results25 rfl (rescons (res_box 0 Try.isAgg61 Try.sizeOf61 rfl rfl rfl) (rescons (res_tmp rfl) resnil)) (by decide) rfl ?_
  exact ⟨rfl, rfl⟩

def topo_Retreat_1_58 (n : Nat) (f_0 : S_api_Fleet) : Option (Int × S_api_Fleet) :=
 cond (decide (f_0.Done = 0))
  (some (4, f_0))
  (obind (topo_order n (S_api_Fleet.mk f_0.Base (IntKind.i64.wrap (f_0.Done - 1)) f_0.Serial f_0.Stopped f_0.Stages f_0.Orders) (IntKind.i64.wrap (f_0.Done - 1)) f_0.Base) fun r2 =>
  some (r2.1, r2.2))
theorem topo_Retreat_1_58_ok (n : Nat) (f_0 : S_api_Fleet) (f_0b : Nat) (f_0_Stagesv : Value) (f_0_Ordersv : Value) {r : Int × S_api_Fleet} (h : topo_Retreat_1_58 n f_0 = some r) :
  Meets Try.prog 58 [boxP f_0b 0] [nro f_0_Stagesv NC_L_int_35 f_0.Stages, row f_0_Ordersv 4 (f_0.Orders.map S_api_Order.enc), box f_0b [.int .i64 f_0.Base, .int .i64 f_0.Done, .int .i64 f_0.Serial, .bool f_0.Stopped, f_0_Stagesv, f_0_Ordersv]] (fun v G => ∃ v0 v1, v = .int .i64 r.1 ∧ G = [nro v0 NC_L_int_35 r.2.Stages, row v1 4 (r.2.Orders.map S_api_Order.enc), box f_0b [.int .i64 r.2.Base, .int .i64 r.2.Done, .int .i64 r.2.Serial, .bool r.2.Stopped, v0, v1]]) := by
 refine fn_of_run Try.func58 rfl Try.ntmps58 rfl (fun w0 o0 => ?_)
 refine run_seq ?_
 refine run_region' ?_
 refine oy rfl rfl (y_assign rfl) ?_
 refine ops_nil ?_
 refine goes_code ?_
 refine run_seq ?_
 refine run_seq ?_
 refine run_region' ?_
 refine oy rfl rfl (y_move rfl) ?_
 refine oy rfl rfl (y_nilBox rfl) ?_
 refine oy rfl rfl (y_fieldAddr_box (sz := 0) Try.runUnderlying59 rfl Try.sizeOf3 rfl) ?_
 refine oy rfl rfl (y_load_box 2 Try.isAgg3 rfl rfl rfl) ?_
 refine oy rfl rfl (y_eql rfl rfl) ?_
 refine ops_nil ?_
 refine goes_code ?_
 refine run_cond (decide (f_0.Done = 0)) rfl (fun hc1 => ?_) (fun hc1 => ?_)
 ·replace h := cond_t h hc1
  refine run_seq ?_
  refine run_region' ?_
  refine oy rfl rfl (y_assign rfl) ?_
  refine ops_nil ?_
  refine goes_code ?_
  refine run_ret ?_
  obtain rfl := some_eq h
  refine fin_slots [2] [.int .i64 4] [0, 1, 2] [nro f_0_Stagesv NC_L_int_35 f_0.Stages, row f_0_Ordersv 4 (f_0.Orders.map S_api_Order.enc), box f_0b [.int .i64 f_0.Base, .int .i64 f_0.Done, .int .i64 f_0.Serial, .bool f_0.Stopped, f_0_Stagesv, f_0_Ordersv]] Try.results58 rfl (by decide) rfl ?_
  exact ⟨_, _, rfl, rfl⟩
 ·replace h := cond_f h hc1
  refine run_skip ?_
  refine goes_code ?_
  refine run_seq ?_
  refine run_region' ?_
  refine oy rfl rfl (y_move rfl) ?_
  refine oy rfl rfl (y_nilBox rfl) ?_
  refine oy rfl rfl (y_fieldAddr_box (sz := 0) Try.runUnderlying59 rfl Try.sizeOf3 rfl) ?_
  refine oy rfl rfl (y_load_box 2 Try.isAgg3 rfl rfl rfl) ?_
  refine oy rfl rfl (y_sub rfl rfl) ?_
  refine oy rfl rfl (y_nilBox rfl) ?_
  refine oy rfl rfl (y_fieldAddr_box (sz := 0) Try.runUnderlying59 rfl Try.sizeOf3 rfl) ?_
  refine ot rfl rfl (t_store 2 Try.sizeOf3 rfl rfl rfl rfl (by simp [Value.cells, boxP]) (by simp [Value.cells, Value.oneCell', boxP])) ?_
  rintro _ _ ⟨rfl, rfl⟩
  refine ops_turn (retell 2 (g := box f_0b [.int .i64 f_0.Base, .int .i64 (IntKind.i64.wrap (f_0.Done - 1)), .int .i64 f_0.Serial, .bool f_0.Stopped, f_0_Stagesv, f_0_Ordersv]) rfl rfl) ?_
  refine ops_nil ?_
  refine goes_code ?_
  refine run_seq ?_
  refine run_weak [(0, boxP f_0b 0)] [0, 1, 2] [nro f_0_Stagesv NC_L_int_35 f_0.Stages, row f_0_Ordersv 4 (f_0.Orders.map S_api_Order.enc), box f_0b [.int .i64 f_0.Base, .int .i64 (IntKind.i64.wrap (f_0.Done - 1)), .int .i64 f_0.Serial, .bool f_0.Stopped, f_0_Stagesv, f_0_Ordersv]] (qv1 rfl) (by decide) rfl ?_
  obtain ⟨r2, hr3, h⟩ := obind_some h
  refine run_drawany [nro f_0_Stagesv NC_L_int_35 f_0.Stages, HA.emp, HA.emp] (by kernel_rfl) ?_
  refine any_y 0 rfl (by kernel_rfl) (by kernel_rfl) (by kernel_rfl) (ss (se (se (sn)))) (wn rfl) rfl (y_move rfl) ?_
  refine any_y 1 rfl (by kernel_rfl) (by kernel_rfl) (by kernel_rfl) (ss (se (se (sn)))) (wn rfl) rfl (y_move rfl) ?_
  refine any_y 2 rfl (by kernel_rfl) (by kernel_rfl) (by kernel_rfl) (ss (se (se (sn)))) (wn rfl) rfl (y_nilBox rfl) ?_
  refine any_y 3 rfl (by kernel_rfl) (by kernel_rfl) (by kernel_rfl) (ss (se (se (sn)))) (wn rfl) rfl (y_fieldAddr_box (sz := 0) Try.runUnderlying59 rfl Try.sizeOf3 rfl) ?_
  refine any_y 5 rfl (by kernel_rfl) (by kernel_rfl) (by kernel_rfl) (ss (se (se (sn)))) (wn rfl) rfl (y_move rfl) ?_
  refine any_y 6 rfl (by kernel_rfl) (by kernel_rfl) (by kernel_rfl) (ss (se (se (sn)))) (wn rfl) rfl (y_nilBox rfl) ?_
  refine any_y 7 rfl (by kernel_rfl) (by kernel_rfl) (by kernel_rfl) (ss (se (se (sn)))) (wn rfl) rfl (y_fieldAddr_box (sz := 0) Try.runUnderlying59 rfl Try.sizeOf3 rfl) ?_
  refine any_cut2 #[true, true, true, true, true, true, true, true, true, true, true] 0 (Value × Value) (fun σ => [(2, .int .i64 r2.1)]) (fun σ => [nro f_0_Stagesv NC_L_int_35 f_0.Stages, HA.emp, HA.emp, nro σ.1 NC_L_int_35 r2.2.Stages, row σ.2 4 (r2.2.Orders.map S_api_Order.enc), box f_0b [.int .i64 r2.2.Base, .int .i64 r2.2.Done, .int .i64 r2.2.Serial, .bool r2.2.Stopped, σ.1, σ.2]]) ?_ (fun hK8 => ?_)
  ·rintro ⟨v6, v7⟩
   change AnyL _ _ _ _ _ (VF.of [(2, .int .i64 r2.1)]) [nro f_0_Stagesv NC_L_int_35 f_0.Stages, HA.emp, HA.emp, nro v6 NC_L_int_35 r2.2.Stages, row v7 4 (r2.2.Orders.map S_api_Order.enc), box f_0b [.int .i64 r2.2.Base, .int .i64 r2.2.Done, .int .i64 r2.2.Serial, .bool r2.2.Stopped, v6, v7]] _
   refine any_nil (by kernel_rfl) ?_
   refine goes_code ?_
   refine run_ret ?_
   obtain rfl := some_eq h
   refine fin_slots [2] [.int .i64 r2.1] [3, 4, 5] [nro v6 NC_L_int_35 r2.2.Stages, row v7 4 (r2.2.Orders.map S_api_Order.enc), box f_0b [.int .i64 r2.2.Base, .int .i64 r2.2.Done, .int .i64 r2.2.Serial, .bool r2.2.Stopped, v6, v7]] Try.results58 rfl (by decide) rfl ?_
   exact ⟨_, _, rfl, rfl⟩
  refine any_cut2 #[true, true, true, true, true, true, true, true, true, false, false] 2 (Unit) (fun σ => [(15, boxP f_0b 0), (19, .int .i64 (IntKind.i64.wrap (f_0.Done - 1))), (23, .int .i64 f_0.Base)]) (fun σ => [nro f_0_Stagesv NC_L_int_35 f_0.Stages, row f_0_Ordersv 4 (f_0.Orders.map S_api_Order.enc), box f_0b [.int .i64 f_0.Base, .int .i64 (IntKind.i64.wrap (f_0.Done - 1)), .int .i64 f_0.Serial, .bool f_0.Stopped, f_0_Stagesv, f_0_Ordersv]]) ?_ (fun hK9 => ?_)
  ·rintro _
   change AnyL _ _ _ _ _ (VF.of [(15, boxP f_0b 0), (19, .int .i64 (IntKind.i64.wrap (f_0.Done - 1))), (23, .int .i64 f_0.Base)]) [nro f_0_Stagesv NC_L_int_35 f_0.Stages, row f_0_Ordersv 4 (f_0.Orders.map S_api_Order.enc), box f_0b [.int .i64 f_0.Base, .int .i64 (IntKind.i64.wrap (f_0.Done - 1)), .int .i64 f_0.Serial, .bool f_0.Stopped, f_0_Stagesv, f_0_Ordersv]] _
   refine any_all [9] (by kernel_rfl) rfl ?_
   refine anyo_cons ?_ ?_
   ·
    refine any_t rfl (wn rfl) rfl (t_callx (vs := [boxP f_0b 0, .int .i64 (IntKind.i64.wrap (f_0.Done - 1)), .int .i64 f_0.Base]) (cs := []) [(0, 0), (1, 2), (2, 2)] rfl Try.call59 rfl (topo_order_ok n (S_api_Fleet.mk f_0.Base (IntKind.i64.wrap (f_0.Done - 1)) f_0.Serial f_0.Stopped f_0.Stages f_0.Orders) (IntKind.i64.wrap (f_0.Done - 1)) f_0.Base f_0b f_0_Stagesv f_0_Ordersv hr3) (showsX_view 0 rfl views_nro (showsX_lend 1 rfl (showsX_lend 2 rfl showsX_nil))) rfl (.inl rfl)) ?_
    rintro _ _ ⟨_, ⟨v10, v11, rfl, rfl⟩, rfl⟩
    refine ⟨(ss (se (se (sn)))), ?_⟩
    refine any_y 10 rfl (by kernel_rfl) (by kernel_rfl) (by kernel_rfl) (ss (se (se (sn)))) (wn rfl) rfl (y_assign rfl) ?_
    exact any_weak2 (hK8 (v10, v11)) [0, 1, 2, 3, 4, 5] (by kernel_rfl) (qv1 rfl) (by decide) rfl
   exact anyo_nil
  refine any_cut2 #[true, true, true, true, true, true, true, true, false, false, false] 3 (Unit) (fun σ => [(15, boxP f_0b 0), (22, boxP f_0b 0), (19, .int .i64 (IntKind.i64.wrap (f_0.Done - 1)))]) (fun σ => [nro f_0_Stagesv NC_L_int_35 f_0.Stages, row f_0_Ordersv 4 (f_0.Orders.map S_api_Order.enc), box f_0b [.int .i64 f_0.Base, .int .i64 (IntKind.i64.wrap (f_0.Done - 1)), .int .i64 f_0.Serial, .bool f_0.Stopped, f_0_Stagesv, f_0_Ordersv]]) ?_ (fun hK12 => ?_)
  ·rintro _
   change AnyL _ _ _ _ _ (VF.of [(15, boxP f_0b 0), (22, boxP f_0b 0), (19, .int .i64 (IntKind.i64.wrap (f_0.Done - 1)))]) [nro f_0_Stagesv NC_L_int_35 f_0.Stages, row f_0_Ordersv 4 (f_0.Orders.map S_api_Order.enc), box f_0b [.int .i64 f_0.Base, .int .i64 (IntKind.i64.wrap (f_0.Done - 1)), .int .i64 f_0.Serial, .bool f_0.Stopped, f_0_Stagesv, f_0_Ordersv]] _
   refine any_all [8] (by kernel_rfl) rfl ?_
   refine anyo_cons ?_ ?_
   ·
    refine any_ty rfl (wn rfl) rfl (y_load_box 2 Try.isAgg3 rfl rfl rfl) ⟨(ss (se (se (sn)))), ?_⟩
    exact any_weak2 (hK9 ()) [0, 1, 2] (by kernel_rfl) (qv3 rfl rfl rfl) (by decide) rfl
   exact anyo_nil
  refine any_cut2 #[true, true, true, true, false, true, true, true, true, false, false] 3 (Unit) (fun σ => [(15, boxP f_0b 0), (18, boxP f_0b 1), (23, .int .i64 f_0.Base)]) (fun σ => [nro f_0_Stagesv NC_L_int_35 f_0.Stages, row f_0_Ordersv 4 (f_0.Orders.map S_api_Order.enc), box f_0b [.int .i64 f_0.Base, .int .i64 (IntKind.i64.wrap (f_0.Done - 1)), .int .i64 f_0.Serial, .bool f_0.Stopped, f_0_Stagesv, f_0_Ordersv]]) ?_ (fun hK13 => ?_)
  ·rintro _
   change AnyL _ _ _ _ _ (VF.of [(15, boxP f_0b 0), (18, boxP f_0b 1), (23, .int .i64 f_0.Base)]) [nro f_0_Stagesv NC_L_int_35 f_0.Stages, row f_0_Ordersv 4 (f_0.Orders.map S_api_Order.enc), box f_0b [.int .i64 f_0.Base, .int .i64 (IntKind.i64.wrap (f_0.Done - 1)), .int .i64 f_0.Serial, .bool f_0.Stopped, f_0_Stagesv, f_0_Ordersv]] _
   refine any_all [4] (by kernel_rfl) rfl ?_
   refine anyo_cons ?_ ?_
   ·
    refine any_ty rfl (wn rfl) rfl (y_load_box 2 Try.isAgg3 rfl rfl rfl) ⟨(ss (se (se (sn)))), ?_⟩
    exact any_weak2 (hK9 ()) [0, 1, 2] (by kernel_rfl) (qv3 rfl rfl rfl) (by decide) rfl
   exact anyo_nil
  refine any_all [4, 8] (by kernel_rfl) rfl ?_
  refine anyo_cons ?_ ?_
  ·
   refine any_ty rfl (wn rfl) rfl (y_load_box 2 Try.isAgg3 rfl rfl rfl) ⟨(ss (se (se (sn)))), ?_⟩
   exact any_weak2 (hK12 ()) [0, 1, 2] (by kernel_rfl) (qv3 rfl rfl rfl) (by decide) rfl
  refine anyo_cons ?_ ?_
  ·
   refine any_ty rfl (wn rfl) rfl (y_load_box 2 Try.isAgg3 rfl rfl rfl) ⟨(ss (se (se (sn)))), ?_⟩
   exact any_weak2 (hK13 ()) [0, 1, 2] (by kernel_rfl) (qv3 rfl rfl rfl) (by decide) rfl
  exact anyo_nil

def topo_change_v4 (n : Nat) (f_0 : S_api_Fleet) : Option (S_api_Fleet × Int) :=
 obind (topo_ValidFleet n f_0) fun r3 =>
 cond (!r3)
  (some ((S_api_Fleet.mk 0 0 0 false ([] : List (List Int)) ([] : List S_api_Order)), 1))
  (obind (slices_Clone_weirgate_api_Order_weirgate_api_Order_71 f_0.Orders) fun r6 =>
  obind (topo_Retreat_1_58 n (S_api_Fleet.mk f_0.Base f_0.Done f_0.Serial f_0.Stopped f_0.Stages r6)) fun r10 =>
  cond (decide (r10.1 ≠ 0))
   (some ((S_api_Fleet.mk 0 0 0 false ([] : List (List Int)) ([] : List S_api_Order)), r10.1))
   (some (r10.2, 0)))
theorem topo_change_v4_ok (n : Nat) (f_0 : S_api_Fleet) (f_0_Stagesv : Value) (f_0_Ordersv : Value) {r : S_api_Fleet × Int} (h : topo_change_v4 n f_0 = some r) :
  Meets Try.prog 52 [.agg #[.int .i64 f_0.Base, .int .i64 f_0.Done, .int .i64 f_0.Serial, .bool f_0.Stopped, f_0_Stagesv, f_0_Ordersv], .func (.func 58) #[] #[]] [nro f_0_Stagesv NC_L_int_35 f_0.Stages, ro f_0_Ordersv 4 (f_0.Orders.map S_api_Order.enc)] (fun v G => ∃ v0 v1, v = .tuple #[.agg #[.int .i64 r.1.Base, .int .i64 r.1.Done, .int .i64 r.1.Serial, .bool r.1.Stopped, v0, v1], .int .i64 r.2] ∧ G = [nro v0 NC_L_int_35 r.1.Stages, row v1 4 (r.1.Orders.map S_api_Order.enc)]) := by
 refine fn_of_run Try.func52 rfl Try.ntmps52 rfl (fun w0 o0 => ?_)
 refine run_seq ?_
 refine run_region' ?_
 refine ot rfl rfl (t_box rfl) ?_
 rintro _ _ ⟨b1, rfl, rfl⟩
 refine ot rfl rfl (t_alloc Try.zeroValue59) ?_
 rintro _ _ ⟨b2, rfl, rfl⟩
 refine oy rfl rfl (y_assign rfl) ?_
 refine ops_nil ?_
 refine goes_code ?_
 refine run_seq ?_
 refine run_seq ?_
 refine run_region' ?_
 refine oy rfl rfl (y_load_boxagg (c := [.int .i64 f_0.Base, .int .i64 f_0.Done, .int .i64 f_0.Serial, .bool f_0.Stopped, f_0_Stagesv, f_0_Ordersv]) 2 Try.isAgg59 Try.sizeOf59 rfl rfl rfl) ?_
 obtain ⟨r3, hr4, h⟩ := obind_some h
 refine ot rfl rfl (t_callx (vs := [.agg #[.int .i64 f_0.Base, .int .i64 f_0.Done, .int .i64 f_0.Serial, .bool f_0.Stopped, f_0_Stagesv, f_0_Ordersv]]) (cs := []) [(0, 0), (1, 0)] rfl Try.call51 rfl (topo_ValidFleet_ok n f_0 f_0_Stagesv f_0_Ordersv hr4) (showsX_view 0 rfl views_nro (showsX_view 1 rfl views_ro showsX_nil)) rfl (.inl rfl)) ?_
 rintro _ _ ⟨_, ⟨rfl, rfl⟩, rfl⟩
 refine oy rfl rfl (y_not rfl) ?_
 refine ops_nil ?_
 refine goes_code ?_
 refine run_cond (!r3) rfl (fun hc5 => ?_) (fun hc5 => ?_)
 ·replace h := cond_t h hc5
  refine run_seq ?_
  refine run_region' ?_
  refine oy rfl rfl (y_build_struct (cells := #[.int .i64 0, .int .i64 0, .int .i64 0, .bool false, .slice none 0 0, .slice none 0 0]) [] [] Try.zeroValue59 Try.runUnderlying59 (fs_cons Try.sizeOf3 (fs_cons Try.sizeOf3 (fs_cons Try.sizeOf3 (fs_cons Try.sizeOf4 (fs_cons Try.sizeOf56 (fs_cons Try.sizeOf57 fs_nil)))))) rfl rfl rfl) ?_
  refine ot rfl rfl (t_store 3 Try.sizeOf59 rfl rfl rfl rfl (by simp [Value.cells, boxP]) (by simp [Value.cells, Value.oneCell', boxP])) ?_
  rintro _ _ ⟨rfl, rfl⟩
  refine ops_turn (retell 3 (g := box b2 [.int .i64 0, .int .i64 0, .int .i64 0, .bool false, .slice none 0 0, .slice none 0 0]) rfl rfl) ?_
  refine oy rfl rfl (y_assign rfl) ?_
  refine ops_nil ?_
  refine goes_code ?_
  refine run_ret ?_
  refine fin_turn (nilroN NC_L_int_35) ?_
  refine fin_turn (nilrow 4) ?_
  refine fin_turn (retell 5 (g := row (.slice none 0 0) 4 (([] : List S_api_Order).map S_api_Order.enc)) rfl rfl) ?_
  obtain rfl := some_eq h
  refine fin_res [.cell 4 59, .tmp 5] [.agg #[.int .i64 0, .int .i64 0, .int .i64 0, .bool false, (.slice none 0 0), (.slice none 0 0)], .int .i64 1] [4, 5] [nro (.slice none 0 0) NC_L_int_35 ([] : List (List Int)), row (.slice none 0 0) 4 (([] : List S_api_Order).map S_api_Order.enc)] Try.results52 rfl (rescons (res_box 3 Try.isAgg59 Try.sizeOf59 rfl rfl rfl) (rescons (res_tmp rfl) resnil)) (by decide) rfl ?_
  exact ⟨_, _, rfl, rfl⟩
 ·replace h := cond_f h hc5
  refine run_skip ?_
  refine goes_code ?_
  refine run_seq ?_
  refine run_region' ?_
  refine oy rfl rfl (y_fieldAddr_box (sz := 0) Try.runUnderlying59 rfl Try.sizeOf57 rfl) ?_
  refine oy rfl rfl (y_load_box 2 Try.isAgg57 rfl rfl rfl) ?_
  obtain ⟨r6, hr7, h⟩ := obind_some h
  refine ot rfl rfl (t_callx (vs := [f_0_Ordersv]) (cs := []) [(1, 0)] rfl Try.call71 rfl (slices_Clone_weirgate_api_Order_weirgate_api_Order_71_ok f_0.Orders f_0_Ordersv hr7) (showsX_view 1 rfl views_ro showsX_nil) rfl (.inl rfl)) ?_
  rintro v8 _ ⟨_, ⟨_, rfl, rfl⟩, rfl⟩
  refine oy rfl rfl (y_fieldAddr_box (sz := 0) Try.runUnderlying59 rfl Try.sizeOf57 rfl) ?_
  refine ops_slc 4 rfl reads_row (fun hs9 hs9o => ?_)
  refine ot rfl rfl (t_store 2 Try.sizeOf57 rfl rfl rfl (by rw [hs9]; rfl) (by simp [Value.cells, boxP]) (by rw [hs9]; exact allL_cons hs9o (allL_nil))) ?_
  rintro _ _ ⟨rfl, rfl⟩
  refine ops_turn (retell 2 (g := box b1 [.int .i64 f_0.Base, .int .i64 f_0.Done, .int .i64 f_0.Serial, .bool f_0.Stopped, f_0_Stagesv, v8]) rfl (by rw [hs9]; rfl)) ?_
  refine ops_nil ?_
  refine goes_code ?_
  refine run_seq ?_
  refine run_seq ?_
  refine run_weak [(1, .func (.func 58) #[] #[]), (2, boxP b1 0), (4, boxP b2 0)] [0, 2, 3, 4] [nro f_0_Stagesv NC_L_int_35 f_0.Stages, box b1 [.int .i64 f_0.Base, .int .i64 f_0.Done, .int .i64 f_0.Serial, .bool f_0.Stopped, f_0_Stagesv, v8], box b2 [.int .i64 0, .int .i64 0, .int .i64 0, .bool false, .slice none 0 0, .slice none 0 0], row v8 4 (r6.map S_api_Order.enc)] (qv3 rfl rfl rfl) (by decide) rfl ?_
  refine run_region' ?_
  refine oy rfl rfl (y_move rfl) ?_
  obtain ⟨r10, hr11, h⟩ := obind_some h
  refine ot rfl rfl (t_callx (vs := [boxP b1 0]) (cs := []) [(0, 0), (3, 2), (1, 2)] rfl Try.call58 rfl (topo_Retreat_1_58_ok n (S_api_Fleet.mk f_0.Base f_0.Done f_0.Serial f_0.Stopped f_0.Stages r6) b1 f_0_Stagesv v8 hr11) (showsX_view 0 rfl views_nro (showsX_lend 3 rfl (showsX_lend 1 rfl showsX_nil))) rfl (.inl rfl)) ?_
  rintro _ _ ⟨_, ⟨v12, v13, rfl, rfl⟩, rfl⟩
  refine oy rfl rfl (y_assign rfl) ?_
  refine ops_nil ?_
  refine goes_code ?_
  refine run_seq ?_
  refine run_region' ?_
  refine oy rfl rfl (y_move rfl) ?_
  refine oy rfl rfl (y_neq rfl rfl) ?_
  refine ops_nil ?_
  refine goes_code ?_
  refine run_cond (decide (r10.1 ≠ 0)) rfl (fun hc14 => ?_) (fun hc14 => ?_)
  ·replace h := cond_t h hc14
   refine run_seq ?_
   refine run_region' ?_
   refine oy rfl rfl (y_build_struct (cells := #[.int .i64 0, .int .i64 0, .int .i64 0, .bool false, .slice none 0 0, .slice none 0 0]) [] [] Try.zeroValue59 Try.runUnderlying59 (fs_cons Try.sizeOf3 (fs_cons Try.sizeOf3 (fs_cons Try.sizeOf3 (fs_cons Try.sizeOf4 (fs_cons Try.sizeOf56 (fs_cons Try.sizeOf57 fs_nil)))))) rfl rfl rfl) ?_
   refine oy rfl rfl (y_move rfl) ?_
   refine ot rfl rfl (t_store 2 Try.sizeOf59 rfl rfl rfl rfl (by simp [Value.cells, boxP]) (by simp [Value.cells, Value.oneCell', boxP])) ?_
   rintro _ _ ⟨rfl, rfl⟩
   refine ops_turn (retell 2 (g := box b2 [.int .i64 0, .int .i64 0, .int .i64 0, .bool false, .slice none 0 0, .slice none 0 0]) rfl rfl) ?_
   refine oy rfl rfl (y_assign rfl) ?_
   refine ops_nil ?_
   refine goes_code ?_
   refine run_ret ?_
   refine fin_turn (nilroN NC_L_int_35) ?_
   refine fin_turn (nilrow 4) ?_
   refine fin_turn (retell 8 (g := row (.slice none 0 0) 4 (([] : List S_api_Order).map S_api_Order.enc)) rfl rfl) ?_
   obtain rfl := some_eq h
   refine fin_res [.cell 4 59, .tmp 5] [.agg #[.int .i64 0, .int .i64 0, .int .i64 0, .bool false, (.slice none 0 0), (.slice none 0 0)], .int .i64 r10.1] [7, 8] [nro (.slice none 0 0) NC_L_int_35 ([] : List (List Int)), row (.slice none 0 0) 4 (([] : List S_api_Order).map S_api_Order.enc)] Try.results52 rfl (rescons (res_box 2 Try.isAgg59 Try.sizeOf59 rfl rfl rfl) (rescons (res_tmp rfl) resnil)) (by decide) rfl ?_
   exact ⟨_, _, rfl, rfl⟩
  ·replace h := cond_f h hc14
   refine run_skip ?_
   refine goes_code ?_
   refine run_seq ?_
   refine run_region' ?_
   refine oy rfl rfl (y_load_boxagg (c := [.int .i64 r10.2.Base, .int .i64 r10.2.Done, .int .i64 r10.2.Serial, .bool r10.2.Stopped, v12, v13]) 6 Try.isAgg59 Try.sizeOf59 rfl rfl rfl) ?_
   refine ops_slcN 4 rfl readsN_ro (fun hs15 hs15o => ?_)
   refine ops_slc 5 rfl reads_row (fun hs16 hs16o => ?_)
   refine ot rfl rfl (t_store 2 Try.sizeOf59 rfl rfl rfl rfl (by simp [Value.cells, boxP]) (allL_cons rfl (allL_cons rfl (allL_cons rfl (allL_cons rfl (allL_cons hs15o (allL_cons hs16o (allL_nil)))))))) ?_
   rintro _ _ ⟨rfl, rfl⟩
   refine ops_turn (retell 2 (g := box b2 [.int .i64 r10.2.Base, .int .i64 r10.2.Done, .int .i64 r10.2.Serial, .bool r10.2.Stopped, v12, v13]) rfl rfl) ?_
   refine oy rfl rfl (y_assign rfl) ?_
   refine ops_nil ?_
   refine goes_code ?_
   refine run_ret ?_
   obtain rfl := some_eq h
   refine fin_res [.cell 4 59, .tmp 5] [.agg #[.int .i64 r10.2.Base, .int .i64 r10.2.Done, .int .i64 r10.2.Serial, .bool r10.2.Stopped, v12, v13], .int .i64 0] [4, 5] [nro v12 NC_L_int_35 r10.2.Stages, row v13 4 (r10.2.Orders.map S_api_Order.enc)] Try.results52 rfl (rescons (res_box 2 Try.isAgg59 Try.sizeOf59 rfl rfl rfl) (rescons (res_tmp rfl) resnil)) (by decide) rfl ?_
   exact ⟨_, _, rfl, rfl⟩

def topo_Retreat (n : Nat) (f_0 : S_api_Fleet) : Option (S_api_Fleet × Int) :=
 obind (topo_change_v4 n f_0) fun r3 =>
 some (r3.1, r3.2)
theorem topo_Retreat_ok (n : Nat) (f_0 : S_api_Fleet) (f_0_Stagesv : Value) (f_0_Ordersv : Value) {r : S_api_Fleet × Int} (h : topo_Retreat n f_0 = some r) :
  Meets Try.prog 29 [.agg #[.int .i64 f_0.Base, .int .i64 f_0.Done, .int .i64 f_0.Serial, .bool f_0.Stopped, f_0_Stagesv, f_0_Ordersv]] [nro f_0_Stagesv NC_L_int_35 f_0.Stages, ro f_0_Ordersv 4 (f_0.Orders.map S_api_Order.enc)] (fun v G => ∃ v0 v1, v = .tuple #[.agg #[.int .i64 r.1.Base, .int .i64 r.1.Done, .int .i64 r.1.Serial, .bool r.1.Stopped, v0, v1], .int .i64 r.2] ∧ G = [nro v0 NC_L_int_35 r.1.Stages, row v1 4 (r.1.Orders.map S_api_Order.enc)]) := by
 refine fn_of_run Try.func29 rfl Try.ntmps29 rfl (fun w0 o0 => ?_)
 refine run_seq ?_
 refine run_region' ?_
 refine ot rfl rfl (t_box rfl) ?_
 rintro _ _ ⟨b1, rfl, rfl⟩
 refine ot rfl rfl (t_alloc Try.zeroValue59) ?_
 rintro _ _ ⟨b2, rfl, rfl⟩
 refine oy rfl rfl (y_assign rfl) ?_
 refine ops_nil ?_
 refine goes_code ?_
 refine run_seq ?_
 refine run_region' ?_
 refine oy rfl rfl (y_load_boxagg (c := [.int .i64 f_0.Base, .int .i64 f_0.Done, .int .i64 f_0.Serial, .bool f_0.Stopped, f_0_Stagesv, f_0_Ordersv]) 2 Try.isAgg59 Try.sizeOf59 rfl rfl rfl) ?_
 obtain ⟨r3, hr4, h⟩ := obind_some h
 refine ot rfl rfl (t_callx (vs := [.agg #[.int .i64 f_0.Base, .int .i64 f_0.Done, .int .i64 f_0.Serial, .bool f_0.Stopped, f_0_Stagesv, f_0_Ordersv], .func (.func 58) #[] #[]]) (cs := []) [(0, 0), (1, 0)] rfl Try.call52 rfl (topo_change_v4_ok n f_0 f_0_Stagesv f_0_Ordersv hr4) (showsX_view 0 rfl views_nro (showsX_view 1 rfl views_ro showsX_nil)) rfl (.inl rfl)) ?_
 rintro _ _ ⟨_, ⟨v5, v6, rfl, rfl⟩, rfl⟩
 refine oy rfl rfl (y_extract rfl rfl) ?_
 refine oy rfl rfl (y_extract rfl rfl) ?_
 refine ops_slcN 4 rfl readsN_ro (fun hs7 hs7o => ?_)
 refine ops_slc 5 rfl reads_row (fun hs8 hs8o => ?_)
 refine ot rfl rfl (t_store 3 Try.sizeOf59 rfl rfl rfl rfl (by simp [Value.cells, boxP]) (allL_cons rfl (allL_cons rfl (allL_cons rfl (allL_cons rfl (allL_cons hs7o (allL_cons hs8o (allL_nil)))))))) ?_
 rintro _ _ ⟨rfl, rfl⟩
 refine ops_turn (retell 3 (g := box b2 [.int .i64 r3.1.Base, .int .i64 r3.1.Done, .int .i64 r3.1.Serial, .bool r3.1.Stopped, v5, v6]) rfl rfl) ?_
 refine oy rfl rfl (y_assign rfl) ?_
 refine ops_nil ?_
 refine goes_code ?_
 refine run_ret ?_
 obtain rfl := some_eq h
 refine fin_res [.cell 2 59, .tmp 3] [.agg #[.int .i64 r3.1.Base, .int .i64 r3.1.Done, .int .i64 r3.1.Serial, .bool r3.1.Stopped, v5, v6], .int .i64 r3.2] [4, 5] [nro v5 NC_L_int_35 r3.1.Stages, row v6 4 (r3.1.Orders.map S_api_Order.enc)] Try.results29 rfl (rescons (res_box 3 Try.isAgg59 Try.sizeOf59 rfl rfl rfl) (rescons (res_tmp rfl) resnil)) (by decide) rfl ?_
 exact ⟨_, _, rfl, rfl⟩

def topo_Apply (n_0 : S_api_Node) (order_1 : S_api_Node) : Option (S_api_Node) :=
 cond (decide (order_1.Site ≠ n_0.Site) || decide (order_1.Serial ≤ n_0.Serial))
  (some n_0)
  (some order_1)
theorem topo_Apply_ok (n_0 : S_api_Node) (order_1 : S_api_Node)  {r : S_api_Node} (h : topo_Apply n_0 order_1 = some r) :
  Meets Try.prog 26 [.agg #[.int .i64 n_0.Site, .int .i64 n_0.Version, .int .i64 n_0.Serial], .agg #[.int .i64 order_1.Site, .int .i64 order_1.Version, .int .i64 order_1.Serial]] [] (fun v G => v = .agg #[.int .i64 r.Site, .int .i64 r.Version, .int .i64 r.Serial] ∧ G = []) := by
 refine fn_of_run Try.func26 rfl Try.ntmps26 rfl (fun w0 o0 => ?_)
 refine run_seq ?_
 refine run_region' ?_
 refine ot rfl rfl (t_box rfl) ?_
 rintro _ _ ⟨b1, rfl, rfl⟩
 refine ot rfl rfl (t_box rfl) ?_
 rintro _ _ ⟨b2, rfl, rfl⟩
 refine ot rfl rfl (t_alloc Try.zeroValue61) ?_
 rintro _ _ ⟨b3, rfl, rfl⟩
 refine ops_nil ?_
 refine goes_code ?_
 refine run_seq ?_
 refine run_seq ?_
 refine run_region' ?_
 refine oy rfl rfl (y_fieldAddr_box (sz := 0) Try.runUnderlying61 rfl Try.sizeOf3 rfl) ?_
 refine oy rfl rfl (y_load_box 1 Try.isAgg3 rfl rfl rfl) ?_
 refine oy rfl rfl (y_fieldAddr_box (sz := 0) Try.runUnderlying61 rfl Try.sizeOf3 rfl) ?_
 refine oy rfl rfl (y_load_box 0 Try.isAgg3 rfl rfl rfl) ?_
 refine oy rfl rfl (y_neq rfl rfl) ?_
 refine oy rfl rfl (y_move rfl) ?_
 refine ops_cut 6 (Bool) (fun σ => [(2, boxP b1 0), (3, boxP b2 0), (4, boxP b3 0), (16, .bool σ)]) (fun σ => [box b1 [.int .i64 n_0.Site, .int .i64 n_0.Version, .int .i64 n_0.Serial], box b2 [.int .i64 order_1.Site, .int .i64 order_1.Version, .int .i64 order_1.Serial], box b3 [.int .i64 0, .int .i64 0, .int .i64 0]]) (fun σ => σ = (decide (order_1.Site ≠ n_0.Site) || decide (order_1.Serial ≤ n_0.Serial))) (fun L4 hL5 => ?_) ?_
 ·refine ops_split 10 (decide (order_1.Site ≠ n_0.Site)) rfl (fun hg6 => ?_) (fun hg6 => ?_)
  ·skip
   refine ops_no 5 false 10 rfl rfl rfl rfl rfl ?_
   refine ops_no 5 false 10 rfl rfl rfl rfl rfl ?_
   refine ops_no 5 false 10 rfl rfl rfl rfl rfl ?_
   refine ops_no 5 false 10 rfl rfl rfl rfl rfl ?_
   refine ops_no 5 false 10 rfl rfl rfl rfl rfl ?_
   refine oy rfl rfl (y_pick (b := true) rfl rfl) ?_
   refine ops_nil ?_
   exact goes_cut hL5 true [0, 1, 2] (qv4 rfl rfl rfl rfl) (by decide) rfl (by rw [hg6]; simp)
  ·skip
   refine ops_y (wg 5 false 10 rfl rfl rfl rfl) rfl (y_fieldAddr_box (sz := 0) Try.runUnderlying61 rfl Try.sizeOf3 rfl) ?_
   refine ops_y (wg 5 false 10 rfl rfl rfl rfl) rfl (y_load_box 1 Try.isAgg3 rfl rfl rfl) ?_
   refine ops_y (wg 5 false 10 rfl rfl rfl rfl) rfl (y_fieldAddr_box (sz := 0) Try.runUnderlying61 rfl Try.sizeOf3 rfl) ?_
   refine ops_y (wg 5 false 10 rfl rfl rfl rfl) rfl (y_load_box 0 Try.isAgg3 rfl rfl rfl) ?_
   refine ops_y (wg 5 false 10 rfl rfl rfl rfl) rfl (y_leq rfl rfl) ?_
   refine oy rfl rfl (y_pick (b := false) rfl rfl) ?_
   refine ops_nil ?_
   exact goes_cut hL5 (decide (order_1.Serial ≤ n_0.Serial)) [0, 1, 2] (qv4 rfl rfl rfl rfl) (by decide) rfl (by rw [hg6]; simp)
 rintro _ rfl
 refine ops_nil ?_
 refine goes_code ?_
 refine run_cond (decide (order_1.Site ≠ n_0.Site) || decide (order_1.Serial ≤ n_0.Serial)) rfl (fun hc7 => ?_) (fun hc7 => ?_)
 ·replace h := cond_t h hc7
  refine run_seq ?_
  refine run_region' ?_
  refine oy rfl rfl (y_load_boxagg (c := [.int .i64 n_0.Site, .int .i64 n_0.Version, .int .i64 n_0.Serial]) 0 Try.isAgg61 Try.sizeOf61 rfl rfl rfl) ?_
  refine ot rfl rfl (t_store 2 Try.sizeOf61 rfl rfl rfl rfl (by simp [Value.cells, boxP]) (by simp [Value.cells, Value.oneCell', boxP])) ?_
  rintro _ _ ⟨rfl, rfl⟩
  refine ops_turn (retell 2 (g := box b3 [.int .i64 n_0.Site, .int .i64 n_0.Version, .int .i64 n_0.Serial]) rfl rfl) ?_
  refine ops_nil ?_
  refine goes_code ?_
  refine run_ret ?_
  obtain rfl := some_eq h
  refine fin_res [.cell 4 61] [.agg #[.int .i64 n_0.Site, .int .i64 n_0.Version, .int .i64 n_0.Serial]] [] [] Try.results26 rfl (rescons (res_box 2 Try.isAgg61 Try.sizeOf61 rfl rfl rfl) resnil) (by decide) rfl ?_
  exact ⟨rfl, rfl⟩
 ·replace h := cond_f h hc7
  refine run_skip ?_
  refine goes_code ?_
  refine run_seq ?_
  refine run_region' ?_
  refine oy rfl rfl (y_load_boxagg (c := [.int .i64 order_1.Site, .int .i64 order_1.Version, .int .i64 order_1.Serial]) 1 Try.isAgg61 Try.sizeOf61 rfl rfl rfl) ?_
  refine ot rfl rfl (t_store 2 Try.sizeOf61 rfl rfl rfl rfl (by simp [Value.cells, boxP]) (by simp [Value.cells, Value.oneCell', boxP])) ?_
  rintro _ _ ⟨rfl, rfl⟩
  refine ops_turn (retell 2 (g := box b3 [.int .i64 order_1.Site, .int .i64 order_1.Version, .int .i64 order_1.Serial]) rfl rfl) ?_
  refine ops_nil ?_
  refine goes_code ?_
  refine run_ret ?_
  obtain rfl := some_eq h
  refine fin_res [.cell 4 61] [.agg #[.int .i64 order_1.Site, .int .i64 order_1.Version, .int .i64 order_1.Serial]] [] [] Try.results26 rfl (rescons (res_box 2 Try.isAgg61 Try.sizeOf61 rfl rfl rfl) resnil) (by decide) rfl ?_
  exact ⟨rfl, rfl⟩

end Go.Proofs.Ytigiikkenamneaa
