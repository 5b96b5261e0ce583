/-
  Functions that the law TopoRolloutsKeepNear needs, lifted.
-/
import Derived.Test.YtigiikkenamneaaBG5a
namespace Go.Proofs.Ytigiikkenamneaa
open Go.Abs
set_option linter.unusedVariables false
set_option linter.unusedSimpArgs false
set_option maxRecDepth 20000
set_option maxHeartbeats 4000000

def law42_act (n : Nat) (w_0 : S_law42_World) (a_1 : S_law42_Act) : Option (S_law42_World) :=
 bindJ (S := Int × Int × Int × Bool × (List (List Int)) × (List S_api_Order) × Int × Int × Int × Int × Int × Int × Int × Int × Int × Int × Int × Int × (List S_api_Node) × (List S_api_Node) × Bool)
  (cond (decide ((a_1.Kind.tmod 9) = 0))
   (obind (law42_stages n (IntKind.i64.wrap a_1.N)) fun r34 =>
   need (0 < (r34 : List (List Int)).length) (
   obind (topo_Begin n w_0.F r34) fun r38 =>
   obind (law42_change w_0 r38.1 r38.2) fun r54 =>
   some (.stop r54)))
   (cond (decide ((a_1.Kind.tmod 9) = 1))
    (obind (topo_Forward n w_0.F) fun r81 =>
    obind (law42_change w_0 r81.1 r81.2) fun r88 =>
    some (.stop r88))
    (cond (decide ((a_1.Kind.tmod 9) = 2))
     (obind (topo_Retreat n w_0.F) fun r99 =>
     obind (law42_change w_0 r99.1 r99.2) fun r106 =>
     some (.stop r106))
     (cond (decide ((a_1.Kind.tmod 9) = 3))
      (obind (topo_Stop n w_0.F (decide (((IntKind.i64.wrap a_1.N).tmod 4) = 0))) fun r117 =>
      obind (law42_change w_0 r117.1 r117.2) fun r124 =>
      some (.stop r124))
      (cond (decide ((a_1.Kind.tmod 9) = 4))
       (obind (topo_End n w_0.F) fun r135 =>
       obind (law42_change w_0 r135.1 r135.2) fun r142 =>
       some (.stop r142))
       (cond (decide ((a_1.Kind.tmod 9) = 5))
        (obind (topo_OrderOf n w_0.F ((IntKind.i64.wrap a_1.N).tmod 4)) fun r153 =>
        need (([] : List S_api_Node).length + w_0.Sent.length ≤ 4294967296) (
        need ((([] : List S_api_Node) ++ w_0.Sent).length + ([r153.1] : List S_api_Node).length ≤ 4294967296) (
        some (.go (w_0.F.Base, w_0.F.Done, w_0.F.Serial, w_0.F.Stopped, w_0.F.Stages, w_0.F.Orders, w_0.Nodes.a0_.Site, w_0.Nodes.a0_.Version, w_0.Nodes.a0_.Serial, w_0.Nodes.a1_.Site, w_0.Nodes.a1_.Version, w_0.Nodes.a1_.Serial, w_0.Nodes.a2_.Site, w_0.Nodes.a2_.Version, w_0.Nodes.a2_.Serial, w_0.Nodes.a3_.Site, w_0.Nodes.a3_.Version, w_0.Nodes.a3_.Serial, ((([] : List S_api_Node) ++ w_0.Sent) ++ ([r153.1] : List S_api_Node)), w_0.Told, (w_0.Bad || decide (r153.2 ≠ 0)))))))
        (cond (decide ((a_1.Kind.tmod 9) = 6))
         (cond (decide (0 < (w_0.Sent.length : Int)))
          (need ((w_0.Sent.length : Int) ≠ 0) (
          idx w_0.Sent ((IntKind.i64.wrap a_1.N).tmod (w_0.Sent.length : Int)) fun x202 =>
          need (0 ≤ x202.Site ∧ x202.Site < 4) (
          obind (some (S_4_api_Node.get w_0.Nodes x202.Site)) fun x205 =>
          obind (topo_Apply x205 x202) fun r206 =>
          need (0 ≤ x202.Site ∧ x202.Site < 4) (
          obind (some (S_4_api_Node.put w_0.Nodes x202.Site r206)) fun x209 =>
          some (.go (w_0.F.Base, w_0.F.Done, w_0.F.Serial, w_0.F.Stopped, w_0.F.Stages, w_0.F.Orders, x209.a0_.Site, x209.a0_.Version, x209.a0_.Serial, x209.a1_.Site, x209.a1_.Version, x209.a1_.Serial, x209.a2_.Site, x209.a2_.Version, x209.a2_.Serial, x209.a3_.Site, x209.a3_.Version, x209.a3_.Serial, w_0.Sent, w_0.Told, w_0.Bad))))))
          (some (.go (w_0.F.Base, w_0.F.Done, w_0.F.Serial, w_0.F.Stopped, w_0.F.Stages, w_0.F.Orders, w_0.Nodes.a0_.Site, w_0.Nodes.a0_.Version, w_0.Nodes.a0_.Serial, w_0.Nodes.a1_.Site, w_0.Nodes.a1_.Version, w_0.Nodes.a1_.Serial, w_0.Nodes.a2_.Site, w_0.Nodes.a2_.Version, w_0.Nodes.a2_.Serial, w_0.Nodes.a3_.Site, w_0.Nodes.a3_.Version, w_0.Nodes.a3_.Serial, w_0.Sent, w_0.Told, w_0.Bad))))
         (cond (decide ((a_1.Kind.tmod 9) = 7))
          (need (([] : List S_api_Node).length + w_0.Told.length ≤ 4294967296) (
          need (0 ≤ ((IntKind.i64.wrap a_1.N).tmod 4) ∧ ((IntKind.i64.wrap a_1.N).tmod 4) < 4) (
          obind (some (S_4_api_Node.get w_0.Nodes ((IntKind.i64.wrap a_1.N).tmod 4))) fun x215 =>
          need ((([] : List S_api_Node) ++ w_0.Told).length + ([x215] : List S_api_Node).length ≤ 4294967296) (
          some (.go (w_0.F.Base, w_0.F.Done, w_0.F.Serial, w_0.F.Stopped, w_0.F.Stages, w_0.F.Orders, w_0.Nodes.a0_.Site, w_0.Nodes.a0_.Version, w_0.Nodes.a0_.Serial, w_0.Nodes.a1_.Site, w_0.Nodes.a1_.Version, w_0.Nodes.a1_.Serial, w_0.Nodes.a2_.Site, w_0.Nodes.a2_.Version, w_0.Nodes.a2_.Serial, w_0.Nodes.a3_.Site, w_0.Nodes.a3_.Version, w_0.Nodes.a3_.Serial, w_0.Sent, ((([] : List S_api_Node) ++ w_0.Told) ++ ([x215] : List S_api_Node)), w_0.Bad))))))
          (cond (decide ((a_1.Kind.tmod 9) = 8))
           (cond (decide (0 < (w_0.Told.length : Int)))
            (need ((w_0.Told.length : Int) ≠ 0) (
            idx w_0.Told ((IntKind.i64.wrap a_1.N).tmod (w_0.Told.length : Int)) fun x272 =>
            obind (topo_Confirm n w_0.F x272.Site x272.Serial) fun r274 =>
            some (.go (r274.1.Base, r274.1.Done, r274.1.Serial, r274.1.Stopped, r274.1.Stages, r274.1.Orders, w_0.Nodes.a0_.Site, w_0.Nodes.a0_.Version, w_0.Nodes.a0_.Serial, w_0.Nodes.a1_.Site, w_0.Nodes.a1_.Version, w_0.Nodes.a1_.Serial, w_0.Nodes.a2_.Site, w_0.Nodes.a2_.Version, w_0.Nodes.a2_.Serial, w_0.Nodes.a3_.Site, w_0.Nodes.a3_.Version, w_0.Nodes.a3_.Serial, w_0.Sent, w_0.Told, (w_0.Bad || decide (r274.2 ≠ 0))))))
            (some (.go (w_0.F.Base, w_0.F.Done, w_0.F.Serial, w_0.F.Stopped, w_0.F.Stages, w_0.F.Orders, w_0.Nodes.a0_.Site, w_0.Nodes.a0_.Version, w_0.Nodes.a0_.Serial, w_0.Nodes.a1_.Site, w_0.Nodes.a1_.Version, w_0.Nodes.a1_.Serial, w_0.Nodes.a2_.Site, w_0.Nodes.a2_.Version, w_0.Nodes.a2_.Serial, w_0.Nodes.a3_.Site, w_0.Nodes.a3_.Version, w_0.Nodes.a3_.Serial, w_0.Sent, w_0.Told, w_0.Bad))))
           (some (.go (w_0.F.Base, w_0.F.Done, w_0.F.Serial, w_0.F.Stopped, w_0.F.Stages, w_0.F.Orders, w_0.Nodes.a0_.Site, w_0.Nodes.a0_.Version, w_0.Nodes.a0_.Serial, w_0.Nodes.a1_.Site, w_0.Nodes.a1_.Version, w_0.Nodes.a1_.Serial, w_0.Nodes.a2_.Site, w_0.Nodes.a2_.Version, w_0.Nodes.a2_.Serial, w_0.Nodes.a3_.Site, w_0.Nodes.a3_.Version, w_0.Nodes.a3_.Serial, w_0.Sent, w_0.Told, w_0.Bad))))))))))))
 (fun (x_4, x_5, x_6, x_7, x_8, x_9, x_10, x_11, x_12, x_13, x_14, x_15, x_16, x_17, x_18, x_19, x_20, x_21, x_22, x_23, x_24) =>
  some (S_law42_World.mk (S_api_Fleet.mk x_4 x_5 x_6 x_7 x_8 x_9) (S_4_api_Node.mk (S_api_Node.mk x_10 x_11 x_12) (S_api_Node.mk x_13 x_14 x_15) (S_api_Node.mk x_16 x_17 x_18) (S_api_Node.mk x_19 x_20 x_21)) x_22 x_23 x_24))
theorem law42_act_ok (n : Nat) (w_0 : S_law42_World) (a_1 : S_law42_Act) (w_0_F_Stagesv : Value) (w_0_F_Ordersv : Value) (w_0_Sentv : Value) (w_0_Toldv : Value) {r : S_law42_World} (h : law42_act n w_0 a_1 = some r) :
  Meets Try.prog 22 [.agg #[.int .i64 w_0.F.Base, .int .i64 w_0.F.Done, .int .i64 w_0.F.Serial, .bool w_0.F.Stopped, w_0_F_Stagesv, w_0_F_Ordersv, .int .i64 w_0.Nodes.a0_.Site, .int .i64 w_0.Nodes.a0_.Version, .int .i64 w_0.Nodes.a0_.Serial, .int .i64 w_0.Nodes.a1_.Site, .int .i64 w_0.Nodes.a1_.Version, .int .i64 w_0.Nodes.a1_.Serial, .int .i64 w_0.Nodes.a2_.Site, .int .i64 w_0.Nodes.a2_.Version, .int .i64 w_0.Nodes.a2_.Serial, .int .i64 w_0.Nodes.a3_.Site, .int .i64 w_0.Nodes.a3_.Version, .int .i64 w_0.Nodes.a3_.Serial, w_0_Sentv, w_0_Toldv, .bool w_0.Bad], .agg #[.int .u8 a_1.Kind, .int .u8 a_1.N]] [nro w_0_F_Stagesv NC_L_int_35 w_0.F.Stages, ro w_0_F_Ordersv 4 (w_0.F.Orders.map S_api_Order.enc), ro w_0_Sentv 3 (w_0.Sent.map S_api_Node.enc), ro w_0_Toldv 3 (w_0.Told.map S_api_Node.enc)] (fun v G => ∃ v0 v1 v2 v3, v = .agg #[.int .i64 r.F.Base, .int .i64 r.F.Done, .int .i64 r.F.Serial, .bool r.F.Stopped, v0, v1, .int .i64 r.Nodes.a0_.Site, .int .i64 r.Nodes.a0_.Version, .int .i64 r.Nodes.a0_.Serial, .int .i64 r.Nodes.a1_.Site, .int .i64 r.Nodes.a1_.Version, .int .i64 r.Nodes.a1_.Serial, .int .i64 r.Nodes.a2_.Site, .int .i64 r.Nodes.a2_.Version, .int .i64 r.Nodes.a2_.Serial, .int .i64 r.Nodes.a3_.Site, .int .i64 r.Nodes.a3_.Version, .int .i64 r.Nodes.a3_.Serial, v2, v3, .bool r.Bad] ∧ G = [nro v0 NC_L_int_35 r.F.Stages, ro v1 4 (r.F.Orders.map S_api_Order.enc), ro v2 3 (r.Sent.map S_api_Node.enc), ro v3 3 (r.Told.map S_api_Node.enc)]) := by
 refine fn_of_run Try.func22 rfl Try.ntmps22 rfl (fun w0 o0 => ?_)
 refine run_seq ?_
 refine run_region' ?_
 refine ot rfl rfl (t_box rfl) ?_
 rintro _ _ ⟨b1, rfl, rfl⟩
 refine ot rfl rfl (t_box rfl) ?_
 rintro _ _ ⟨b2, rfl, rfl⟩
 refine ot rfl rfl (t_alloc Try.zeroValue65) ?_
 rintro _ _ ⟨b3, rfl, rfl⟩
 refine ops_nil ?_
 refine goes_code ?_
 refine run_seq ?_
 refine run_region' ?_
 refine oy rfl rfl (y_fieldAddr_box (sz := 0) Try.runUnderlying69 rfl Try.sizeOf5 rfl) ?_
 refine oy rfl rfl (y_load_box 5 Try.isAgg5 rfl rfl rfl) ?_
 refine oy rfl rfl (y_conv Try.runUnderlying5 Try.runUnderlying3 rfl) ?_
 refine oy rfl rfl (y_assign rfl) ?_
 refine ops_nil ?_
 refine goes_code ?_
 obtain ⟨o29, h, ho30⟩ := bindJ_some h
 refine run_cut ((Int × Int × Int × Bool × (List (List Int)) × (List S_api_Order) × Int × Int × Int × Int × Int × Int × Int × Int × Int × Int × Int × Int × (List S_api_Node) × (List S_api_Node) × Bool) × (Value × Value × Value × Value)) (fun σ => [(2, boxP b1 0), (4, boxP b3 0)]) (fun σ => [box b1 [.int .i64 σ.1.1, .int .i64 σ.1.2.1, .int .i64 σ.1.2.2.1, .bool σ.1.2.2.2.1, σ.2.1, σ.2.2.1, .int .i64 σ.1.2.2.2.2.2.2.1, .int .i64 σ.1.2.2.2.2.2.2.2.1, .int .i64 σ.1.2.2.2.2.2.2.2.2.1, .int .i64 σ.1.2.2.2.2.2.2.2.2.2.1, .int .i64 σ.1.2.2.2.2.2.2.2.2.2.2.1, .int .i64 σ.1.2.2.2.2.2.2.2.2.2.2.2.1, .int .i64 σ.1.2.2.2.2.2.2.2.2.2.2.2.2.1, .int .i64 σ.1.2.2.2.2.2.2.2.2.2.2.2.2.2.1, .int .i64 σ.1.2.2.2.2.2.2.2.2.2.2.2.2.2.2.1, .int .i64 σ.1.2.2.2.2.2.2.2.2.2.2.2.2.2.2.2.1, .int .i64 σ.1.2.2.2.2.2.2.2.2.2.2.2.2.2.2.2.2.1, .int .i64 σ.1.2.2.2.2.2.2.2.2.2.2.2.2.2.2.2.2.2.1, σ.2.2.2.1, σ.2.2.2.2, .bool σ.1.2.2.2.2.2.2.2.2.2.2.2.2.2.2.2.2.2.2.2.2], nro σ.2.1 NC_L_int_35 σ.1.2.2.2.2.1, ro σ.2.2.1 4 (σ.1.2.2.2.2.2.1.map S_api_Order.enc), ro σ.2.2.2.1 3 (σ.1.2.2.2.2.2.2.2.2.2.2.2.2.2.2.2.2.2.2.1.map S_api_Node.enc), ro σ.2.2.2.2 3 (σ.1.2.2.2.2.2.2.2.2.2.2.2.2.2.2.2.2.2.2.2.1.map S_api_Node.enc), box b3 [.int .i64 0, .int .i64 0, .int .i64 0, .bool false, .slice none 0 0, .slice none 0 0, .int .i64 0, .int .i64 0, .int .i64 0, .int .i64 0, .int .i64 0, .int .i64 0, .int .i64 0, .int .i64 0, .int .i64 0, .int .i64 0, .int .i64 0, .int .i64 0, .slice none 0 0, .slice none 0 0, .bool false]]) (fun σ => o29 = .go σ.1) (fun L32 hL31 => ?_) ?_
 ·
  refine run_seq ?_
  refine run_region' ?_
  refine oy rfl rfl (y_fieldAddr_box (sz := 0) Try.runUnderlying69 rfl Try.sizeOf5 rfl) ?_
  refine oy rfl rfl (y_load_box 5 Try.isAgg5 rfl rfl rfl) ?_
  refine oy rfl rfl (y_rem rfl rfl (by decide)) ?_
  refine ops_nil ?_
  refine goes_code ?_
  refine run_block ?_
  refine run_seq ?_
  refine run_weak [(2, boxP b1 0), (4, boxP b3 0), (5, .int .i64 (IntKind.i64.wrap a_1.N)), (27, .int .u8 (a_1.Kind.tmod 9))] [0, 1, 2, 3, 4, 6] [nro w_0_F_Stagesv NC_L_int_35 w_0.F.Stages, ro w_0_F_Ordersv 4 (w_0.F.Orders.map S_api_Order.enc), ro w_0_Sentv 3 (w_0.Sent.map S_api_Node.enc), ro w_0_Toldv 3 (w_0.Told.map S_api_Node.enc), box b1 [.int .i64 w_0.F.Base, .int .i64 w_0.F.Done, .int .i64 w_0.F.Serial, .bool w_0.F.Stopped, w_0_F_Stagesv, w_0_F_Ordersv, .int .i64 w_0.Nodes.a0_.Site, .int .i64 w_0.Nodes.a0_.Version, .int .i64 w_0.Nodes.a0_.Serial, .int .i64 w_0.Nodes.a1_.Site, .int .i64 w_0.Nodes.a1_.Version, .int .i64 w_0.Nodes.a1_.Serial, .int .i64 w_0.Nodes.a2_.Site, .int .i64 w_0.Nodes.a2_.Version, .int .i64 w_0.Nodes.a2_.Serial, .int .i64 w_0.Nodes.a3_.Site, .int .i64 w_0.Nodes.a3_.Version, .int .i64 w_0.Nodes.a3_.Serial, w_0_Sentv, w_0_Toldv, .bool w_0.Bad], box b3 [.int .i64 0, .int .i64 0, .int .i64 0, .bool false, .slice none 0 0, .slice none 0 0, .int .i64 0, .int .i64 0, .int .i64 0, .int .i64 0, .int .i64 0, .int .i64 0, .int .i64 0, .int .i64 0, .int .i64 0, .int .i64 0, .int .i64 0, .int .i64 0, .slice none 0 0, .slice none 0 0, .bool false]] (qv4 rfl rfl rfl rfl) (by decide) rfl ?_
  refine run_region' ?_
  refine oy rfl rfl (y_eql rfl rfl) ?_
  refine oy rfl rfl (y_assign rfl) ?_
  refine ops_nil ?_
  refine goes_code ?_
  refine run_cond (decide ((a_1.Kind.tmod 9) = 0)) rfl (fun hc33 => ?_) (fun hc33 => ?_)
  ·replace h := cond_t h hc33
   refine run_seq ?_
   obtain ⟨r34, hr35, h⟩ := obind_some h
   obtain ⟨hq37, h⟩ := need_some h
   obtain ⟨r38, hr39, h⟩ := obind_some h
   refine run_drawany [nro w_0_F_Stagesv NC_L_int_35 w_0.F.Stages, ro w_0_F_Ordersv 4 (w_0.F.Orders.map S_api_Order.enc), ro w_0_Sentv 3 (w_0.Sent.map S_api_Node.enc), ro w_0_Toldv 3 (w_0.Told.map S_api_Node.enc), box b1 [.int .i64 w_0.F.Base, .int .i64 w_0.F.Done, .int .i64 w_0.F.Serial, .bool w_0.F.Stopped, w_0_F_Stagesv, w_0_F_Ordersv, .int .i64 w_0.Nodes.a0_.Site, .int .i64 w_0.Nodes.a0_.Version, .int .i64 w_0.Nodes.a0_.Serial, .int .i64 w_0.Nodes.a1_.Site, .int .i64 w_0.Nodes.a1_.Version, .int .i64 w_0.Nodes.a1_.Serial, .int .i64 w_0.Nodes.a2_.Site, .int .i64 w_0.Nodes.a2_.Version, .int .i64 w_0.Nodes.a2_.Serial, .int .i64 w_0.Nodes.a3_.Site, .int .i64 w_0.Nodes.a3_.Version, .int .i64 w_0.Nodes.a3_.Serial, w_0_Sentv, w_0_Toldv, .bool w_0.Bad], box b3 [.int .i64 0, .int .i64 0, .int .i64 0, .bool false, .slice none 0 0, .slice none 0 0, .int .i64 0, .int .i64 0, .int .i64 0, .int .i64 0, .int .i64 0, .int .i64 0, .int .i64 0, .int .i64 0, .int .i64 0, .int .i64 0, .int .i64 0, .int .i64 0, .slice none 0 0, .slice none 0 0, .bool false]] (by kernel_rfl) ?_
   refine any_y 0 rfl (by kernel_rfl) (by kernel_rfl) (by kernel_rfl) (ss (ss (ss (ss (ss (ss (sn))))))) (wn rfl) rfl (y_fieldAddr_box (sz := 5) Try.runUnderlying65 rfl Try.sizeOf59 rfl) ?_
   refine any_y 1 rfl (by kernel_rfl) (by kernel_rfl) (by kernel_rfl) (ss (ss (ss (ss (ss (ss (sn))))))) (wn rfl) rfl (y_load_boxagg (c := [.int .i64 w_0.F.Base, .int .i64 w_0.F.Done, .int .i64 w_0.F.Serial, .bool w_0.F.Stopped, w_0_F_Stagesv, w_0_F_Ordersv]) 4 Try.isAgg59 Try.sizeOf59 rfl rfl rfl) ?_
   refine any_y 2 rfl (by kernel_rfl) (by kernel_rfl) (by kernel_rfl) (ss (ss (ss (ss (ss (ss (sn))))))) (wn rfl) rfl (y_move rfl) ?_
   refine any_cut2 #[true, true, true, true, true, true, true, true, true, true, true] 0 (Nat × Value × Value × Value) (fun σ => [(2, boxP b1 0), (4, boxP b3 0), (6, boxP σ.1 0), (7, .int .i64 r38.2)]) (fun σ => [nro w_0_F_Stagesv NC_L_int_35 w_0.F.Stages, ro w_0_F_Ordersv 4 (w_0.F.Orders.map S_api_Order.enc), ro w_0_Sentv 3 (w_0.Sent.map S_api_Node.enc), ro w_0_Toldv 3 (w_0.Told.map S_api_Node.enc), box b1 [.int .i64 w_0.F.Base, .int .i64 w_0.F.Done, .int .i64 w_0.F.Serial, .bool w_0.F.Stopped, w_0_F_Stagesv, w_0_F_Ordersv, .int .i64 w_0.Nodes.a0_.Site, .int .i64 w_0.Nodes.a0_.Version, .int .i64 w_0.Nodes.a0_.Serial, .int .i64 w_0.Nodes.a1_.Site, .int .i64 w_0.Nodes.a1_.Version, .int .i64 w_0.Nodes.a1_.Serial, .int .i64 w_0.Nodes.a2_.Site, .int .i64 w_0.Nodes.a2_.Version, .int .i64 w_0.Nodes.a2_.Serial, .int .i64 w_0.Nodes.a3_.Site, .int .i64 w_0.Nodes.a3_.Version, .int .i64 w_0.Nodes.a3_.Serial, w_0_Sentv, w_0_Toldv, .bool w_0.Bad], box b3 [.int .i64 0, .int .i64 0, .int .i64 0, .bool false, .slice none 0 0, .slice none 0 0, .int .i64 0, .int .i64 0, .int .i64 0, .int .i64 0, .int .i64 0, .int .i64 0, .int .i64 0, .int .i64 0, .int .i64 0, .int .i64 0, .int .i64 0, .int .i64 0, .slice none 0 0, .slice none 0 0, .bool false], nro σ.2.1 NC_L_int_35 r34, nro σ.2.2.1 NC_L_int_35 r38.1.Stages, row σ.2.2.2 4 (r38.1.Orders.map S_api_Order.enc), box σ.1 [.int .i64 r38.1.Base, .int .i64 r38.1.Done, .int .i64 r38.1.Serial, .bool r38.1.Stopped, σ.2.2.1, σ.2.2.2]]) ?_ (fun hK53 => ?_)
   ·rintro ⟨b50, v45, v47, v48⟩
    change AnyL _ _ _ _ _ (VF.of [(2, boxP b1 0), (4, boxP b3 0), (6, boxP b50 0), (7, .int .i64 r38.2)]) [nro w_0_F_Stagesv NC_L_int_35 w_0.F.Stages, ro w_0_F_Ordersv 4 (w_0.F.Orders.map S_api_Order.enc), ro w_0_Sentv 3 (w_0.Sent.map S_api_Node.enc), ro w_0_Toldv 3 (w_0.Told.map S_api_Node.enc), box b1 [.int .i64 w_0.F.Base, .int .i64 w_0.F.Done, .int .i64 w_0.F.Serial, .bool w_0.F.Stopped, w_0_F_Stagesv, w_0_F_Ordersv, .int .i64 w_0.Nodes.a0_.Site, .int .i64 w_0.Nodes.a0_.Version, .int .i64 w_0.Nodes.a0_.Serial, .int .i64 w_0.Nodes.a1_.Site, .int .i64 w_0.Nodes.a1_.Version, .int .i64 w_0.Nodes.a1_.Serial, .int .i64 w_0.Nodes.a2_.Site, .int .i64 w_0.Nodes.a2_.Version, .int .i64 w_0.Nodes.a2_.Serial, .int .i64 w_0.Nodes.a3_.Site, .int .i64 w_0.Nodes.a3_.Version, .int .i64 w_0.Nodes.a3_.Serial, w_0_Sentv, w_0_Toldv, .bool w_0.Bad], box b3 [.int .i64 0, .int .i64 0, .int .i64 0, .bool false, .slice none 0 0, .slice none 0 0, .int .i64 0, .int .i64 0, .int .i64 0, .int .i64 0, .int .i64 0, .int .i64 0, .int .i64 0, .int .i64 0, .int .i64 0, .int .i64 0, .int .i64 0, .int .i64 0, .slice none 0 0, .slice none 0 0, .bool false], nro v45 NC_L_int_35 r34, nro v47 NC_L_int_35 r38.1.Stages, row v48 4 (r38.1.Orders.map S_api_Order.enc), box b50 [.int .i64 r38.1.Base, .int .i64 r38.1.Done, .int .i64 r38.1.Serial, .bool r38.1.Stopped, v47, v48]] _
    refine any_nil (by kernel_rfl) ?_
    refine goes_code ?_
    refine run_seq ?_
    refine run_region' ?_
    refine oy rfl rfl (y_load_boxagg (c := [.int .i64 w_0.F.Base, .int .i64 w_0.F.Done, .int .i64 w_0.F.Serial, .bool w_0.F.Stopped, w_0_F_Stagesv, w_0_F_Ordersv, .int .i64 w_0.Nodes.a0_.Site, .int .i64 w_0.Nodes.a0_.Version, .int .i64 w_0.Nodes.a0_.Serial, .int .i64 w_0.Nodes.a1_.Site, .int .i64 w_0.Nodes.a1_.Version, .int .i64 w_0.Nodes.a1_.Serial, .int .i64 w_0.Nodes.a2_.Site, .int .i64 w_0.Nodes.a2_.Version, .int .i64 w_0.Nodes.a2_.Serial, .int .i64 w_0.Nodes.a3_.Site, .int .i64 w_0.Nodes.a3_.Version, .int .i64 w_0.Nodes.a3_.Serial, w_0_Sentv, w_0_Toldv, .bool w_0.Bad]) 4 Try.isAgg65 Try.sizeOf65 rfl rfl rfl) ?_
    refine oy rfl rfl (y_load_boxagg (c := [.int .i64 r38.1.Base, .int .i64 r38.1.Done, .int .i64 r38.1.Serial, .bool r38.1.Stopped, v47, v48]) 9 Try.isAgg59 Try.sizeOf59 rfl rfl rfl) ?_
    refine oy rfl rfl (y_move rfl) ?_
    refine ops_turn (Go.Abs.freeze 8 rfl) ?_
    obtain ⟨r54, hr55, h⟩ := obind_some h
    refine ot rfl rfl (t_callx (vs := [.agg #[.int .i64 w_0.F.Base, .int .i64 w_0.F.Done, .int .i64 w_0.F.Serial, .bool w_0.F.Stopped, w_0_F_Stagesv, w_0_F_Ordersv, .int .i64 w_0.Nodes.a0_.Site, .int .i64 w_0.Nodes.a0_.Version, .int .i64 w_0.Nodes.a0_.Serial, .int .i64 w_0.Nodes.a1_.Site, .int .i64 w_0.Nodes.a1_.Version, .int .i64 w_0.Nodes.a1_.Serial, .int .i64 w_0.Nodes.a2_.Site, .int .i64 w_0.Nodes.a2_.Version, .int .i64 w_0.Nodes.a2_.Serial, .int .i64 w_0.Nodes.a3_.Site, .int .i64 w_0.Nodes.a3_.Version, .int .i64 w_0.Nodes.a3_.Serial, w_0_Sentv, w_0_Toldv, .bool w_0.Bad], .agg #[.int .i64 r38.1.Base, .int .i64 r38.1.Done, .int .i64 r38.1.Serial, .bool r38.1.Stopped, v47, v48], .int .i64 r38.2]) (cs := []) [(0, 0), (1, 0), (2, 0), (3, 0), (7, 0), (8, 0)] rfl Try.call50 rfl (law42_change_ok w_0 r38.1 r38.2 w_0_F_Stagesv w_0_F_Ordersv w_0_Sentv w_0_Toldv v47 v48 hr55) (showsX_view 0 rfl views_nro (showsX_view 1 rfl views_ro (showsX_view 2 rfl views_ro (showsX_view 3 rfl views_ro (showsX_view 7 rfl views_nro (showsX_view 8 rfl views_ro showsX_nil)))))) rfl (.inl rfl)) ?_
    rintro _ _ ⟨_, ⟨v56, v57, v58, v59, rfl, rfl⟩, rfl⟩
    refine ops_slcN 10 rfl readsN_ro (fun hs60 hs60o => ?_)
    refine ops_slc 11 rfl reads_ro (fun hs61 hs61o => ?_)
    refine ops_slc 12 rfl reads_ro (fun hs62 hs62o => ?_)
    refine ops_slc 13 rfl reads_ro (fun hs63 hs63o => ?_)
    refine ot rfl rfl (t_store 5 Try.sizeOf65 rfl rfl rfl rfl (by simp [Value.cells, boxP]) (allL_cons rfl (allL_cons rfl (allL_cons rfl (allL_cons rfl (allL_cons hs60o (allL_cons hs61o (allL_cons rfl (allL_cons rfl (allL_cons rfl (allL_cons rfl (allL_cons rfl (allL_cons rfl (allL_cons rfl (allL_cons rfl (allL_cons rfl (allL_cons rfl (allL_cons rfl (allL_cons rfl (allL_cons hs62o (allL_cons hs63o (allL_cons rfl (allL_nil))))))))))))))))))))))) ?_
    rintro _ _ ⟨rfl, rfl⟩
    refine ops_turn (retell 5 (g := box b3 [.int .i64 r54.F.Base, .int .i64 r54.F.Done, .int .i64 r54.F.Serial, .bool r54.F.Stopped, v56, v57, .int .i64 r54.Nodes.a0_.Site, .int .i64 r54.Nodes.a0_.Version, .int .i64 r54.Nodes.a0_.Serial, .int .i64 r54.Nodes.a1_.Site, .int .i64 r54.Nodes.a1_.Version, .int .i64 r54.Nodes.a1_.Serial, .int .i64 r54.Nodes.a2_.Site, .int .i64 r54.Nodes.a2_.Version, .int .i64 r54.Nodes.a2_.Serial, .int .i64 r54.Nodes.a3_.Site, .int .i64 r54.Nodes.a3_.Version, .int .i64 r54.Nodes.a3_.Serial, v58, v59, .bool r54.Bad]) rfl (by kernel_rfl)) ?_
    refine ops_nil ?_
    refine goes_code ?_
    refine run_ret ?_
    obtain rfl := some_eq h
    obtain rfl := after_stop ho30
    refine fin_res [.cell 4 65] [.agg #[.int .i64 r54.F.Base, .int .i64 r54.F.Done, .int .i64 r54.F.Serial, .bool r54.F.Stopped, v56, v57, .int .i64 r54.Nodes.a0_.Site, .int .i64 r54.Nodes.a0_.Version, .int .i64 r54.Nodes.a0_.Serial, .int .i64 r54.Nodes.a1_.Site, .int .i64 r54.Nodes.a1_.Version, .int .i64 r54.Nodes.a1_.Serial, .int .i64 r54.Nodes.a2_.Site, .int .i64 r54.Nodes.a2_.Version, .int .i64 r54.Nodes.a2_.Serial, .int .i64 r54.Nodes.a3_.Site, .int .i64 r54.Nodes.a3_.Version, .int .i64 r54.Nodes.a3_.Serial, v58, v59, .bool r54.Bad]] [10, 11, 12, 13] [nro v56 NC_L_int_35 r54.F.Stages, ro v57 4 (r54.F.Orders.map S_api_Order.enc), ro v58 3 (r54.Sent.map S_api_Node.enc), ro v59 3 (r54.Told.map S_api_Node.enc)] Try.results22 rfl (rescons (res_box 5 Try.isAgg65 Try.sizeOf65 rfl rfl rfl) resnil) (by decide) rfl ?_
    exact ⟨_, _, _, _, rfl, rfl⟩
   refine any_cut2 #[true, true, true, true, true, true, true, true, true, false, false] 2 (Value × Value × Nat × Value) (fun σ => [(2, boxP b1 0), (4, boxP b3 0), (36, .agg #[.int .i64 r38.1.Base, .int .i64 r38.1.Done, .int .i64 r38.1.Serial, .bool r38.1.Stopped, σ.1, σ.2.1]), (37, .int .i64 r38.2), (6, boxP σ.2.2.1 0)]) (fun σ => [nro w_0_F_Stagesv NC_L_int_35 w_0.F.Stages, ro w_0_F_Ordersv 4 (w_0.F.Orders.map S_api_Order.enc), ro w_0_Sentv 3 (w_0.Sent.map S_api_Node.enc), ro w_0_Toldv 3 (w_0.Told.map S_api_Node.enc), box b1 [.int .i64 w_0.F.Base, .int .i64 w_0.F.Done, .int .i64 w_0.F.Serial, .bool w_0.F.Stopped, w_0_F_Stagesv, w_0_F_Ordersv, .int .i64 w_0.Nodes.a0_.Site, .int .i64 w_0.Nodes.a0_.Version, .int .i64 w_0.Nodes.a0_.Serial, .int .i64 w_0.Nodes.a1_.Site, .int .i64 w_0.Nodes.a1_.Version, .int .i64 w_0.Nodes.a1_.Serial, .int .i64 w_0.Nodes.a2_.Site, .int .i64 w_0.Nodes.a2_.Version, .int .i64 w_0.Nodes.a2_.Serial, .int .i64 w_0.Nodes.a3_.Site, .int .i64 w_0.Nodes.a3_.Version, .int .i64 w_0.Nodes.a3_.Serial, w_0_Sentv, w_0_Toldv, .bool w_0.Bad], box b3 [.int .i64 0, .int .i64 0, .int .i64 0, .bool false, .slice none 0 0, .slice none 0 0, .int .i64 0, .int .i64 0, .int .i64 0, .int .i64 0, .int .i64 0, .int .i64 0, .int .i64 0, .int .i64 0, .int .i64 0, .int .i64 0, .int .i64 0, .int .i64 0, .slice none 0 0, .slice none 0 0, .bool false], nro σ.2.2.2 NC_L_int_35 r34, nro σ.1 NC_L_int_35 r38.1.Stages, row σ.2.1 4 (r38.1.Orders.map S_api_Order.enc), box σ.2.2.1 [.int .i64 0, .int .i64 0, .int .i64 0, .bool false, .slice none 0 0, .slice none 0 0]]) ?_ (fun hK64 => ?_)
   ·rintro ⟨v47, v48, b50, v45⟩
    change AnyL _ _ _ _ _ (VF.of [(2, boxP b1 0), (4, boxP b3 0), (36, .agg #[.int .i64 r38.1.Base, .int .i64 r38.1.Done, .int .i64 r38.1.Serial, .bool r38.1.Stopped, v47, v48]), (37, .int .i64 r38.2), (6, boxP b50 0)]) [nro w_0_F_Stagesv NC_L_int_35 w_0.F.Stages, ro w_0_F_Ordersv 4 (w_0.F.Orders.map S_api_Order.enc), ro w_0_Sentv 3 (w_0.Sent.map S_api_Node.enc), ro w_0_Toldv 3 (w_0.Told.map S_api_Node.enc), box b1 [.int .i64 w_0.F.Base, .int .i64 w_0.F.Done, .int .i64 w_0.F.Serial, .bool w_0.F.Stopped, w_0_F_Stagesv, w_0_F_Ordersv, .int .i64 w_0.Nodes.a0_.Site, .int .i64 w_0.Nodes.a0_.Version, .int .i64 w_0.Nodes.a0_.Serial, .int .i64 w_0.Nodes.a1_.Site, .int .i64 w_0.Nodes.a1_.Version, .int .i64 w_0.Nodes.a1_.Serial, .int .i64 w_0.Nodes.a2_.Site, .int .i64 w_0.Nodes.a2_.Version, .int .i64 w_0.Nodes.a2_.Serial, .int .i64 w_0.Nodes.a3_.Site, .int .i64 w_0.Nodes.a3_.Version, .int .i64 w_0.Nodes.a3_.Serial, w_0_Sentv, w_0_Toldv, .bool w_0.Bad], box b3 [.int .i64 0, .int .i64 0, .int .i64 0, .bool false, .slice none 0 0, .slice none 0 0, .int .i64 0, .int .i64 0, .int .i64 0, .int .i64 0, .int .i64 0, .int .i64 0, .int .i64 0, .int .i64 0, .int .i64 0, .int .i64 0, .int .i64 0, .int .i64 0, .slice none 0 0, .slice none 0 0, .bool false], nro v45 NC_L_int_35 r34, nro v47 NC_L_int_35 r38.1.Stages, row v48 4 (r38.1.Orders.map S_api_Order.enc), box b50 [.int .i64 0, .int .i64 0, .int .i64 0, .bool false, .slice none 0 0, .slice none 0 0]] _
    refine any_all [9] (by kernel_rfl) rfl ?_
    refine anyo_cons ?_ ?_
    ·
     refine anyo_slcN 7 rfl readsN_ro (fun hs65 hs65o => ?_)
     refine anyo_slc 8 rfl reads_row (fun hs66 hs66o => ?_)
     refine any_t rfl (wn rfl) rfl (t_store 9 Try.sizeOf59 rfl rfl rfl rfl (by simp [Value.cells, boxP]) (allL_cons rfl (allL_cons rfl (allL_cons rfl (allL_cons rfl (allL_cons hs65o (allL_cons hs66o (allL_nil)))))))) ?_
     rintro _ _ ⟨rfl, rfl⟩
     refine ⟨(ss (ss (ss (ss (ss (ss (sn))))))), ?_⟩
     refine any_turn (retell 9 (g := box b50 [.int .i64 r38.1.Base, .int .i64 r38.1.Done, .int .i64 r38.1.Serial, .bool r38.1.Stopped, v47, v48]) rfl rfl) ?_
     refine any_y 10 rfl (by kernel_rfl) (by kernel_rfl) (by kernel_rfl) (ss (ss (ss (ss (ss (ss (sn))))))) (wn rfl) rfl (y_assign rfl) ?_
     exact any_weak2 (hK53 (b50, v45, v47, v48)) [0, 1, 2, 3, 4, 5, 6, 7, 8, 9] (by kernel_rfl) (qv4 rfl rfl rfl rfl) (by decide) rfl
    exact anyo_nil
   refine any_cut2 #[true, true, true, true, true, true, true, true, false, false, false] 3 (Value × Value × Value) (fun σ => [(2, boxP b1 0), (4, boxP b3 0), (36, .agg #[.int .i64 r38.1.Base, .int .i64 r38.1.Done, .int .i64 r38.1.Serial, .bool r38.1.Stopped, σ.1, σ.2.1]), (37, .int .i64 r38.2)]) (fun σ => [nro w_0_F_Stagesv NC_L_int_35 w_0.F.Stages, ro w_0_F_Ordersv 4 (w_0.F.Orders.map S_api_Order.enc), ro w_0_Sentv 3 (w_0.Sent.map S_api_Node.enc), ro w_0_Toldv 3 (w_0.Told.map S_api_Node.enc), box b1 [.int .i64 w_0.F.Base, .int .i64 w_0.F.Done, .int .i64 w_0.F.Serial, .bool w_0.F.Stopped, w_0_F_Stagesv, w_0_F_Ordersv, .int .i64 w_0.Nodes.a0_.Site, .int .i64 w_0.Nodes.a0_.Version, .int .i64 w_0.Nodes.a0_.Serial, .int .i64 w_0.Nodes.a1_.Site, .int .i64 w_0.Nodes.a1_.Version, .int .i64 w_0.Nodes.a1_.Serial, .int .i64 w_0.Nodes.a2_.Site, .int .i64 w_0.Nodes.a2_.Version, .int .i64 w_0.Nodes.a2_.Serial, .int .i64 w_0.Nodes.a3_.Site, .int .i64 w_0.Nodes.a3_.Version, .int .i64 w_0.Nodes.a3_.Serial, w_0_Sentv, w_0_Toldv, .bool w_0.Bad], box b3 [.int .i64 0, .int .i64 0, .int .i64 0, .bool false, .slice none 0 0, .slice none 0 0, .int .i64 0, .int .i64 0, .int .i64 0, .int .i64 0, .int .i64 0, .int .i64 0, .int .i64 0, .int .i64 0, .int .i64 0, .int .i64 0, .int .i64 0, .int .i64 0, .slice none 0 0, .slice none 0 0, .bool false], nro σ.2.2 NC_L_int_35 r34, nro σ.1 NC_L_int_35 r38.1.Stages, row σ.2.1 4 (r38.1.Orders.map S_api_Order.enc)]) ?_ (fun hK67 => ?_)
   ·rintro ⟨v47, v48, v45⟩
    change AnyL _ _ _ _ _ (VF.of [(2, boxP b1 0), (4, boxP b3 0), (36, .agg #[.int .i64 r38.1.Base, .int .i64 r38.1.Done, .int .i64 r38.1.Serial, .bool r38.1.Stopped, v47, v48]), (37, .int .i64 r38.2)]) [nro w_0_F_Stagesv NC_L_int_35 w_0.F.Stages, ro w_0_F_Ordersv 4 (w_0.F.Orders.map S_api_Order.enc), ro w_0_Sentv 3 (w_0.Sent.map S_api_Node.enc), ro w_0_Toldv 3 (w_0.Told.map S_api_Node.enc), box b1 [.int .i64 w_0.F.Base, .int .i64 w_0.F.Done, .int .i64 w_0.F.Serial, .bool w_0.F.Stopped, w_0_F_Stagesv, w_0_F_Ordersv, .int .i64 w_0.Nodes.a0_.Site, .int .i64 w_0.Nodes.a0_.Version, .int .i64 w_0.Nodes.a0_.Serial, .int .i64 w_0.Nodes.a1_.Site, .int .i64 w_0.Nodes.a1_.Version, .int .i64 w_0.Nodes.a1_.Serial, .int .i64 w_0.Nodes.a2_.Site, .int .i64 w_0.Nodes.a2_.Version, .int .i64 w_0.Nodes.a2_.Serial, .int .i64 w_0.Nodes.a3_.Site, .int .i64 w_0.Nodes.a3_.Version, .int .i64 w_0.Nodes.a3_.Serial, w_0_Sentv, w_0_Toldv, .bool w_0.Bad], box b3 [.int .i64 0, .int .i64 0, .int .i64 0, .bool false, .slice none 0 0, .slice none 0 0, .int .i64 0, .int .i64 0, .int .i64 0, .int .i64 0, .int .i64 0, .int .i64 0, .int .i64 0, .int .i64 0, .int .i64 0, .int .i64 0, .int .i64 0, .int .i64 0, .slice none 0 0, .slice none 0 0, .bool false], nro v45 NC_L_int_35 r34, nro v47 NC_L_int_35 r38.1.Stages, row v48 4 (r38.1.Orders.map S_api_Order.enc)] _
    refine any_all [8] (by kernel_rfl) rfl ?_
    refine anyo_cons ?_ ?_
    ·
     refine any_t rfl (wn rfl) rfl (t_alloc Try.zeroValue59) ?_
     rintro _ _ ⟨b68, rfl, rfl⟩
     refine ⟨(ss (ss (ss (ss (ss (ss (sn))))))), ?_⟩
     exact any_weak2 (hK64 (v47, v48, b68, v45)) [0, 1, 2, 3, 4, 5, 6, 7, 8, 9] (by kernel_rfl) (qv5 rfl rfl rfl rfl rfl) (by decide) rfl
    exact anyo_nil
   refine any_cut2 #[true, true, true, true, false, false, false, false, true, false, false] 6 (Value × Nat) (fun σ => [(2, boxP b1 0), (4, boxP b3 0), (32, .agg #[.int .i64 w_0.F.Base, .int .i64 w_0.F.Done, .int .i64 w_0.F.Serial, .bool w_0.F.Stopped, w_0_F_Stagesv, w_0_F_Ordersv]), (34, σ.1), (6, boxP σ.2 0)]) (fun σ => [nro w_0_F_Stagesv NC_L_int_35 w_0.F.Stages, ro w_0_F_Ordersv 4 (w_0.F.Orders.map S_api_Order.enc), ro w_0_Sentv 3 (w_0.Sent.map S_api_Node.enc), ro w_0_Toldv 3 (w_0.Told.map S_api_Node.enc), box b1 [.int .i64 w_0.F.Base, .int .i64 w_0.F.Done, .int .i64 w_0.F.Serial, .bool w_0.F.Stopped, w_0_F_Stagesv, w_0_F_Ordersv, .int .i64 w_0.Nodes.a0_.Site, .int .i64 w_0.Nodes.a0_.Version, .int .i64 w_0.Nodes.a0_.Serial, .int .i64 w_0.Nodes.a1_.Site, .int .i64 w_0.Nodes.a1_.Version, .int .i64 w_0.Nodes.a1_.Serial, .int .i64 w_0.Nodes.a2_.Site, .int .i64 w_0.Nodes.a2_.Version, .int .i64 w_0.Nodes.a2_.Serial, .int .i64 w_0.Nodes.a3_.Site, .int .i64 w_0.Nodes.a3_.Version, .int .i64 w_0.Nodes.a3_.Serial, w_0_Sentv, w_0_Toldv, .bool w_0.Bad], box b3 [.int .i64 0, .int .i64 0, .int .i64 0, .bool false, .slice none 0 0, .slice none 0 0, .int .i64 0, .int .i64 0, .int .i64 0, .int .i64 0, .int .i64 0, .int .i64 0, .int .i64 0, .int .i64 0, .int .i64 0, .int .i64 0, .int .i64 0, .int .i64 0, .slice none 0 0, .slice none 0 0, .bool false], nrow σ.1 NC_L_int_35 r34, box σ.2 [.int .i64 0, .int .i64 0, .int .i64 0, .bool false, .slice none 0 0, .slice none 0 0]]) ?_ (fun hK69 => ?_)
   ·rintro ⟨v45, b49⟩
    change AnyL _ _ _ _ _ (VF.of [(2, boxP b1 0), (4, boxP b3 0), (32, .agg #[.int .i64 w_0.F.Base, .int .i64 w_0.F.Done, .int .i64 w_0.F.Serial, .bool w_0.F.Stopped, w_0_F_Stagesv, w_0_F_Ordersv]), (34, v45), (6, boxP b49 0)]) [nro w_0_F_Stagesv NC_L_int_35 w_0.F.Stages, ro w_0_F_Ordersv 4 (w_0.F.Orders.map S_api_Order.enc), ro w_0_Sentv 3 (w_0.Sent.map S_api_Node.enc), ro w_0_Toldv 3 (w_0.Told.map S_api_Node.enc), box b1 [.int .i64 w_0.F.Base, .int .i64 w_0.F.Done, .int .i64 w_0.F.Serial, .bool w_0.F.Stopped, w_0_F_Stagesv, w_0_F_Ordersv, .int .i64 w_0.Nodes.a0_.Site, .int .i64 w_0.Nodes.a0_.Version, .int .i64 w_0.Nodes.a0_.Serial, .int .i64 w_0.Nodes.a1_.Site, .int .i64 w_0.Nodes.a1_.Version, .int .i64 w_0.Nodes.a1_.Serial, .int .i64 w_0.Nodes.a2_.Site, .int .i64 w_0.Nodes.a2_.Version, .int .i64 w_0.Nodes.a2_.Serial, .int .i64 w_0.Nodes.a3_.Site, .int .i64 w_0.Nodes.a3_.Version, .int .i64 w_0.Nodes.a3_.Serial, w_0_Sentv, w_0_Toldv, .bool w_0.Bad], box b3 [.int .i64 0, .int .i64 0, .int .i64 0, .bool false, .slice none 0 0, .slice none 0 0, .int .i64 0, .int .i64 0, .int .i64 0, .int .i64 0, .int .i64 0, .int .i64 0, .int .i64 0, .int .i64 0, .int .i64 0, .int .i64 0, .int .i64 0, .int .i64 0, .slice none 0 0, .slice none 0 0, .bool false], nrow v45 NC_L_int_35 r34, box b49 [.int .i64 0, .int .i64 0, .int .i64 0, .bool false, .slice none 0 0, .slice none 0 0]] _
    refine any_all [4] (by kernel_rfl) rfl ?_
    refine anyo_cons ?_ ?_
    ·
     refine anyo_turn (freezeN 6 rfl (fun _ => ne0 hq37)) ?_
     refine any_t rfl (wn rfl) rfl (t_callx (vs := [.agg #[.int .i64 w_0.F.Base, .int .i64 w_0.F.Done, .int .i64 w_0.F.Serial, .bool w_0.F.Stopped, w_0_F_Stagesv, w_0_F_Ordersv], v45]) (cs := []) [(0, 0), (1, 0), (6, 0)] rfl Try.call33 rfl (topo_Begin_ok n w_0.F r34 w_0_F_Stagesv w_0_F_Ordersv v45 hr39) (showsX_view 0 rfl views_nro (showsX_view 1 rfl views_ro (showsX_view 6 rfl views_nro showsX_nil))) rfl (.inl rfl)) ?_
     rintro _ _ ⟨_, ⟨v70, v71, rfl, rfl⟩, rfl⟩
     refine ⟨(ss (ss (ss (ss (ss (ss (sn))))))), ?_⟩
     refine any_y 5 rfl (by kernel_rfl) (by kernel_rfl) (by kernel_rfl) (ss (ss (ss (ss (ss (ss (sn))))))) (wn rfl) rfl (y_move rfl) ?_
     refine any_y 6 rfl (by kernel_rfl) (by kernel_rfl) (by kernel_rfl) (ss (ss (ss (ss (ss (ss (sn))))))) (wn rfl) rfl (y_extract rfl rfl) ?_
     refine any_y 7 rfl (by kernel_rfl) (by kernel_rfl) (by kernel_rfl) (ss (ss (ss (ss (ss (ss (sn))))))) (wn rfl) rfl (y_extract rfl rfl) ?_
     exact any_weak2 (hK64 (v70, v71, b49, v45)) [0, 1, 2, 3, 4, 5, 6, 8, 9, 7] (by kernel_rfl) (qv5 rfl rfl rfl rfl rfl) (by decide) rfl
    exact anyo_nil
   refine any_cut2 #[true, true, true, true, false, false, false, false, false, false, false] 7 (Value) (fun σ => [(2, boxP b1 0), (4, boxP b3 0), (32, .agg #[.int .i64 w_0.F.Base, .int .i64 w_0.F.Done, .int .i64 w_0.F.Serial, .bool w_0.F.Stopped, w_0_F_Stagesv, w_0_F_Ordersv]), (34, σ)]) (fun σ => [nro w_0_F_Stagesv NC_L_int_35 w_0.F.Stages, ro w_0_F_Ordersv 4 (w_0.F.Orders.map S_api_Order.enc), ro w_0_Sentv 3 (w_0.Sent.map S_api_Node.enc), ro w_0_Toldv 3 (w_0.Told.map S_api_Node.enc), box b1 [.int .i64 w_0.F.Base, .int .i64 w_0.F.Done, .int .i64 w_0.F.Serial, .bool w_0.F.Stopped, w_0_F_Stagesv, w_0_F_Ordersv, .int .i64 w_0.Nodes.a0_.Site, .int .i64 w_0.Nodes.a0_.Version, .int .i64 w_0.Nodes.a0_.Serial, .int .i64 w_0.Nodes.a1_.Site, .int .i64 w_0.Nodes.a1_.Version, .int .i64 w_0.Nodes.a1_.Serial, .int .i64 w_0.Nodes.a2_.Site, .int .i64 w_0.Nodes.a2_.Version, .int .i64 w_0.Nodes.a2_.Serial, .int .i64 w_0.Nodes.a3_.Site, .int .i64 w_0.Nodes.a3_.Version, .int .i64 w_0.Nodes.a3_.Serial, w_0_Sentv, w_0_Toldv, .bool w_0.Bad], box b3 [.int .i64 0, .int .i64 0, .int .i64 0, .bool false, .slice none 0 0, .slice none 0 0, .int .i64 0, .int .i64 0, .int .i64 0, .int .i64 0, .int .i64 0, .int .i64 0, .int .i64 0, .int .i64 0, .int .i64 0, .int .i64 0, .int .i64 0, .int .i64 0, .slice none 0 0, .slice none 0 0, .bool false], nrow σ NC_L_int_35 r34]) ?_ (fun hK72 => ?_)
   ·rintro v45
    change AnyL _ _ _ _ _ (VF.of [(2, boxP b1 0), (4, boxP b3 0), (32, .agg #[.int .i64 w_0.F.Base, .int .i64 w_0.F.Done, .int .i64 w_0.F.Serial, .bool w_0.F.Stopped, w_0_F_Stagesv, w_0_F_Ordersv]), (34, v45)]) [nro w_0_F_Stagesv NC_L_int_35 w_0.F.Stages, ro w_0_F_Ordersv 4 (w_0.F.Orders.map S_api_Order.enc), ro w_0_Sentv 3 (w_0.Sent.map S_api_Node.enc), ro w_0_Toldv 3 (w_0.Told.map S_api_Node.enc), box b1 [.int .i64 w_0.F.Base, .int .i64 w_0.F.Done, .int .i64 w_0.F.Serial, .bool w_0.F.Stopped, w_0_F_Stagesv, w_0_F_Ordersv, .int .i64 w_0.Nodes.a0_.Site, .int .i64 w_0.Nodes.a0_.Version, .int .i64 w_0.Nodes.a0_.Serial, .int .i64 w_0.Nodes.a1_.Site, .int .i64 w_0.Nodes.a1_.Version, .int .i64 w_0.Nodes.a1_.Serial, .int .i64 w_0.Nodes.a2_.Site, .int .i64 w_0.Nodes.a2_.Version, .int .i64 w_0.Nodes.a2_.Serial, .int .i64 w_0.Nodes.a3_.Site, .int .i64 w_0.Nodes.a3_.Version, .int .i64 w_0.Nodes.a3_.Serial, w_0_Sentv, w_0_Toldv, .bool w_0.Bad], box b3 [.int .i64 0, .int .i64 0, .int .i64 0, .bool false, .slice none 0 0, .slice none 0 0, .int .i64 0, .int .i64 0, .int .i64 0, .int .i64 0, .int .i64 0, .int .i64 0, .int .i64 0, .int .i64 0, .int .i64 0, .int .i64 0, .int .i64 0, .int .i64 0, .slice none 0 0, .slice none 0 0, .bool false], nrow v45 NC_L_int_35 r34] _
    refine any_all [4, 8] (by kernel_rfl) rfl ?_
    refine anyo_cons ?_ ?_
    ·
     refine anyo_turn (freezeN 6 rfl (fun _ => ne0 hq37)) ?_
     refine any_t rfl (wn rfl) rfl (t_callx (vs := [.agg #[.int .i64 w_0.F.Base, .int .i64 w_0.F.Done, .int .i64 w_0.F.Serial, .bool w_0.F.Stopped, w_0_F_Stagesv, w_0_F_Ordersv], v45]) (cs := []) [(0, 0), (1, 0), (6, 0)] rfl Try.call33 rfl (topo_Begin_ok n w_0.F r34 w_0_F_Stagesv w_0_F_Ordersv v45 hr39) (showsX_view 0 rfl views_nro (showsX_view 1 rfl views_ro (showsX_view 6 rfl views_nro showsX_nil))) rfl (.inl rfl)) ?_
     rintro _ _ ⟨_, ⟨v73, v74, rfl, rfl⟩, rfl⟩
     refine ⟨(ss (ss (ss (ss (ss (ss (sn))))))), ?_⟩
     refine any_y 5 rfl (by kernel_rfl) (by kernel_rfl) (by kernel_rfl) (ss (ss (ss (ss (ss (ss (sn))))))) (wn rfl) rfl (y_move rfl) ?_
     refine any_y 6 rfl (by kernel_rfl) (by kernel_rfl) (by kernel_rfl) (ss (ss (ss (ss (ss (ss (sn))))))) (wn rfl) rfl (y_extract rfl rfl) ?_
     refine any_y 7 rfl (by kernel_rfl) (by kernel_rfl) (by kernel_rfl) (ss (ss (ss (ss (ss (ss (sn))))))) (wn rfl) rfl (y_extract rfl rfl) ?_
     exact any_weak2 (hK67 (v73, v74, v45)) [0, 1, 2, 3, 4, 5, 6, 7, 8] (by kernel_rfl) (qv4 rfl rfl rfl rfl) (by decide) rfl
    refine anyo_cons ?_ ?_
    ·
     refine any_t rfl (wn rfl) rfl (t_alloc Try.zeroValue59) ?_
     rintro _ _ ⟨b75, rfl, rfl⟩
     refine ⟨(ss (ss (ss (ss (ss (ss (sn))))))), ?_⟩
     exact any_weak2 (hK69 (v45, b75)) [0, 1, 2, 3, 4, 5, 6, 7] (by kernel_rfl) (qv5 rfl rfl rfl rfl rfl) (by decide) rfl
    exact anyo_nil
   refine any_cut2 #[true, true, true, false, false, false, false, false, true, false, false] 7 (Nat) (fun σ => [(2, boxP b1 0), (4, boxP b3 0), (32, .agg #[.int .i64 w_0.F.Base, .int .i64 w_0.F.Done, .int .i64 w_0.F.Serial, .bool w_0.F.Stopped, w_0_F_Stagesv, w_0_F_Ordersv]), (33, .int .i64 (IntKind.i64.wrap a_1.N)), (6, boxP σ 0)]) (fun σ => [nro w_0_F_Stagesv NC_L_int_35 w_0.F.Stages, ro w_0_F_Ordersv 4 (w_0.F.Orders.map S_api_Order.enc), ro w_0_Sentv 3 (w_0.Sent.map S_api_Node.enc), ro w_0_Toldv 3 (w_0.Told.map S_api_Node.enc), box b1 [.int .i64 w_0.F.Base, .int .i64 w_0.F.Done, .int .i64 w_0.F.Serial, .bool w_0.F.Stopped, w_0_F_Stagesv, w_0_F_Ordersv, .int .i64 w_0.Nodes.a0_.Site, .int .i64 w_0.Nodes.a0_.Version, .int .i64 w_0.Nodes.a0_.Serial, .int .i64 w_0.Nodes.a1_.Site, .int .i64 w_0.Nodes.a1_.Version, .int .i64 w_0.Nodes.a1_.Serial, .int .i64 w_0.Nodes.a2_.Site, .int .i64 w_0.Nodes.a2_.Version, .int .i64 w_0.Nodes.a2_.Serial, .int .i64 w_0.Nodes.a3_.Site, .int .i64 w_0.Nodes.a3_.Version, .int .i64 w_0.Nodes.a3_.Serial, w_0_Sentv, w_0_Toldv, .bool w_0.Bad], box b3 [.int .i64 0, .int .i64 0, .int .i64 0, .bool false, .slice none 0 0, .slice none 0 0, .int .i64 0, .int .i64 0, .int .i64 0, .int .i64 0, .int .i64 0, .int .i64 0, .int .i64 0, .int .i64 0, .int .i64 0, .int .i64 0, .int .i64 0, .int .i64 0, .slice none 0 0, .slice none 0 0, .bool false], box σ [.int .i64 0, .int .i64 0, .int .i64 0, .bool false, .slice none 0 0, .slice none 0 0]]) ?_ (fun hK76 => ?_)
   ·rintro b46
    change AnyL _ _ _ _ _ (VF.of [(2, boxP b1 0), (4, boxP b3 0), (32, .agg #[.int .i64 w_0.F.Base, .int .i64 w_0.F.Done, .int .i64 w_0.F.Serial, .bool w_0.F.Stopped, w_0_F_Stagesv, w_0_F_Ordersv]), (33, .int .i64 (IntKind.i64.wrap a_1.N)), (6, boxP b46 0)]) [nro w_0_F_Stagesv NC_L_int_35 w_0.F.Stages, ro w_0_F_Ordersv 4 (w_0.F.Orders.map S_api_Order.enc), ro w_0_Sentv 3 (w_0.Sent.map S_api_Node.enc), ro w_0_Toldv 3 (w_0.Told.map S_api_Node.enc), box b1 [.int .i64 w_0.F.Base, .int .i64 w_0.F.Done, .int .i64 w_0.F.Serial, .bool w_0.F.Stopped, w_0_F_Stagesv, w_0_F_Ordersv, .int .i64 w_0.Nodes.a0_.Site, .int .i64 w_0.Nodes.a0_.Version, .int .i64 w_0.Nodes.a0_.Serial, .int .i64 w_0.Nodes.a1_.Site, .int .i64 w_0.Nodes.a1_.Version, .int .i64 w_0.Nodes.a1_.Serial, .int .i64 w_0.Nodes.a2_.Site, .int .i64 w_0.Nodes.a2_.Version, .int .i64 w_0.Nodes.a2_.Serial, .int .i64 w_0.Nodes.a3_.Site, .int .i64 w_0.Nodes.a3_.Version, .int .i64 w_0.Nodes.a3_.Serial, w_0_Sentv, w_0_Toldv, .bool w_0.Bad], box b3 [.int .i64 0, .int .i64 0, .int .i64 0, .bool false, .slice none 0 0, .slice none 0 0, .int .i64 0, .int .i64 0, .int .i64 0, .int .i64 0, .int .i64 0, .int .i64 0, .int .i64 0, .int .i64 0, .int .i64 0, .int .i64 0, .int .i64 0, .int .i64 0, .slice none 0 0, .slice none 0 0, .bool false], box b46 [.int .i64 0, .int .i64 0, .int .i64 0, .bool false, .slice none 0 0, .slice none 0 0]] _
    refine any_all [3] (by kernel_rfl) rfl ?_
    refine anyo_cons ?_ ?_
    ·
     refine any_t rfl (wn rfl) rfl (t_callx (vs := [.int .i64 (IntKind.i64.wrap a_1.N)]) (cs := []) [] rfl Try.call49 rfl (law42_stages_ok n (IntKind.i64.wrap a_1.N)  hr35) showsX_nil rfl (.inl rfl)) ?_
     rintro v77 _ ⟨_, ⟨_, rfl, rfl⟩, rfl⟩
     refine ⟨(ss (ss (ss (ss (ss (ss (sn))))))), ?_⟩
     exact any_weak2 (hK69 (v77, b46)) [0, 1, 2, 3, 4, 5, 7, 6] (by kernel_rfl) (qv5 rfl rfl rfl rfl rfl) (by decide) rfl
    exact anyo_nil
   refine any_all [3, 8] (by kernel_rfl) rfl ?_
   refine anyo_cons ?_ ?_
   ·
    refine any_t rfl (wn rfl) rfl (t_callx (vs := [.int .i64 (IntKind.i64.wrap a_1.N)]) (cs := []) [] rfl Try.call49 rfl (law42_stages_ok n (IntKind.i64.wrap a_1.N)  hr35) showsX_nil rfl (.inl rfl)) ?_
    rintro v78 _ ⟨_, ⟨_, rfl, rfl⟩, rfl⟩
    refine ⟨(ss (ss (ss (ss (ss (ss (sn))))))), ?_⟩
    exact any_weak2 (hK72 v78) [0, 1, 2, 3, 4, 5, 6] (by kernel_rfl) (qv4 rfl rfl rfl rfl) (by decide) rfl
   refine anyo_cons ?_ ?_
   ·
    refine any_t rfl (wn rfl) rfl (t_alloc Try.zeroValue59) ?_
    rintro _ _ ⟨b79, rfl, rfl⟩
    refine ⟨(ss (ss (ss (ss (ss (ss (sn))))))), ?_⟩
    exact any_weak2 (hK76 b79) [0, 1, 2, 3, 4, 5, 6] (by kernel_rfl) (qv5 rfl rfl rfl rfl rfl) (by decide) rfl
   exact anyo_nil
  ·replace h := cond_f h hc33
   refine run_seq ?_
   refine run_region' ?_
   refine oy rfl rfl (y_eql rfl rfl) ?_
   refine oy rfl rfl (y_assign rfl) ?_
   refine ops_nil ?_
   refine goes_code ?_
   refine run_cond (decide ((a_1.Kind.tmod 9) = 1)) rfl (fun hc80 => ?_) (fun hc80 => ?_)
   ·replace h := cond_t h hc80
    refine run_seq ?_
    refine run_region' ?_
    refine oy rfl rfl (y_fieldAddr_box (sz := 5) Try.runUnderlying65 rfl Try.sizeOf59 rfl) ?_
    refine oy rfl rfl (y_load_boxagg (c := [.int .i64 w_0.F.Base, .int .i64 w_0.F.Done, .int .i64 w_0.F.Serial, .bool w_0.F.Stopped, w_0_F_Stagesv, w_0_F_Ordersv]) 4 Try.isAgg59 Try.sizeOf59 rfl rfl rfl) ?_
    obtain ⟨r81, hr82, h⟩ := obind_some h
    refine ot rfl rfl (t_callx (vs := [.agg #[.int .i64 w_0.F.Base, .int .i64 w_0.F.Done, .int .i64 w_0.F.Serial, .bool w_0.F.Stopped, w_0_F_Stagesv, w_0_F_Ordersv]]) (cs := []) [(0, 0), (1, 0)] rfl Try.call30 rfl (topo_Forward_ok n w_0.F w_0_F_Stagesv w_0_F_Ordersv hr82) (showsX_view 0 rfl views_nro (showsX_view 1 rfl views_ro showsX_nil)) rfl (.inl rfl)) ?_
    rintro _ _ ⟨_, ⟨v83, v84, rfl, rfl⟩, rfl⟩
    refine oy rfl rfl (y_move rfl) ?_
    refine oy rfl rfl (y_extract rfl rfl) ?_
    refine oy rfl rfl (y_extract rfl rfl) ?_
    refine ot rfl rfl (t_alloc Try.zeroValue59) ?_
    rintro _ _ ⟨b85, rfl, rfl⟩
    refine ops_slcN 6 rfl readsN_ro (fun hs86 hs86o => ?_)
    refine ops_slc 7 rfl reads_row (fun hs87 hs87o => ?_)
    refine ot rfl rfl (t_store 8 Try.sizeOf59 rfl rfl rfl rfl (by simp [Value.cells, boxP]) (allL_cons rfl (allL_cons rfl (allL_cons rfl (allL_cons rfl (allL_cons hs86o (allL_cons hs87o (allL_nil)))))))) ?_
    rintro _ _ ⟨rfl, rfl⟩
    refine ops_turn (retell 8 (g := box b85 [.int .i64 r81.1.Base, .int .i64 r81.1.Done, .int .i64 r81.1.Serial, .bool r81.1.Stopped, v83, v84]) rfl rfl) ?_
    refine oy rfl rfl (y_assign rfl) ?_
    refine ops_nil ?_
    refine goes_code ?_
    refine run_seq ?_
    refine run_weak [(2, boxP b1 0), (4, boxP b3 0), (8, boxP b85 0), (9, .int .i64 r81.2)] [0, 1, 2, 3, 4, 5, 6, 7, 8] [nro w_0_F_Stagesv NC_L_int_35 w_0.F.Stages, ro w_0_F_Ordersv 4 (w_0.F.Orders.map S_api_Order.enc), ro w_0_Sentv 3 (w_0.Sent.map S_api_Node.enc), ro w_0_Toldv 3 (w_0.Told.map S_api_Node.enc), box b1 [.int .i64 w_0.F.Base, .int .i64 w_0.F.Done, .int .i64 w_0.F.Serial, .bool w_0.F.Stopped, w_0_F_Stagesv, w_0_F_Ordersv, .int .i64 w_0.Nodes.a0_.Site, .int .i64 w_0.Nodes.a0_.Version, .int .i64 w_0.Nodes.a0_.Serial, .int .i64 w_0.Nodes.a1_.Site, .int .i64 w_0.Nodes.a1_.Version, .int .i64 w_0.Nodes.a1_.Serial, .int .i64 w_0.Nodes.a2_.Site, .int .i64 w_0.Nodes.a2_.Version, .int .i64 w_0.Nodes.a2_.Serial, .int .i64 w_0.Nodes.a3_.Site, .int .i64 w_0.Nodes.a3_.Version, .int .i64 w_0.Nodes.a3_.Serial, w_0_Sentv, w_0_Toldv, .bool w_0.Bad], box b3 [.int .i64 0, .int .i64 0, .int .i64 0, .bool false, .slice none 0 0, .slice none 0 0, .int .i64 0, .int .i64 0, .int .i64 0, .int .i64 0, .int .i64 0, .int .i64 0, .int .i64 0, .int .i64 0, .int .i64 0, .int .i64 0, .int .i64 0, .int .i64 0, .slice none 0 0, .slice none 0 0, .bool false], nro v83 NC_L_int_35 r81.1.Stages, row v84 4 (r81.1.Orders.map S_api_Order.enc), box b85 [.int .i64 r81.1.Base, .int .i64 r81.1.Done, .int .i64 r81.1.Serial, .bool r81.1.Stopped, v83, v84]] (qv4 rfl rfl rfl rfl) (by decide) rfl ?_
    refine run_region' ?_
    refine oy rfl rfl (y_load_boxagg (c := [.int .i64 w_0.F.Base, .int .i64 w_0.F.Done, .int .i64 w_0.F.Serial, .bool w_0.F.Stopped, w_0_F_Stagesv, w_0_F_Ordersv, .int .i64 w_0.Nodes.a0_.Site, .int .i64 w_0.Nodes.a0_.Version, .int .i64 w_0.Nodes.a0_.Serial, .int .i64 w_0.Nodes.a1_.Site, .int .i64 w_0.Nodes.a1_.Version, .int .i64 w_0.Nodes.a1_.Serial, .int .i64 w_0.Nodes.a2_.Site, .int .i64 w_0.Nodes.a2_.Version, .int .i64 w_0.Nodes.a2_.Serial, .int .i64 w_0.Nodes.a3_.Site, .int .i64 w_0.Nodes.a3_.Version, .int .i64 w_0.Nodes.a3_.Serial, w_0_Sentv, w_0_Toldv, .bool w_0.Bad]) 4 Try.isAgg65 Try.sizeOf65 rfl rfl rfl) ?_
    refine oy rfl rfl (y_load_boxagg (c := [.int .i64 r81.1.Base, .int .i64 r81.1.Done, .int .i64 r81.1.Serial, .bool r81.1.Stopped, v83, v84]) 8 Try.isAgg59 Try.sizeOf59 rfl rfl rfl) ?_
    refine oy rfl rfl (y_move rfl) ?_
    refine ops_turn (Go.Abs.freeze 7 rfl) ?_
    obtain ⟨r88, hr89, h⟩ := obind_some h
    refine ot rfl rfl (t_callx (vs := [.agg #[.int .i64 w_0.F.Base, .int .i64 w_0.F.Done, .int .i64 w_0.F.Serial, .bool w_0.F.Stopped, w_0_F_Stagesv, w_0_F_Ordersv, .int .i64 w_0.Nodes.a0_.Site, .int .i64 w_0.Nodes.a0_.Version, .int .i64 w_0.Nodes.a0_.Serial, .int .i64 w_0.Nodes.a1_.Site, .int .i64 w_0.Nodes.a1_.Version, .int .i64 w_0.Nodes.a1_.Serial, .int .i64 w_0.Nodes.a2_.Site, .int .i64 w_0.Nodes.a2_.Version, .int .i64 w_0.Nodes.a2_.Serial, .int .i64 w_0.Nodes.a3_.Site, .int .i64 w_0.Nodes.a3_.Version, .int .i64 w_0.Nodes.a3_.Serial, w_0_Sentv, w_0_Toldv, .bool w_0.Bad], .agg #[.int .i64 r81.1.Base, .int .i64 r81.1.Done, .int .i64 r81.1.Serial, .bool r81.1.Stopped, v83, v84], .int .i64 r81.2]) (cs := []) [(0, 0), (1, 0), (2, 0), (3, 0), (6, 0), (7, 0)] rfl Try.call50 rfl (law42_change_ok w_0 r81.1 r81.2 w_0_F_Stagesv w_0_F_Ordersv w_0_Sentv w_0_Toldv v83 v84 hr89) (showsX_view 0 rfl views_nro (showsX_view 1 rfl views_ro (showsX_view 2 rfl views_ro (showsX_view 3 rfl views_ro (showsX_view 6 rfl views_nro (showsX_view 7 rfl views_ro showsX_nil)))))) rfl (.inl rfl)) ?_
    rintro _ _ ⟨_, ⟨v90, v91, v92, v93, rfl, rfl⟩, rfl⟩
    refine ops_slcN 9 rfl readsN_ro (fun hs94 hs94o => ?_)
    refine ops_slc 10 rfl reads_ro (fun hs95 hs95o => ?_)
    refine ops_slc 11 rfl reads_ro (fun hs96 hs96o => ?_)
    refine ops_slc 12 rfl reads_ro (fun hs97 hs97o => ?_)
    refine ot rfl rfl (t_store 5 Try.sizeOf65 rfl rfl rfl rfl (by simp [Value.cells, boxP]) (allL_cons rfl (allL_cons rfl (allL_cons rfl (allL_cons rfl (allL_cons hs94o (allL_cons hs95o (allL_cons rfl (allL_cons rfl (allL_cons rfl (allL_cons rfl (allL_cons rfl (allL_cons rfl (allL_cons rfl (allL_cons rfl (allL_cons rfl (allL_cons rfl (allL_cons rfl (allL_cons rfl (allL_cons hs96o (allL_cons hs97o (allL_cons rfl (allL_nil))))))))))))))))))))))) ?_
    rintro _ _ ⟨rfl, rfl⟩
    refine ops_turn (retell 5 (g := box b3 [.int .i64 r88.F.Base, .int .i64 r88.F.Done, .int .i64 r88.F.Serial, .bool r88.F.Stopped, v90, v91, .int .i64 r88.Nodes.a0_.Site, .int .i64 r88.Nodes.a0_.Version, .int .i64 r88.Nodes.a0_.Serial, .int .i64 r88.Nodes.a1_.Site, .int .i64 r88.Nodes.a1_.Version, .int .i64 r88.Nodes.a1_.Serial, .int .i64 r88.Nodes.a2_.Site, .int .i64 r88.Nodes.a2_.Version, .int .i64 r88.Nodes.a2_.Serial, .int .i64 r88.Nodes.a3_.Site, .int .i64 r88.Nodes.a3_.Version, .int .i64 r88.Nodes.a3_.Serial, v92, v93, .bool r88.Bad]) rfl (by kernel_rfl)) ?_
    refine ops_nil ?_
    refine goes_code ?_
    refine run_ret ?_
    obtain rfl := some_eq h
    obtain rfl := after_stop ho30
    refine fin_res [.cell 4 65] [.agg #[.int .i64 r88.F.Base, .int .i64 r88.F.Done, .int .i64 r88.F.Serial, .bool r88.F.Stopped, v90, v91, .int .i64 r88.Nodes.a0_.Site, .int .i64 r88.Nodes.a0_.Version, .int .i64 r88.Nodes.a0_.Serial, .int .i64 r88.Nodes.a1_.Site, .int .i64 r88.Nodes.a1_.Version, .int .i64 r88.Nodes.a1_.Serial, .int .i64 r88.Nodes.a2_.Site, .int .i64 r88.Nodes.a2_.Version, .int .i64 r88.Nodes.a2_.Serial, .int .i64 r88.Nodes.a3_.Site, .int .i64 r88.Nodes.a3_.Version, .int .i64 r88.Nodes.a3_.Serial, v92, v93, .bool r88.Bad]] [9, 10, 11, 12] [nro v90 NC_L_int_35 r88.F.Stages, ro v91 4 (r88.F.Orders.map S_api_Order.enc), ro v92 3 (r88.Sent.map S_api_Node.enc), ro v93 3 (r88.Told.map S_api_Node.enc)] Try.results22 rfl (rescons (res_box 5 Try.isAgg65 Try.sizeOf65 rfl rfl rfl) resnil) (by decide) rfl ?_
    exact ⟨_, _, _, _, rfl, rfl⟩
   ·replace h := cond_f h hc80
    refine run_seq ?_
    refine run_region' ?_
    refine oy rfl rfl (y_eql rfl rfl) ?_
    refine oy rfl rfl (y_assign rfl) ?_
    refine ops_nil ?_
    refine goes_code ?_
    refine run_cond (decide ((a_1.Kind.tmod 9) = 2)) rfl (fun hc98 => ?_) (fun hc98 => ?_)
    ·replace h := cond_t h hc98
     refine run_seq ?_
     refine run_region' ?_
     refine oy rfl rfl (y_fieldAddr_box (sz := 5) Try.runUnderlying65 rfl Try.sizeOf59 rfl) ?_
     refine oy rfl rfl (y_load_boxagg (c := [.int .i64 w_0.F.Base, .int .i64 w_0.F.Done, .int .i64 w_0.F.Serial, .bool w_0.F.Stopped, w_0_F_Stagesv, w_0_F_Ordersv]) 4 Try.isAgg59 Try.sizeOf59 rfl rfl rfl) ?_
     obtain ⟨r99, hr100, h⟩ := obind_some h
     refine ot rfl rfl (t_callx (vs := [.agg #[.int .i64 w_0.F.Base, .int .i64 w_0.F.Done, .int .i64 w_0.F.Serial, .bool w_0.F.Stopped, w_0_F_Stagesv, w_0_F_Ordersv]]) (cs := []) [(0, 0), (1, 0)] rfl Try.call29 rfl (topo_Retreat_ok n w_0.F w_0_F_Stagesv w_0_F_Ordersv hr100) (showsX_view 0 rfl views_nro (showsX_view 1 rfl views_ro showsX_nil)) rfl (.inl rfl)) ?_
     rintro _ _ ⟨_, ⟨v101, v102, rfl, rfl⟩, rfl⟩
     refine oy rfl rfl (y_move rfl) ?_
     refine oy rfl rfl (y_extract rfl rfl) ?_
     refine oy rfl rfl (y_extract rfl rfl) ?_
     refine ot rfl rfl (t_alloc Try.zeroValue59) ?_
     rintro _ _ ⟨b103, rfl, rfl⟩
     refine ops_slcN 6 rfl readsN_ro (fun hs104 hs104o => ?_)
     refine ops_slc 7 rfl reads_row (fun hs105 hs105o => ?_)
     refine ot rfl rfl (t_store 8 Try.sizeOf59 rfl rfl rfl rfl (by simp [Value.cells, boxP]) (allL_cons rfl (allL_cons rfl (allL_cons rfl (allL_cons rfl (allL_cons hs104o (allL_cons hs105o (allL_nil)))))))) ?_
     rintro _ _ ⟨rfl, rfl⟩
     refine ops_turn (retell 8 (g := box b103 [.int .i64 r99.1.Base, .int .i64 r99.1.Done, .int .i64 r99.1.Serial, .bool r99.1.Stopped, v101, v102]) rfl rfl) ?_
     refine oy rfl rfl (y_assign rfl) ?_
     refine ops_nil ?_
     refine goes_code ?_
     refine run_seq ?_
     refine run_weak [(2, boxP b1 0), (4, boxP b3 0), (10, boxP b103 0), (11, .int .i64 r99.2)] [0, 1, 2, 3, 4, 5, 6, 7, 8] [nro w_0_F_Stagesv NC_L_int_35 w_0.F.Stages, ro w_0_F_Ordersv 4 (w_0.F.Orders.map S_api_Order.enc), ro w_0_Sentv 3 (w_0.Sent.map S_api_Node.enc), ro w_0_Toldv 3 (w_0.Told.map S_api_Node.enc), box b1 [.int .i64 w_0.F.Base, .int .i64 w_0.F.Done, .int .i64 w_0.F.Serial, .bool w_0.F.Stopped, w_0_F_Stagesv, w_0_F_Ordersv, .int .i64 w_0.Nodes.a0_.Site, .int .i64 w_0.Nodes.a0_.Version, .int .i64 w_0.Nodes.a0_.Serial, .int .i64 w_0.Nodes.a1_.Site, .int .i64 w_0.Nodes.a1_.Version, .int .i64 w_0.Nodes.a1_.Serial, .int .i64 w_0.Nodes.a2_.Site, .int .i64 w_0.Nodes.a2_.Version, .int .i64 w_0.Nodes.a2_.Serial, .int .i64 w_0.Nodes.a3_.Site, .int .i64 w_0.Nodes.a3_.Version, .int .i64 w_0.Nodes.a3_.Serial, w_0_Sentv, w_0_Toldv, .bool w_0.Bad], box b3 [.int .i64 0, .int .i64 0, .int .i64 0, .bool false, .slice none 0 0, .slice none 0 0, .int .i64 0, .int .i64 0, .int .i64 0, .int .i64 0, .int .i64 0, .int .i64 0, .int .i64 0, .int .i64 0, .int .i64 0, .int .i64 0, .int .i64 0, .int .i64 0, .slice none 0 0, .slice none 0 0, .bool false], nro v101 NC_L_int_35 r99.1.Stages, row v102 4 (r99.1.Orders.map S_api_Order.enc), box b103 [.int .i64 r99.1.Base, .int .i64 r99.1.Done, .int .i64 r99.1.Serial, .bool r99.1.Stopped, v101, v102]] (qv4 rfl rfl rfl rfl) (by decide) rfl ?_
     refine run_region' ?_
     refine oy rfl rfl (y_load_boxagg (c := [.int .i64 w_0.F.Base, .int .i64 w_0.F.Done, .int .i64 w_0.F.Serial, .bool w_0.F.Stopped, w_0_F_Stagesv, w_0_F_Ordersv, .int .i64 w_0.Nodes.a0_.Site, .int .i64 w_0.Nodes.a0_.Version, .int .i64 w_0.Nodes.a0_.Serial, .int .i64 w_0.Nodes.a1_.Site, .int .i64 w_0.Nodes.a1_.Version, .int .i64 w_0.Nodes.a1_.Serial, .int .i64 w_0.Nodes.a2_.Site, .int .i64 w_0.Nodes.a2_.Version, .int .i64 w_0.Nodes.a2_.Serial, .int .i64 w_0.Nodes.a3_.Site, .int .i64 w_0.Nodes.a3_.Version, .int .i64 w_0.Nodes.a3_.Serial, w_0_Sentv, w_0_Toldv, .bool w_0.Bad]) 4 Try.isAgg65 Try.sizeOf65 rfl rfl rfl) ?_
     refine oy rfl rfl (y_load_boxagg (c := [.int .i64 r99.1.Base, .int .i64 r99.1.Done, .int .i64 r99.1.Serial, .bool r99.1.Stopped, v101, v102]) 8 Try.isAgg59 Try.sizeOf59 rfl rfl rfl) ?_
     refine oy rfl rfl (y_move rfl) ?_
     refine ops_turn (Go.Abs.freeze 7 rfl) ?_
     obtain ⟨r106, hr107, h⟩ := obind_some h
     refine ot rfl rfl (t_callx (vs := [.agg #[.int .i64 w_0.F.Base, .int .i64 w_0.F.Done, .int .i64 w_0.F.Serial, .bool w_0.F.Stopped, w_0_F_Stagesv, w_0_F_Ordersv, .int .i64 w_0.Nodes.a0_.Site, .int .i64 w_0.Nodes.a0_.Version, .int .i64 w_0.Nodes.a0_.Serial, .int .i64 w_0.Nodes.a1_.Site, .int .i64 w_0.Nodes.a1_.Version, .int .i64 w_0.Nodes.a1_.Serial, .int .i64 w_0.Nodes.a2_.Site, .int .i64 w_0.Nodes.a2_.Version, .int .i64 w_0.Nodes.a2_.Serial, .int .i64 w_0.Nodes.a3_.Site, .int .i64 w_0.Nodes.a3_.Version, .int .i64 w_0.Nodes.a3_.Serial, w_0_Sentv, w_0_Toldv, .bool w_0.Bad], .agg #[.int .i64 r99.1.Base, .int .i64 r99.1.Done, .int .i64 r99.1.Serial, .bool r99.1.Stopped, v101, v102], .int .i64 r99.2]) (cs := []) [(0, 0), (1, 0), (2, 0), (3, 0), (6, 0), (7, 0)] rfl Try.call50 rfl (law42_change_ok w_0 r99.1 r99.2 w_0_F_Stagesv w_0_F_Ordersv w_0_Sentv w_0_Toldv v101 v102 hr107) (showsX_view 0 rfl views_nro (showsX_view 1 rfl views_ro (showsX_view 2 rfl views_ro (showsX_view 3 rfl views_ro (showsX_view 6 rfl views_nro (showsX_view 7 rfl views_ro showsX_nil)))))) rfl (.inl rfl)) ?_
     rintro _ _ ⟨_, ⟨v108, v109, v110, v111, rfl, rfl⟩, rfl⟩
     refine ops_slcN 9 rfl readsN_ro (fun hs112 hs112o => ?_)
     refine ops_slc 10 rfl reads_ro (fun hs113 hs113o => ?_)
     refine ops_slc 11 rfl reads_ro (fun hs114 hs114o => ?_)
     refine ops_slc 12 rfl reads_ro (fun hs115 hs115o => ?_)
     refine ot rfl rfl (t_store 5 Try.sizeOf65 rfl rfl rfl rfl (by simp [Value.cells, boxP]) (allL_cons rfl (allL_cons rfl (allL_cons rfl (allL_cons rfl (allL_cons hs112o (allL_cons hs113o (allL_cons rfl (allL_cons rfl (allL_cons rfl (allL_cons rfl (allL_cons rfl (allL_cons rfl (allL_cons rfl (allL_cons rfl (allL_cons rfl (allL_cons rfl (allL_cons rfl (allL_cons rfl (allL_cons hs114o (allL_cons hs115o (allL_cons rfl (allL_nil))))))))))))))))))))))) ?_
     rintro _ _ ⟨rfl, rfl⟩
     refine ops_turn (retell 5 (g := box b3 [.int .i64 r106.F.Base, .int .i64 r106.F.Done, .int .i64 r106.F.Serial, .bool r106.F.Stopped, v108, v109, .int .i64 r106.Nodes.a0_.Site, .int .i64 r106.Nodes.a0_.Version, .int .i64 r106.Nodes.a0_.Serial, .int .i64 r106.Nodes.a1_.Site, .int .i64 r106.Nodes.a1_.Version, .int .i64 r106.Nodes.a1_.Serial, .int .i64 r106.Nodes.a2_.Site, .int .i64 r106.Nodes.a2_.Version, .int .i64 r106.Nodes.a2_.Serial, .int .i64 r106.Nodes.a3_.Site, .int .i64 r106.Nodes.a3_.Version, .int .i64 r106.Nodes.a3_.Serial, v110, v111, .bool r106.Bad]) rfl (by kernel_rfl)) ?_
     refine ops_nil ?_
     refine goes_code ?_
     refine run_ret ?_
     obtain rfl := some_eq h
     obtain rfl := after_stop ho30
     refine fin_res [.cell 4 65] [.agg #[.int .i64 r106.F.Base, .int .i64 r106.F.Done, .int .i64 r106.F.Serial, .bool r106.F.Stopped, v108, v109, .int .i64 r106.Nodes.a0_.Site, .int .i64 r106.Nodes.a0_.Version, .int .i64 r106.Nodes.a0_.Serial, .int .i64 r106.Nodes.a1_.Site, .int .i64 r106.Nodes.a1_.Version, .int .i64 r106.Nodes.a1_.Serial, .int .i64 r106.Nodes.a2_.Site, .int .i64 r106.Nodes.a2_.Version, .int .i64 r106.Nodes.a2_.Serial, .int .i64 r106.Nodes.a3_.Site, .int .i64 r106.Nodes.a3_.Version, .int .i64 r106.Nodes.a3_.Serial, v110, v111, .bool r106.Bad]] [9, 10, 11, 12] [nro v108 NC_L_int_35 r106.F.Stages, ro v109 4 (r106.F.Orders.map S_api_Order.enc), ro v110 3 (r106.Sent.map S_api_Node.enc), ro v111 3 (r106.Told.map S_api_Node.enc)] Try.results22 rfl (rescons (res_box 5 Try.isAgg65 Try.sizeOf65 rfl rfl rfl) resnil) (by decide) rfl ?_
     exact ⟨_, _, _, _, rfl, rfl⟩
    ·replace h := cond_f h hc98
     refine run_seq ?_
     refine run_region' ?_
     refine oy rfl rfl (y_eql rfl rfl) ?_
     refine oy rfl rfl (y_assign rfl) ?_
     refine ops_nil ?_
     refine goes_code ?_
     refine run_cond (decide ((a_1.Kind.tmod 9) = 3)) rfl (fun hc116 => ?_) (fun hc116 => ?_)
     ·replace h := cond_t h hc116
      refine run_seq ?_
      refine run_weak [(2, boxP b1 0), (4, boxP b3 0), (5, .int .i64 (IntKind.i64.wrap a_1.N))] [0, 1, 2, 3, 4, 5] [nro w_0_F_Stagesv NC_L_int_35 w_0.F.Stages, ro w_0_F_Ordersv 4 (w_0.F.Orders.map S_api_Order.enc), ro w_0_Sentv 3 (w_0.Sent.map S_api_Node.enc), ro w_0_Toldv 3 (w_0.Told.map S_api_Node.enc), box b1 [.int .i64 w_0.F.Base, .int .i64 w_0.F.Done, .int .i64 w_0.F.Serial, .bool w_0.F.Stopped, w_0_F_Stagesv, w_0_F_Ordersv, .int .i64 w_0.Nodes.a0_.Site, .int .i64 w_0.Nodes.a0_.Version, .int .i64 w_0.Nodes.a0_.Serial, .int .i64 w_0.Nodes.a1_.Site, .int .i64 w_0.Nodes.a1_.Version, .int .i64 w_0.Nodes.a1_.Serial, .int .i64 w_0.Nodes.a2_.Site, .int .i64 w_0.Nodes.a2_.Version, .int .i64 w_0.Nodes.a2_.Serial, .int .i64 w_0.Nodes.a3_.Site, .int .i64 w_0.Nodes.a3_.Version, .int .i64 w_0.Nodes.a3_.Serial, w_0_Sentv, w_0_Toldv, .bool w_0.Bad], box b3 [.int .i64 0, .int .i64 0, .int .i64 0, .bool false, .slice none 0 0, .slice none 0 0, .int .i64 0, .int .i64 0, .int .i64 0, .int .i64 0, .int .i64 0, .int .i64 0, .int .i64 0, .int .i64 0, .int .i64 0, .int .i64 0, .int .i64 0, .int .i64 0, .slice none 0 0, .slice none 0 0, .bool false]] (qv3 rfl rfl rfl) (by decide) rfl ?_
      refine run_region' ?_
      refine oy rfl rfl (y_fieldAddr_box (sz := 5) Try.runUnderlying65 rfl Try.sizeOf59 rfl) ?_
      refine oy rfl rfl (y_load_boxagg (c := [.int .i64 w_0.F.Base, .int .i64 w_0.F.Done, .int .i64 w_0.F.Serial, .bool w_0.F.Stopped, w_0_F_Stagesv, w_0_F_Ordersv]) 4 Try.isAgg59 Try.sizeOf59 rfl rfl rfl) ?_
      refine oy rfl rfl (y_move rfl) ?_
      refine oy rfl rfl (y_rem rfl rfl (by decide)) ?_
      refine oy rfl rfl (y_eql rfl rfl) ?_
      obtain ⟨r117, hr118, h⟩ := obind_some h
      refine ot rfl rfl (t_callx (vs := [.agg #[.int .i64 w_0.F.Base, .int .i64 w_0.F.Done, .int .i64 w_0.F.Serial, .bool w_0.F.Stopped, w_0_F_Stagesv, w_0_F_Ordersv], .bool (decide (((IntKind.i64.wrap a_1.N).tmod 4) = 0))]) (cs := []) [(0, 0), (1, 0)] rfl Try.call24 rfl (topo_Stop_ok n w_0.F (decide (((IntKind.i64.wrap a_1.N).tmod 4) = 0)) w_0_F_Stagesv w_0_F_Ordersv hr118) (showsX_view 0 rfl views_nro (showsX_view 1 rfl views_ro showsX_nil)) rfl (.inl rfl)) ?_
      rintro _ _ ⟨_, ⟨v119, v120, rfl, rfl⟩, rfl⟩
      refine oy rfl rfl (y_move rfl) ?_
      refine oy rfl rfl (y_extract rfl rfl) ?_
      refine oy rfl rfl (y_extract rfl rfl) ?_
      refine ot rfl rfl (t_alloc Try.zeroValue59) ?_
      rintro _ _ ⟨b121, rfl, rfl⟩
      refine ops_slcN 6 rfl readsN_ro (fun hs122 hs122o => ?_)
      refine ops_slc 7 rfl reads_row (fun hs123 hs123o => ?_)
      refine ot rfl rfl (t_store 8 Try.sizeOf59 rfl rfl rfl rfl (by simp [Value.cells, boxP]) (allL_cons rfl (allL_cons rfl (allL_cons rfl (allL_cons rfl (allL_cons hs122o (allL_cons hs123o (allL_nil)))))))) ?_
      rintro _ _ ⟨rfl, rfl⟩
      refine ops_turn (retell 8 (g := box b121 [.int .i64 r117.1.Base, .int .i64 r117.1.Done, .int .i64 r117.1.Serial, .bool r117.1.Stopped, v119, v120]) rfl rfl) ?_
      refine oy rfl rfl (y_assign rfl) ?_
      refine ops_nil ?_
      refine goes_code ?_
      refine run_seq ?_
      refine run_weak [(2, boxP b1 0), (4, boxP b3 0), (12, boxP b121 0), (13, .int .i64 r117.2)] [0, 1, 2, 3, 4, 5, 6, 7, 8] [nro w_0_F_Stagesv NC_L_int_35 w_0.F.Stages, ro w_0_F_Ordersv 4 (w_0.F.Orders.map S_api_Order.enc), ro w_0_Sentv 3 (w_0.Sent.map S_api_Node.enc), ro w_0_Toldv 3 (w_0.Told.map S_api_Node.enc), box b1 [.int .i64 w_0.F.Base, .int .i64 w_0.F.Done, .int .i64 w_0.F.Serial, .bool w_0.F.Stopped, w_0_F_Stagesv, w_0_F_Ordersv, .int .i64 w_0.Nodes.a0_.Site, .int .i64 w_0.Nodes.a0_.Version, .int .i64 w_0.Nodes.a0_.Serial, .int .i64 w_0.Nodes.a1_.Site, .int .i64 w_0.Nodes.a1_.Version, .int .i64 w_0.Nodes.a1_.Serial, .int .i64 w_0.Nodes.a2_.Site, .int .i64 w_0.Nodes.a2_.Version, .int .i64 w_0.Nodes.a2_.Serial, .int .i64 w_0.Nodes.a3_.Site, .int .i64 w_0.Nodes.a3_.Version, .int .i64 w_0.Nodes.a3_.Serial, w_0_Sentv, w_0_Toldv, .bool w_0.Bad], box b3 [.int .i64 0, .int .i64 0, .int .i64 0, .bool false, .slice none 0 0, .slice none 0 0, .int .i64 0, .int .i64 0, .int .i64 0, .int .i64 0, .int .i64 0, .int .i64 0, .int .i64 0, .int .i64 0, .int .i64 0, .int .i64 0, .int .i64 0, .int .i64 0, .slice none 0 0, .slice none 0 0, .bool false], nro v119 NC_L_int_35 r117.1.Stages, row v120 4 (r117.1.Orders.map S_api_Order.enc), box b121 [.int .i64 r117.1.Base, .int .i64 r117.1.Done, .int .i64 r117.1.Serial, .bool r117.1.Stopped, v119, v120]] (qv4 rfl rfl rfl rfl) (by decide) rfl ?_
      refine run_region' ?_
      refine oy rfl rfl (y_load_boxagg (c := [.int .i64 w_0.F.Base, .int .i64 w_0.F.Done, .int .i64 w_0.F.Serial, .bool w_0.F.Stopped, w_0_F_Stagesv, w_0_F_Ordersv, .int .i64 w_0.Nodes.a0_.Site, .int .i64 w_0.Nodes.a0_.Version, .int .i64 w_0.Nodes.a0_.Serial, .int .i64 w_0.Nodes.a1_.Site, .int .i64 w_0.Nodes.a1_.Version, .int .i64 w_0.Nodes.a1_.Serial, .int .i64 w_0.Nodes.a2_.Site, .int .i64 w_0.Nodes.a2_.Version, .int .i64 w_0.Nodes.a2_.Serial, .int .i64 w_0.Nodes.a3_.Site, .int .i64 w_0.Nodes.a3_.Version, .int .i64 w_0.Nodes.a3_.Serial, w_0_Sentv, w_0_Toldv, .bool w_0.Bad]) 4 Try.isAgg65 Try.sizeOf65 rfl rfl rfl) ?_
      refine oy rfl rfl (y_load_boxagg (c := [.int .i64 r117.1.Base, .int .i64 r117.1.Done, .int .i64 r117.1.Serial, .bool r117.1.Stopped, v119, v120]) 8 Try.isAgg59 Try.sizeOf59 rfl rfl rfl) ?_
      refine oy rfl rfl (y_move rfl) ?_
      refine ops_turn (Go.Abs.freeze 7 rfl) ?_
      obtain ⟨r124, hr125, h⟩ := obind_some h
      refine ot rfl rfl (t_callx (vs := [.agg #[.int .i64 w_0.F.Base, .int .i64 w_0.F.Done, .int .i64 w_0.F.Serial, .bool w_0.F.Stopped, w_0_F_Stagesv, w_0_F_Ordersv, .int .i64 w_0.Nodes.a0_.Site, .int .i64 w_0.Nodes.a0_.Version, .int .i64 w_0.Nodes.a0_.Serial, .int .i64 w_0.Nodes.a1_.Site, .int .i64 w_0.Nodes.a1_.Version, .int .i64 w_0.Nodes.a1_.Serial, .int .i64 w_0.Nodes.a2_.Site, .int .i64 w_0.Nodes.a2_.Version, .int .i64 w_0.Nodes.a2_.Serial, .int .i64 w_0.Nodes.a3_.Site, .int .i64 w_0.Nodes.a3_.Version, .int .i64 w_0.Nodes.a3_.Serial, w_0_Sentv, w_0_Toldv, .bool w_0.Bad], .agg #[.int .i64 r117.1.Base, .int .i64 r117.1.Done, .int .i64 r117.1.Serial, .bool r117.1.Stopped, v119, v120], .int .i64 r117.2]) (cs := []) [(0, 0), (1, 0), (2, 0), (3, 0), (6, 0), (7, 0)] rfl Try.call50 rfl (law42_change_ok w_0 r117.1 r117.2 w_0_F_Stagesv w_0_F_Ordersv w_0_Sentv w_0_Toldv v119 v120 hr125) (showsX_view 0 rfl views_nro (showsX_view 1 rfl views_ro (showsX_view 2 rfl views_ro (showsX_view 3 rfl views_ro (showsX_view 6 rfl views_nro (showsX_view 7 rfl views_ro showsX_nil)))))) rfl (.inl rfl)) ?_
      rintro _ _ ⟨_, ⟨v126, v127, v128, v129, rfl, rfl⟩, rfl⟩
      refine ops_slcN 9 rfl readsN_ro (fun hs130 hs130o => ?_)
      refine ops_slc 10 rfl reads_ro (fun hs131 hs131o => ?_)
      refine ops_slc 11 rfl reads_ro (fun hs132 hs132o => ?_)
      refine ops_slc 12 rfl reads_ro (fun hs133 hs133o => ?_)
      refine ot rfl rfl (t_store 5 Try.sizeOf65 rfl rfl rfl rfl (by simp [Value.cells, boxP]) (allL_cons rfl (allL_cons rfl (allL_cons rfl (allL_cons rfl (allL_cons hs130o (allL_cons hs131o (allL_cons rfl (allL_cons rfl (allL_cons rfl (allL_cons rfl (allL_cons rfl (allL_cons rfl (allL_cons rfl (allL_cons rfl (allL_cons rfl (allL_cons rfl (allL_cons rfl (allL_cons rfl (allL_cons hs132o (allL_cons hs133o (allL_cons rfl (allL_nil))))))))))))))))))))))) ?_
      rintro _ _ ⟨rfl, rfl⟩
      refine ops_turn (retell 5 (g := box b3 [.int .i64 r124.F.Base, .int .i64 r124.F.Done, .int .i64 r124.F.Serial, .bool r124.F.Stopped, v126, v127, .int .i64 r124.Nodes.a0_.Site, .int .i64 r124.Nodes.a0_.Version, .int .i64 r124.Nodes.a0_.Serial, .int .i64 r124.Nodes.a1_.Site, .int .i64 r124.Nodes.a1_.Version, .int .i64 r124.Nodes.a1_.Serial, .int .i64 r124.Nodes.a2_.Site, .int .i64 r124.Nodes.a2_.Version, .int .i64 r124.Nodes.a2_.Serial, .int .i64 r124.Nodes.a3_.Site, .int .i64 r124.Nodes.a3_.Version, .int .i64 r124.Nodes.a3_.Serial, v128, v129, .bool r124.Bad]) rfl (by kernel_rfl)) ?_
      refine ops_nil ?_
      refine goes_code ?_
      refine run_ret ?_
      obtain rfl := some_eq h
      obtain rfl := after_stop ho30
      refine fin_res [.cell 4 65] [.agg #[.int .i64 r124.F.Base, .int .i64 r124.F.Done, .int .i64 r124.F.Serial, .bool r124.F.Stopped, v126, v127, .int .i64 r124.Nodes.a0_.Site, .int .i64 r124.Nodes.a0_.Version, .int .i64 r124.Nodes.a0_.Serial, .int .i64 r124.Nodes.a1_.Site, .int .i64 r124.Nodes.a1_.Version, .int .i64 r124.Nodes.a1_.Serial, .int .i64 r124.Nodes.a2_.Site, .int .i64 r124.Nodes.a2_.Version, .int .i64 r124.Nodes.a2_.Serial, .int .i64 r124.Nodes.a3_.Site, .int .i64 r124.Nodes.a3_.Version, .int .i64 r124.Nodes.a3_.Serial, v128, v129, .bool r124.Bad]] [9, 10, 11, 12] [nro v126 NC_L_int_35 r124.F.Stages, ro v127 4 (r124.F.Orders.map S_api_Order.enc), ro v128 3 (r124.Sent.map S_api_Node.enc), ro v129 3 (r124.Told.map S_api_Node.enc)] Try.results22 rfl (rescons (res_box 5 Try.isAgg65 Try.sizeOf65 rfl rfl rfl) resnil) (by decide) rfl ?_
      exact ⟨_, _, _, _, rfl, rfl⟩
     ·replace h := cond_f h hc116
      refine run_seq ?_
      refine run_weak [(2, boxP b1 0), (4, boxP b3 0), (5, .int .i64 (IntKind.i64.wrap a_1.N)), (27, .int .u8 (a_1.Kind.tmod 9))] [0, 1, 2, 3, 4, 5] [nro w_0_F_Stagesv NC_L_int_35 w_0.F.Stages, ro w_0_F_Ordersv 4 (w_0.F.Orders.map S_api_Order.enc), ro w_0_Sentv 3 (w_0.Sent.map S_api_Node.enc), ro w_0_Toldv 3 (w_0.Told.map S_api_Node.enc), box b1 [.int .i64 w_0.F.Base, .int .i64 w_0.F.Done, .int .i64 w_0.F.Serial, .bool w_0.F.Stopped, w_0_F_Stagesv, w_0_F_Ordersv, .int .i64 w_0.Nodes.a0_.Site, .int .i64 w_0.Nodes.a0_.Version, .int .i64 w_0.Nodes.a0_.Serial, .int .i64 w_0.Nodes.a1_.Site, .int .i64 w_0.Nodes.a1_.Version, .int .i64 w_0.Nodes.a1_.Serial, .int .i64 w_0.Nodes.a2_.Site, .int .i64 w_0.Nodes.a2_.Version, .int .i64 w_0.Nodes.a2_.Serial, .int .i64 w_0.Nodes.a3_.Site, .int .i64 w_0.Nodes.a3_.Version, .int .i64 w_0.Nodes.a3_.Serial, w_0_Sentv, w_0_Toldv, .bool w_0.Bad], box b3 [.int .i64 0, .int .i64 0, .int .i64 0, .bool false, .slice none 0 0, .slice none 0 0, .int .i64 0, .int .i64 0, .int .i64 0, .int .i64 0, .int .i64 0, .int .i64 0, .int .i64 0, .int .i64 0, .int .i64 0, .int .i64 0, .int .i64 0, .int .i64 0, .slice none 0 0, .slice none 0 0, .bool false]] (qv4 rfl rfl rfl rfl) (by decide) rfl ?_
      refine run_region' ?_
      refine oy rfl rfl (y_eql rfl rfl) ?_
      refine oy rfl rfl (y_assign rfl) ?_
      refine ops_nil ?_
      refine goes_code ?_
      refine run_cond (decide ((a_1.Kind.tmod 9) = 4)) rfl (fun hc134 => ?_) (fun hc134 => ?_)
      ·replace h := cond_t h hc134
       refine run_seq ?_
       refine run_region' ?_
       refine oy rfl rfl (y_fieldAddr_box (sz := 5) Try.runUnderlying65 rfl Try.sizeOf59 rfl) ?_
       refine oy rfl rfl (y_load_boxagg (c := [.int .i64 w_0.F.Base, .int .i64 w_0.F.Done, .int .i64 w_0.F.Serial, .bool w_0.F.Stopped, w_0_F_Stagesv, w_0_F_Ordersv]) 4 Try.isAgg59 Try.sizeOf59 rfl rfl rfl) ?_
       obtain ⟨r135, hr136, h⟩ := obind_some h
       refine ot rfl rfl (t_callx (vs := [.agg #[.int .i64 w_0.F.Base, .int .i64 w_0.F.Done, .int .i64 w_0.F.Serial, .bool w_0.F.Stopped, w_0_F_Stagesv, w_0_F_Ordersv]]) (cs := []) [(0, 0), (1, 0)] rfl Try.call31 rfl (topo_End_ok n w_0.F w_0_F_Stagesv w_0_F_Ordersv hr136) (showsX_view 0 rfl views_nro (showsX_view 1 rfl views_ro showsX_nil)) rfl (.inl rfl)) ?_
       rintro _ _ ⟨_, ⟨v137, v138, rfl, rfl⟩, rfl⟩
       refine oy rfl rfl (y_move rfl) ?_
       refine oy rfl rfl (y_extract rfl rfl) ?_
       refine oy rfl rfl (y_extract rfl rfl) ?_
       refine ot rfl rfl (t_alloc Try.zeroValue59) ?_
       rintro _ _ ⟨b139, rfl, rfl⟩
       refine ops_slcN 6 rfl readsN_ro (fun hs140 hs140o => ?_)
       refine ops_slc 7 rfl reads_row (fun hs141 hs141o => ?_)
       refine ot rfl rfl (t_store 8 Try.sizeOf59 rfl rfl rfl rfl (by simp [Value.cells, boxP]) (allL_cons rfl (allL_cons rfl (allL_cons rfl (allL_cons rfl (allL_cons hs140o (allL_cons hs141o (allL_nil)))))))) ?_
       rintro _ _ ⟨rfl, rfl⟩
       refine ops_turn (retell 8 (g := box b139 [.int .i64 r135.1.Base, .int .i64 r135.1.Done, .int .i64 r135.1.Serial, .bool r135.1.Stopped, v137, v138]) rfl rfl) ?_
       refine oy rfl rfl (y_assign rfl) ?_
       refine ops_nil ?_
       refine goes_code ?_
       refine run_seq ?_
       refine run_weak [(2, boxP b1 0), (4, boxP b3 0), (14, boxP b139 0), (15, .int .i64 r135.2)] [0, 1, 2, 3, 4, 5, 6, 7, 8] [nro w_0_F_Stagesv NC_L_int_35 w_0.F.Stages, ro w_0_F_Ordersv 4 (w_0.F.Orders.map S_api_Order.enc), ro w_0_Sentv 3 (w_0.Sent.map S_api_Node.enc), ro w_0_Toldv 3 (w_0.Told.map S_api_Node.enc), box b1 [.int .i64 w_0.F.Base, .int .i64 w_0.F.Done, .int .i64 w_0.F.Serial, .bool w_0.F.Stopped, w_0_F_Stagesv, w_0_F_Ordersv, .int .i64 w_0.Nodes.a0_.Site, .int .i64 w_0.Nodes.a0_.Version, .int .i64 w_0.Nodes.a0_.Serial, .int .i64 w_0.Nodes.a1_.Site, .int .i64 w_0.Nodes.a1_.Version, .int .i64 w_0.Nodes.a1_.Serial, .int .i64 w_0.Nodes.a2_.Site, .int .i64 w_0.Nodes.a2_.Version, .int .i64 w_0.Nodes.a2_.Serial, .int .i64 w_0.Nodes.a3_.Site, .int .i64 w_0.Nodes.a3_.Version, .int .i64 w_0.Nodes.a3_.Serial, w_0_Sentv, w_0_Toldv, .bool w_0.Bad], box b3 [.int .i64 0, .int .i64 0, .int .i64 0, .bool false, .slice none 0 0, .slice none 0 0, .int .i64 0, .int .i64 0, .int .i64 0, .int .i64 0, .int .i64 0, .int .i64 0, .int .i64 0, .int .i64 0, .int .i64 0, .int .i64 0, .int .i64 0, .int .i64 0, .slice none 0 0, .slice none 0 0, .bool false], nro v137 NC_L_int_35 r135.1.Stages, row v138 4 (r135.1.Orders.map S_api_Order.enc), box b139 [.int .i64 r135.1.Base, .int .i64 r135.1.Done, .int .i64 r135.1.Serial, .bool r135.1.Stopped, v137, v138]] (qv4 rfl rfl rfl rfl) (by decide) rfl ?_
       refine run_region' ?_
       refine oy rfl rfl (y_load_boxagg (c := [.int .i64 w_0.F.Base, .int .i64 w_0.F.Done, .int .i64 w_0.F.Serial, .bool w_0.F.Stopped, w_0_F_Stagesv, w_0_F_Ordersv, .int .i64 w_0.Nodes.a0_.Site, .int .i64 w_0.Nodes.a0_.Version, .int .i64 w_0.Nodes.a0_.Serial, .int .i64 w_0.Nodes.a1_.Site, .int .i64 w_0.Nodes.a1_.Version, .int .i64 w_0.Nodes.a1_.Serial, .int .i64 w_0.Nodes.a2_.Site, .int .i64 w_0.Nodes.a2_.Version, .int .i64 w_0.Nodes.a2_.Serial, .int .i64 w_0.Nodes.a3_.Site, .int .i64 w_0.Nodes.a3_.Version, .int .i64 w_0.Nodes.a3_.Serial, w_0_Sentv, w_0_Toldv, .bool w_0.Bad]) 4 Try.isAgg65 Try.sizeOf65 rfl rfl rfl) ?_
       refine oy rfl rfl (y_load_boxagg (c := [.int .i64 r135.1.Base, .int .i64 r135.1.Done, .int .i64 r135.1.Serial, .bool r135.1.Stopped, v137, v138]) 8 Try.isAgg59 Try.sizeOf59 rfl rfl rfl) ?_
       refine oy rfl rfl (y_move rfl) ?_
       refine ops_turn (Go.Abs.freeze 7 rfl) ?_
       obtain ⟨r142, hr143, h⟩ := obind_some h
       refine ot rfl rfl (t_callx (vs := [.agg #[.int .i64 w_0.F.Base, .int .i64 w_0.F.Done, .int .i64 w_0.F.Serial, .bool w_0.F.Stopped, w_0_F_Stagesv, w_0_F_Ordersv, .int .i64 w_0.Nodes.a0_.Site, .int .i64 w_0.Nodes.a0_.Version, .int .i64 w_0.Nodes.a0_.Serial, .int .i64 w_0.Nodes.a1_.Site, .int .i64 w_0.Nodes.a1_.Version, .int .i64 w_0.Nodes.a1_.Serial, .int .i64 w_0.Nodes.a2_.Site, .int .i64 w_0.Nodes.a2_.Version, .int .i64 w_0.Nodes.a2_.Serial, .int .i64 w_0.Nodes.a3_.Site, .int .i64 w_0.Nodes.a3_.Version, .int .i64 w_0.Nodes.a3_.Serial, w_0_Sentv, w_0_Toldv, .bool w_0.Bad], .agg #[.int .i64 r135.1.Base, .int .i64 r135.1.Done, .int .i64 r135.1.Serial, .bool r135.1.Stopped, v137, v138], .int .i64 r135.2]) (cs := []) [(0, 0), (1, 0), (2, 0), (3, 0), (6, 0), (7, 0)] rfl Try.call50 rfl (law42_change_ok w_0 r135.1 r135.2 w_0_F_Stagesv w_0_F_Ordersv w_0_Sentv w_0_Toldv v137 v138 hr143) (showsX_view 0 rfl views_nro (showsX_view 1 rfl views_ro (showsX_view 2 rfl views_ro (showsX_view 3 rfl views_ro (showsX_view 6 rfl views_nro (showsX_view 7 rfl views_ro showsX_nil)))))) rfl (.inl rfl)) ?_
       rintro _ _ ⟨_, ⟨v144, v145, v146, v147, rfl, rfl⟩, rfl⟩
       refine ops_slcN 9 rfl readsN_ro (fun hs148 hs148o => ?_)
       refine ops_slc 10 rfl reads_ro (fun hs149 hs149o => ?_)
       refine ops_slc 11 rfl reads_ro (fun hs150 hs150o => ?_)
       refine ops_slc 12 rfl reads_ro (fun hs151 hs151o => ?_)
       refine ot rfl rfl (t_store 5 Try.sizeOf65 rfl rfl rfl rfl (by simp [Value.cells, boxP]) (allL_cons rfl (allL_cons rfl (allL_cons rfl (allL_cons rfl (allL_cons hs148o (allL_cons hs149o (allL_cons rfl (allL_cons rfl (allL_cons rfl (allL_cons rfl (allL_cons rfl (allL_cons rfl (allL_cons rfl (allL_cons rfl (allL_cons rfl (allL_cons rfl (allL_cons rfl (allL_cons rfl (allL_cons hs150o (allL_cons hs151o (allL_cons rfl (allL_nil))))))))))))))))))))))) ?_
       rintro _ _ ⟨rfl, rfl⟩
       refine ops_turn (retell 5 (g := box b3 [.int .i64 r142.F.Base, .int .i64 r142.F.Done, .int .i64 r142.F.Serial, .bool r142.F.Stopped, v144, v145, .int .i64 r142.Nodes.a0_.Site, .int .i64 r142.Nodes.a0_.Version, .int .i64 r142.Nodes.a0_.Serial, .int .i64 r142.Nodes.a1_.Site, .int .i64 r142.Nodes.a1_.Version, .int .i64 r142.Nodes.a1_.Serial, .int .i64 r142.Nodes.a2_.Site, .int .i64 r142.Nodes.a2_.Version, .int .i64 r142.Nodes.a2_.Serial, .int .i64 r142.Nodes.a3_.Site, .int .i64 r142.Nodes.a3_.Version, .int .i64 r142.Nodes.a3_.Serial, v146, v147, .bool r142.Bad]) rfl (by kernel_rfl)) ?_
       refine ops_nil ?_
       refine goes_code ?_
       refine run_ret ?_
       obtain rfl := some_eq h
       obtain rfl := after_stop ho30
       refine fin_res [.cell 4 65] [.agg #[.int .i64 r142.F.Base, .int .i64 r142.F.Done, .int .i64 r142.F.Serial, .bool r142.F.Stopped, v144, v145, .int .i64 r142.Nodes.a0_.Site, .int .i64 r142.Nodes.a0_.Version, .int .i64 r142.Nodes.a0_.Serial, .int .i64 r142.Nodes.a1_.Site, .int .i64 r142.Nodes.a1_.Version, .int .i64 r142.Nodes.a1_.Serial, .int .i64 r142.Nodes.a2_.Site, .int .i64 r142.Nodes.a2_.Version, .int .i64 r142.Nodes.a2_.Serial, .int .i64 r142.Nodes.a3_.Site, .int .i64 r142.Nodes.a3_.Version, .int .i64 r142.Nodes.a3_.Serial, v146, v147, .bool r142.Bad]] [9, 10, 11, 12] [nro v144 NC_L_int_35 r142.F.Stages, ro v145 4 (r142.F.Orders.map S_api_Order.enc), ro v146 3 (r142.Sent.map S_api_Node.enc), ro v147 3 (r142.Told.map S_api_Node.enc)] Try.results22 rfl (rescons (res_box 5 Try.isAgg65 Try.sizeOf65 rfl rfl rfl) resnil) (by decide) rfl ?_
       exact ⟨_, _, _, _, rfl, rfl⟩
      ·replace h := cond_f h hc134
       refine run_seq ?_
       refine run_region' ?_
       refine oy rfl rfl (y_eql rfl rfl) ?_
       refine oy rfl rfl (y_assign rfl) ?_
       refine ops_nil ?_
       refine goes_code ?_
       refine run_cond (decide ((a_1.Kind.tmod 9) = 5)) rfl (fun hc152 => ?_) (fun hc152 => ?_)
       ·replace h := cond_t h hc152
        refine run_seq ?_
        refine run_region' ?_
        refine oy rfl rfl (y_fieldAddr_box (sz := 5) Try.runUnderlying65 rfl Try.sizeOf59 rfl) ?_
        refine oy rfl rfl (y_load_boxagg (c := [.int .i64 w_0.F.Base, .int .i64 w_0.F.Done, .int .i64 w_0.F.Serial, .bool w_0.F.Stopped, w_0_F_Stagesv, w_0_F_Ordersv]) 4 Try.isAgg59 Try.sizeOf59 rfl rfl rfl) ?_
        refine oy rfl rfl (y_move rfl) ?_
        refine oy rfl rfl (y_rem rfl rfl (by decide)) ?_
        obtain ⟨r153, hr154, h⟩ := obind_some h
        refine ot rfl rfl (t_callx (vs := [.agg #[.int .i64 w_0.F.Base, .int .i64 w_0.F.Done, .int .i64 w_0.F.Serial, .bool w_0.F.Stopped, w_0_F_Stagesv, w_0_F_Ordersv], .int .i64 ((IntKind.i64.wrap a_1.N).tmod 4)]) (cs := []) [(0, 0), (1, 0)] rfl Try.call25 rfl (topo_OrderOf_ok n w_0.F ((IntKind.i64.wrap a_1.N).tmod 4) w_0_F_Stagesv w_0_F_Ordersv hr154) (showsX_view 0 rfl views_nro (showsX_view 1 rfl views_ro showsX_nil)) rfl (.inl rfl)) ?_
        rintro _ _ ⟨_, ⟨rfl, rfl⟩, rfl⟩
        refine oy rfl rfl (y_move rfl) ?_
        refine oy rfl rfl (y_extract rfl rfl) ?_
        refine oy rfl rfl (y_extract rfl rfl) ?_
        refine ot rfl rfl (t_alloc Try.zeroValue61) ?_
        rintro _ _ ⟨b155, rfl, rfl⟩
        refine ot rfl rfl (t_store 6 Try.sizeOf61 rfl rfl rfl rfl (by simp [Value.cells, boxP]) (by simp [Value.cells, Value.oneCell', boxP])) ?_
        rintro _ _ ⟨rfl, rfl⟩
        refine ops_turn (retell 6 (g := box b155 [.int .i64 r153.1.Site, .int .i64 r153.1.Version, .int .i64 r153.1.Serial]) rfl rfl) ?_
        refine oy rfl rfl (y_assign rfl) ?_
        refine ops_nil ?_
        refine goes_code ?_
        refine run_seq ?_
        refine run_weak [(2, boxP b1 0), (4, boxP b3 0), (16, boxP b155 0), (17, .int .i64 r153.2)] [0, 1, 2, 3, 4, 5, 6] [nro w_0_F_Stagesv NC_L_int_35 w_0.F.Stages, ro w_0_F_Ordersv 4 (w_0.F.Orders.map S_api_Order.enc), ro w_0_Sentv 3 (w_0.Sent.map S_api_Node.enc), ro w_0_Toldv 3 (w_0.Told.map S_api_Node.enc), box b1 [.int .i64 w_0.F.Base, .int .i64 w_0.F.Done, .int .i64 w_0.F.Serial, .bool w_0.F.Stopped, w_0_F_Stagesv, w_0_F_Ordersv, .int .i64 w_0.Nodes.a0_.Site, .int .i64 w_0.Nodes.a0_.Version, .int .i64 w_0.Nodes.a0_.Serial, .int .i64 w_0.Nodes.a1_.Site, .int .i64 w_0.Nodes.a1_.Version, .int .i64 w_0.Nodes.a1_.Serial, .int .i64 w_0.Nodes.a2_.Site, .int .i64 w_0.Nodes.a2_.Version, .int .i64 w_0.Nodes.a2_.Serial, .int .i64 w_0.Nodes.a3_.Site, .int .i64 w_0.Nodes.a3_.Version, .int .i64 w_0.Nodes.a3_.Serial, w_0_Sentv, w_0_Toldv, .bool w_0.Bad], box b3 [.int .i64 0, .int .i64 0, .int .i64 0, .bool false, .slice none 0 0, .slice none 0 0, .int .i64 0, .int .i64 0, .int .i64 0, .int .i64 0, .int .i64 0, .int .i64 0, .int .i64 0, .int .i64 0, .int .i64 0, .int .i64 0, .int .i64 0, .int .i64 0, .slice none 0 0, .slice none 0 0, .bool false], box b155 [.int .i64 r153.1.Site, .int .i64 r153.1.Version, .int .i64 r153.1.Serial]] (qv4 rfl rfl rfl rfl) (by decide) rfl ?_
        obtain ⟨hr158, h⟩ := need_some h
        obtain ⟨hr161, h⟩ := need_some h
        refine run_drawany [nro w_0_F_Stagesv NC_L_int_35 w_0.F.Stages, ro w_0_F_Ordersv 4 (w_0.F.Orders.map S_api_Order.enc), ro w_0_Sentv 3 (w_0.Sent.map S_api_Node.enc), ro w_0_Toldv 3 (w_0.Told.map S_api_Node.enc), HA.emp, box b3 [.int .i64 0, .int .i64 0, .int .i64 0, .bool false, .slice none 0 0, .slice none 0 0, .int .i64 0, .int .i64 0, .int .i64 0, .int .i64 0, .int .i64 0, .int .i64 0, .int .i64 0, .int .i64 0, .int .i64 0, .int .i64 0, .int .i64 0, .int .i64 0, .slice none 0 0, .slice none 0 0, .bool false], box b155 [.int .i64 r153.1.Site, .int .i64 r153.1.Version, .int .i64 r153.1.Serial]] (by kernel_rfl) ?_
        refine any_y 1 rfl (by kernel_rfl) (by kernel_rfl) (by kernel_rfl) (ss (ss (ss (ss (se (ss (ss (sn)))))))) (wn rfl) rfl (y_fieldAddr_box (sz := 0) Try.runUnderlying65 rfl Try.sizeOf63 rfl) ?_
        refine any_y 4 rfl (by kernel_rfl) (by kernel_rfl) (by kernel_rfl) (ss (ss (ss (ss (se (ss (ss (sn)))))))) (wn rfl) rfl (y_load_boxagg (c := [.int .i64 r153.1.Site, .int .i64 r153.1.Version, .int .i64 r153.1.Serial]) 6 Try.isAgg61 Try.sizeOf61 rfl rfl rfl) ?_
        refine any_cut2 #[true, true, true, true, true, true, true, true, true] 0 (Value × Value) (fun σ => [(2, boxP b1 0), (4, boxP b3 0), (17, .int .i64 r153.2)]) (fun σ => [nro w_0_F_Stagesv NC_L_int_35 w_0.F.Stages, ro w_0_F_Ordersv 4 (w_0.F.Orders.map S_api_Order.enc), ro w_0_Sentv 3 (w_0.Sent.map S_api_Node.enc), ro w_0_Toldv 3 (w_0.Told.map S_api_Node.enc), box b1 [.int .i64 w_0.F.Base, .int .i64 w_0.F.Done, .int .i64 w_0.F.Serial, .bool w_0.F.Stopped, w_0_F_Stagesv, w_0_F_Ordersv, .int .i64 w_0.Nodes.a0_.Site, .int .i64 w_0.Nodes.a0_.Version, .int .i64 w_0.Nodes.a0_.Serial, .int .i64 w_0.Nodes.a1_.Site, .int .i64 w_0.Nodes.a1_.Version, .int .i64 w_0.Nodes.a1_.Serial, .int .i64 w_0.Nodes.a2_.Site, .int .i64 w_0.Nodes.a2_.Version, .int .i64 w_0.Nodes.a2_.Serial, .int .i64 w_0.Nodes.a3_.Site, .int .i64 w_0.Nodes.a3_.Version, .int .i64 w_0.Nodes.a3_.Serial, σ.1, w_0_Toldv, .bool w_0.Bad], box b3 [.int .i64 0, .int .i64 0, .int .i64 0, .bool false, .slice none 0 0, .slice none 0 0, .int .i64 0, .int .i64 0, .int .i64 0, .int .i64 0, .int .i64 0, .int .i64 0, .int .i64 0, .int .i64 0, .int .i64 0, .int .i64 0, .int .i64 0, .int .i64 0, .slice none 0 0, .slice none 0 0, .bool false], box b155 [.int .i64 r153.1.Site, .int .i64 r153.1.Version, .int .i64 r153.1.Serial], row σ.1 3 (((([] : List S_api_Node) ++ w_0.Sent) ++ ([r153.1] : List S_api_Node)).map S_api_Node.enc), row σ.2 3 (([r153.1] : List S_api_Node).map S_api_Node.enc)]) ?_ (fun hK172 => ?_)
        ·rintro ⟨v170, v169⟩
         change AnyL _ _ _ _ _ (VF.of [(2, boxP b1 0), (4, boxP b3 0), (17, .int .i64 r153.2)]) [nro w_0_F_Stagesv NC_L_int_35 w_0.F.Stages, ro w_0_F_Ordersv 4 (w_0.F.Orders.map S_api_Order.enc), ro w_0_Sentv 3 (w_0.Sent.map S_api_Node.enc), ro w_0_Toldv 3 (w_0.Told.map S_api_Node.enc), box b1 [.int .i64 w_0.F.Base, .int .i64 w_0.F.Done, .int .i64 w_0.F.Serial, .bool w_0.F.Stopped, w_0_F_Stagesv, w_0_F_Ordersv, .int .i64 w_0.Nodes.a0_.Site, .int .i64 w_0.Nodes.a0_.Version, .int .i64 w_0.Nodes.a0_.Serial, .int .i64 w_0.Nodes.a1_.Site, .int .i64 w_0.Nodes.a1_.Version, .int .i64 w_0.Nodes.a1_.Serial, .int .i64 w_0.Nodes.a2_.Site, .int .i64 w_0.Nodes.a2_.Version, .int .i64 w_0.Nodes.a2_.Serial, .int .i64 w_0.Nodes.a3_.Site, .int .i64 w_0.Nodes.a3_.Version, .int .i64 w_0.Nodes.a3_.Serial, v170, w_0_Toldv, .bool w_0.Bad], box b3 [.int .i64 0, .int .i64 0, .int .i64 0, .bool false, .slice none 0 0, .slice none 0 0, .int .i64 0, .int .i64 0, .int .i64 0, .int .i64 0, .int .i64 0, .int .i64 0, .int .i64 0, .int .i64 0, .int .i64 0, .int .i64 0, .int .i64 0, .int .i64 0, .slice none 0 0, .slice none 0 0, .bool false], box b155 [.int .i64 r153.1.Site, .int .i64 r153.1.Version, .int .i64 r153.1.Serial], row v170 3 (((([] : List S_api_Node) ++ w_0.Sent) ++ ([r153.1] : List S_api_Node)).map S_api_Node.enc), row v169 3 (([r153.1] : List S_api_Node).map S_api_Node.enc)] _
         refine any_nil (by kernel_rfl) ?_
         refine goes_code ?_
         refine run_region' ?_
         refine oy rfl rfl (y_fieldAddr_box (sz := 0) Try.runUnderlying65 rfl Try.sizeOf4 rfl) ?_
         refine oy rfl rfl (y_load_box 4 Try.isAgg4 rfl rfl rfl) ?_
         refine oy rfl rfl (y_move rfl) ?_
         refine ops_cut 3 (Bool) (fun σ => [(2, boxP b1 0), (4, boxP b3 0), (116, .bool σ)]) (fun σ => [nro w_0_F_Stagesv NC_L_int_35 w_0.F.Stages, ro w_0_F_Ordersv 4 (w_0.F.Orders.map S_api_Order.enc), ro w_0_Toldv 3 (w_0.Told.map S_api_Node.enc), box b1 [.int .i64 w_0.F.Base, .int .i64 w_0.F.Done, .int .i64 w_0.F.Serial, .bool w_0.F.Stopped, w_0_F_Stagesv, w_0_F_Ordersv, .int .i64 w_0.Nodes.a0_.Site, .int .i64 w_0.Nodes.a0_.Version, .int .i64 w_0.Nodes.a0_.Serial, .int .i64 w_0.Nodes.a1_.Site, .int .i64 w_0.Nodes.a1_.Version, .int .i64 w_0.Nodes.a1_.Serial, .int .i64 w_0.Nodes.a2_.Site, .int .i64 w_0.Nodes.a2_.Version, .int .i64 w_0.Nodes.a2_.Serial, .int .i64 w_0.Nodes.a3_.Site, .int .i64 w_0.Nodes.a3_.Version, .int .i64 w_0.Nodes.a3_.Serial, v170, w_0_Toldv, .bool w_0.Bad], box b3 [.int .i64 0, .int .i64 0, .int .i64 0, .bool false, .slice none 0 0, .slice none 0 0, .int .i64 0, .int .i64 0, .int .i64 0, .int .i64 0, .int .i64 0, .int .i64 0, .int .i64 0, .int .i64 0, .int .i64 0, .int .i64 0, .int .i64 0, .int .i64 0, .slice none 0 0, .slice none 0 0, .bool false], row v170 3 (((([] : List S_api_Node) ++ w_0.Sent) ++ ([r153.1] : List S_api_Node)).map S_api_Node.enc)]) (fun σ => σ = (w_0.Bad || decide (r153.2 ≠ 0))) (fun L173 hL174 => ?_) ?_
         ·refine ops_split 113 w_0.Bad rfl (fun hg175 => ?_) (fun hg175 => ?_)
          ·skip
           refine ops_no 2 false 113 rfl rfl rfl rfl rfl ?_
           refine ops_no 2 false 113 rfl rfl rfl rfl rfl ?_
           refine oy rfl rfl (y_pick (b := true) rfl rfl) ?_
           refine ops_nil ?_
           exact goes_cut hL174 true [0, 1, 3, 4, 5, 7] (qv3 rfl rfl rfl) (by decide) rfl (by rw [hg175]; simp)
          ·skip
           refine ops_y (wg 2 false 113 rfl rfl rfl rfl) rfl (y_move rfl) ?_
           refine ops_y (wg 2 false 113 rfl rfl rfl rfl) rfl (y_neq rfl rfl) ?_
           refine oy rfl rfl (y_pick (b := false) rfl rfl) ?_
           refine ops_nil ?_
           exact goes_cut hL174 (decide (r153.2 ≠ 0)) [0, 1, 3, 4, 5, 7] (qv3 rfl rfl rfl) (by decide) rfl (by rw [hg175]; simp)
         rintro _ rfl
         refine oy rfl rfl (y_fieldAddr_box (sz := 0) Try.runUnderlying65 rfl Try.sizeOf4 rfl) ?_
         refine ot rfl rfl (t_store 3 Try.sizeOf4 rfl rfl rfl rfl (by simp [Value.cells, boxP]) (by simp [Value.cells, Value.oneCell', boxP])) ?_
         rintro _ _ ⟨rfl, rfl⟩
         refine ops_turn (retell 3 (g := box b1 [.int .i64 w_0.F.Base, .int .i64 w_0.F.Done, .int .i64 w_0.F.Serial, .bool w_0.F.Stopped, w_0_F_Stagesv, w_0_F_Ordersv, .int .i64 w_0.Nodes.a0_.Site, .int .i64 w_0.Nodes.a0_.Version, .int .i64 w_0.Nodes.a0_.Serial, .int .i64 w_0.Nodes.a1_.Site, .int .i64 w_0.Nodes.a1_.Version, .int .i64 w_0.Nodes.a1_.Serial, .int .i64 w_0.Nodes.a2_.Site, .int .i64 w_0.Nodes.a2_.Version, .int .i64 w_0.Nodes.a2_.Serial, .int .i64 w_0.Nodes.a3_.Site, .int .i64 w_0.Nodes.a3_.Version, .int .i64 w_0.Nodes.a3_.Serial, v170, w_0_Toldv, .bool (w_0.Bad || decide (r153.2 ≠ 0))]) rfl (by kernel_rfl)) ?_
         refine ops_nil ?_
         refine goes_blk ?_
         refine goes_turn (Go.Abs.freeze 5 rfl) ?_
         obtain rfl := some_eq h
         exact goes_cut hL31 ((w_0.F.Base, w_0.F.Done, w_0.F.Serial, w_0.F.Stopped, w_0.F.Stages, w_0.F.Orders, w_0.Nodes.a0_.Site, w_0.Nodes.a0_.Version, w_0.Nodes.a0_.Serial, w_0.Nodes.a1_.Site, w_0.Nodes.a1_.Version, w_0.Nodes.a1_.Serial, w_0.Nodes.a2_.Site, w_0.Nodes.a2_.Version, w_0.Nodes.a2_.Serial, w_0.Nodes.a3_.Site, w_0.Nodes.a3_.Version, w_0.Nodes.a3_.Serial, ((([] : List S_api_Node) ++ w_0.Sent) ++ ([r153.1] : List S_api_Node)), w_0.Told, (w_0.Bad || decide (r153.2 ≠ 0))), (w_0_F_Stagesv, w_0_F_Ordersv, v170, w_0_Toldv)) [3, 0, 1, 5, 2, 4] (qv2 rfl rfl) (by decide) rfl rfl
        refine any_cut2 #[true, true, true, true, true, true, true, true, false] 1 (Value × Value) (fun σ => [(2, boxP b1 0), (4, boxP b3 0), (17, .int .i64 r153.2), (109, σ.1), (110, boxP b1 18)]) (fun σ => [nro w_0_F_Stagesv NC_L_int_35 w_0.F.Stages, ro w_0_F_Ordersv 4 (w_0.F.Orders.map S_api_Order.enc), ro w_0_Sentv 3 (w_0.Sent.map S_api_Node.enc), ro w_0_Toldv 3 (w_0.Told.map S_api_Node.enc), box b1 [.int .i64 w_0.F.Base, .int .i64 w_0.F.Done, .int .i64 w_0.F.Serial, .bool w_0.F.Stopped, w_0_F_Stagesv, w_0_F_Ordersv, .int .i64 w_0.Nodes.a0_.Site, .int .i64 w_0.Nodes.a0_.Version, .int .i64 w_0.Nodes.a0_.Serial, .int .i64 w_0.Nodes.a1_.Site, .int .i64 w_0.Nodes.a1_.Version, .int .i64 w_0.Nodes.a1_.Serial, .int .i64 w_0.Nodes.a2_.Site, .int .i64 w_0.Nodes.a2_.Version, .int .i64 w_0.Nodes.a2_.Serial, .int .i64 w_0.Nodes.a3_.Site, .int .i64 w_0.Nodes.a3_.Version, .int .i64 w_0.Nodes.a3_.Serial, w_0_Sentv, w_0_Toldv, .bool w_0.Bad], box b3 [.int .i64 0, .int .i64 0, .int .i64 0, .bool false, .slice none 0 0, .slice none 0 0, .int .i64 0, .int .i64 0, .int .i64 0, .int .i64 0, .int .i64 0, .int .i64 0, .int .i64 0, .int .i64 0, .int .i64 0, .int .i64 0, .int .i64 0, .int .i64 0, .slice none 0 0, .slice none 0 0, .bool false], box b155 [.int .i64 r153.1.Site, .int .i64 r153.1.Version, .int .i64 r153.1.Serial], row σ.1 3 (((([] : List S_api_Node) ++ w_0.Sent) ++ ([r153.1] : List S_api_Node)).map S_api_Node.enc), row σ.2 3 (([r153.1] : List S_api_Node).map S_api_Node.enc)]) ?_ (fun hK176 => ?_)
        ·rintro ⟨v170, v169⟩
         change AnyL _ _ _ _ _ (VF.of [(2, boxP b1 0), (4, boxP b3 0), (17, .int .i64 r153.2), (109, v170), (110, boxP b1 18)]) [nro w_0_F_Stagesv NC_L_int_35 w_0.F.Stages, ro w_0_F_Ordersv 4 (w_0.F.Orders.map S_api_Order.enc), ro w_0_Sentv 3 (w_0.Sent.map S_api_Node.enc), ro w_0_Toldv 3 (w_0.Told.map S_api_Node.enc), box b1 [.int .i64 w_0.F.Base, .int .i64 w_0.F.Done, .int .i64 w_0.F.Serial, .bool w_0.F.Stopped, w_0_F_Stagesv, w_0_F_Ordersv, .int .i64 w_0.Nodes.a0_.Site, .int .i64 w_0.Nodes.a0_.Version, .int .i64 w_0.Nodes.a0_.Serial, .int .i64 w_0.Nodes.a1_.Site, .int .i64 w_0.Nodes.a1_.Version, .int .i64 w_0.Nodes.a1_.Serial, .int .i64 w_0.Nodes.a2_.Site, .int .i64 w_0.Nodes.a2_.Version, .int .i64 w_0.Nodes.a2_.Serial, .int .i64 w_0.Nodes.a3_.Site, .int .i64 w_0.Nodes.a3_.Version, .int .i64 w_0.Nodes.a3_.Serial, w_0_Sentv, w_0_Toldv, .bool w_0.Bad], box b3 [.int .i64 0, .int .i64 0, .int .i64 0, .bool false, .slice none 0 0, .slice none 0 0, .int .i64 0, .int .i64 0, .int .i64 0, .int .i64 0, .int .i64 0, .int .i64 0, .int .i64 0, .int .i64 0, .int .i64 0, .int .i64 0, .int .i64 0, .int .i64 0, .slice none 0 0, .slice none 0 0, .bool false], box b155 [.int .i64 r153.1.Site, .int .i64 r153.1.Version, .int .i64 r153.1.Serial], row v170 3 (((([] : List S_api_Node) ++ w_0.Sent) ++ ([r153.1] : List S_api_Node)).map S_api_Node.enc), row v169 3 (([r153.1] : List S_api_Node).map S_api_Node.enc)] _
         refine any_all [8] (by kernel_rfl) rfl ?_
         refine anyo_cons ?_ ?_
         ·
          refine anyo_slc 7 rfl reads_row (fun hs177 hs177o => ?_)
          refine any_t rfl (wn rfl) rfl (t_store 4 Try.sizeOf63 rfl rfl rfl (by rw [hs177]; rfl) (by simp [Value.cells, boxP]) (by rw [hs177]; exact allL_cons hs177o (allL_nil))) ?_
          rintro _ _ ⟨rfl, rfl⟩
          refine ⟨(ss (ss (ss (ss (se (ss (ss (sn)))))))), ?_⟩
          refine any_turn (retell 4 (g := box b1 [.int .i64 w_0.F.Base, .int .i64 w_0.F.Done, .int .i64 w_0.F.Serial, .bool w_0.F.Stopped, w_0_F_Stagesv, w_0_F_Ordersv, .int .i64 w_0.Nodes.a0_.Site, .int .i64 w_0.Nodes.a0_.Version, .int .i64 w_0.Nodes.a0_.Serial, .int .i64 w_0.Nodes.a1_.Site, .int .i64 w_0.Nodes.a1_.Version, .int .i64 w_0.Nodes.a1_.Serial, .int .i64 w_0.Nodes.a2_.Site, .int .i64 w_0.Nodes.a2_.Version, .int .i64 w_0.Nodes.a2_.Serial, .int .i64 w_0.Nodes.a3_.Site, .int .i64 w_0.Nodes.a3_.Version, .int .i64 w_0.Nodes.a3_.Serial, v170, w_0_Toldv, .bool w_0.Bad]) rfl (by rw [hs177]; rfl)) ?_
          exact any_weak2 (hK172 (v170, v169)) [0, 1, 2, 3, 4, 5, 6, 7, 8] (by kernel_rfl) (qv3 rfl rfl rfl) (by decide) rfl
         exact anyo_nil
        refine any_cut2 #[true, true, true, true, true, true, false, false, false] 3 (Value × Value) (fun σ => [(2, boxP b1 0), (4, boxP b3 0), (17, .int .i64 r153.2), (106, σ.1), (108, σ.2)]) (fun σ => [nro w_0_F_Stagesv NC_L_int_35 w_0.F.Stages, ro w_0_F_Ordersv 4 (w_0.F.Orders.map S_api_Order.enc), ro w_0_Sentv 3 (w_0.Sent.map S_api_Node.enc), ro w_0_Toldv 3 (w_0.Told.map S_api_Node.enc), box b1 [.int .i64 w_0.F.Base, .int .i64 w_0.F.Done, .int .i64 w_0.F.Serial, .bool w_0.F.Stopped, w_0_F_Stagesv, w_0_F_Ordersv, .int .i64 w_0.Nodes.a0_.Site, .int .i64 w_0.Nodes.a0_.Version, .int .i64 w_0.Nodes.a0_.Serial, .int .i64 w_0.Nodes.a1_.Site, .int .i64 w_0.Nodes.a1_.Version, .int .i64 w_0.Nodes.a1_.Serial, .int .i64 w_0.Nodes.a2_.Site, .int .i64 w_0.Nodes.a2_.Version, .int .i64 w_0.Nodes.a2_.Serial, .int .i64 w_0.Nodes.a3_.Site, .int .i64 w_0.Nodes.a3_.Version, .int .i64 w_0.Nodes.a3_.Serial, w_0_Sentv, w_0_Toldv, .bool w_0.Bad], box b3 [.int .i64 0, .int .i64 0, .int .i64 0, .bool false, .slice none 0 0, .slice none 0 0, .int .i64 0, .int .i64 0, .int .i64 0, .int .i64 0, .int .i64 0, .int .i64 0, .int .i64 0, .int .i64 0, .int .i64 0, .int .i64 0, .int .i64 0, .int .i64 0, .slice none 0 0, .slice none 0 0, .bool false], box b155 [.int .i64 r153.1.Site, .int .i64 r153.1.Version, .int .i64 r153.1.Serial], row σ.1 3 ((([] : List S_api_Node) ++ w_0.Sent).map S_api_Node.enc), row σ.2 3 (([r153.1] : List S_api_Node).map S_api_Node.enc)]) ?_ (fun hK178 => ?_)
        ·rintro ⟨v167, v169⟩
         change AnyL _ _ _ _ _ (VF.of [(2, boxP b1 0), (4, boxP b3 0), (17, .int .i64 r153.2), (106, v167), (108, v169)]) [nro w_0_F_Stagesv NC_L_int_35 w_0.F.Stages, ro w_0_F_Ordersv 4 (w_0.F.Orders.map S_api_Order.enc), ro w_0_Sentv 3 (w_0.Sent.map S_api_Node.enc), ro w_0_Toldv 3 (w_0.Told.map S_api_Node.enc), box b1 [.int .i64 w_0.F.Base, .int .i64 w_0.F.Done, .int .i64 w_0.F.Serial, .bool w_0.F.Stopped, w_0_F_Stagesv, w_0_F_Ordersv, .int .i64 w_0.Nodes.a0_.Site, .int .i64 w_0.Nodes.a0_.Version, .int .i64 w_0.Nodes.a0_.Serial, .int .i64 w_0.Nodes.a1_.Site, .int .i64 w_0.Nodes.a1_.Version, .int .i64 w_0.Nodes.a1_.Serial, .int .i64 w_0.Nodes.a2_.Site, .int .i64 w_0.Nodes.a2_.Version, .int .i64 w_0.Nodes.a2_.Serial, .int .i64 w_0.Nodes.a3_.Site, .int .i64 w_0.Nodes.a3_.Version, .int .i64 w_0.Nodes.a3_.Serial, w_0_Sentv, w_0_Toldv, .bool w_0.Bad], box b3 [.int .i64 0, .int .i64 0, .int .i64 0, .bool false, .slice none 0 0, .slice none 0 0, .int .i64 0, .int .i64 0, .int .i64 0, .int .i64 0, .int .i64 0, .int .i64 0, .int .i64 0, .int .i64 0, .int .i64 0, .int .i64 0, .int .i64 0, .int .i64 0, .slice none 0 0, .slice none 0 0, .bool false], box b155 [.int .i64 r153.1.Site, .int .i64 r153.1.Version, .int .i64 r153.1.Serial], row v167 3 ((([] : List S_api_Node) ++ w_0.Sent).map S_api_Node.enc), row v169 3 (([r153.1] : List S_api_Node).map S_api_Node.enc)] _
         refine any_all [6] (by kernel_rfl) rfl ?_
         refine anyo_cons ?_ ?_
         ·
          refine any_t rfl (wn rfl) rfl (t_append (es := 3) 7 rfl Try.runUnderlying63 rfl Try.runUnderlying63 (.inr ⟨_, rfl⟩) Try.typeInfo61 rfl (by decide) Try.zeroValue61 rfl rfl rfl rfl (src_reads 8 rfl reads_row (map_ok S_api_Node.enc_ok _)) (map_room hr161 (by decide)) (map_fit hr161)) ?_
          rintro v179 _ rfl
          refine ⟨(ss (ss (ss (ss (se (ss (ss (sn)))))))), ?_⟩
          refine any_turn (retell 7 (g := row v179 3 (((([] : List S_api_Node) ++ w_0.Sent) ++ ([r153.1] : List S_api_Node)).map S_api_Node.enc)) rfl (congrArg (row _ _) List.map_append.symm)) ?_
          refine any_y 7 rfl (by kernel_rfl) (by kernel_rfl) (by kernel_rfl) (ss (ss (ss (ss (se (ss (ss (sn)))))))) (wn rfl) rfl (y_fieldAddr_box (sz := 0) Try.runUnderlying65 rfl Try.sizeOf63 rfl) ?_
          exact any_weak2 (hK176 (v179, v169)) [0, 1, 2, 3, 4, 5, 6, 7, 8] (by kernel_rfl) (qv5 rfl rfl rfl rfl rfl) (by decide) rfl
         exact anyo_nil
        refine any_cut2 #[true, true, true, true, true, false, false, false, false] 4 (Value) (fun σ => [(2, boxP b1 0), (4, boxP b3 0), (17, .int .i64 r153.2), (107, .agg #[.int .i64 r153.1.Site, .int .i64 r153.1.Version, .int .i64 r153.1.Serial]), (106, σ)]) (fun σ => [nro w_0_F_Stagesv NC_L_int_35 w_0.F.Stages, ro w_0_F_Ordersv 4 (w_0.F.Orders.map S_api_Order.enc), ro w_0_Sentv 3 (w_0.Sent.map S_api_Node.enc), ro w_0_Toldv 3 (w_0.Told.map S_api_Node.enc), box b1 [.int .i64 w_0.F.Base, .int .i64 w_0.F.Done, .int .i64 w_0.F.Serial, .bool w_0.F.Stopped, w_0_F_Stagesv, w_0_F_Ordersv, .int .i64 w_0.Nodes.a0_.Site, .int .i64 w_0.Nodes.a0_.Version, .int .i64 w_0.Nodes.a0_.Serial, .int .i64 w_0.Nodes.a1_.Site, .int .i64 w_0.Nodes.a1_.Version, .int .i64 w_0.Nodes.a1_.Serial, .int .i64 w_0.Nodes.a2_.Site, .int .i64 w_0.Nodes.a2_.Version, .int .i64 w_0.Nodes.a2_.Serial, .int .i64 w_0.Nodes.a3_.Site, .int .i64 w_0.Nodes.a3_.Version, .int .i64 w_0.Nodes.a3_.Serial, w_0_Sentv, w_0_Toldv, .bool w_0.Bad], box b3 [.int .i64 0, .int .i64 0, .int .i64 0, .bool false, .slice none 0 0, .slice none 0 0, .int .i64 0, .int .i64 0, .int .i64 0, .int .i64 0, .int .i64 0, .int .i64 0, .int .i64 0, .int .i64 0, .int .i64 0, .int .i64 0, .int .i64 0, .int .i64 0, .slice none 0 0, .slice none 0 0, .bool false], box b155 [.int .i64 r153.1.Site, .int .i64 r153.1.Version, .int .i64 r153.1.Serial], row σ 3 ((([] : List S_api_Node) ++ w_0.Sent).map S_api_Node.enc)]) ?_ (fun hK180 => ?_)
        ·rintro v167
         change AnyL _ _ _ _ _ (VF.of [(2, boxP b1 0), (4, boxP b3 0), (17, .int .i64 r153.2), (107, .agg #[.int .i64 r153.1.Site, .int .i64 r153.1.Version, .int .i64 r153.1.Serial]), (106, v167)]) [nro w_0_F_Stagesv NC_L_int_35 w_0.F.Stages, ro w_0_F_Ordersv 4 (w_0.F.Orders.map S_api_Order.enc), ro w_0_Sentv 3 (w_0.Sent.map S_api_Node.enc), ro w_0_Toldv 3 (w_0.Told.map S_api_Node.enc), box b1 [.int .i64 w_0.F.Base, .int .i64 w_0.F.Done, .int .i64 w_0.F.Serial, .bool w_0.F.Stopped, w_0_F_Stagesv, w_0_F_Ordersv, .int .i64 w_0.Nodes.a0_.Site, .int .i64 w_0.Nodes.a0_.Version, .int .i64 w_0.Nodes.a0_.Serial, .int .i64 w_0.Nodes.a1_.Site, .int .i64 w_0.Nodes.a1_.Version, .int .i64 w_0.Nodes.a1_.Serial, .int .i64 w_0.Nodes.a2_.Site, .int .i64 w_0.Nodes.a2_.Version, .int .i64 w_0.Nodes.a2_.Serial, .int .i64 w_0.Nodes.a3_.Site, .int .i64 w_0.Nodes.a3_.Version, .int .i64 w_0.Nodes.a3_.Serial, w_0_Sentv, w_0_Toldv, .bool w_0.Bad], box b3 [.int .i64 0, .int .i64 0, .int .i64 0, .bool false, .slice none 0 0, .slice none 0 0, .int .i64 0, .int .i64 0, .int .i64 0, .int .i64 0, .int .i64 0, .int .i64 0, .int .i64 0, .int .i64 0, .int .i64 0, .int .i64 0, .int .i64 0, .int .i64 0, .slice none 0 0, .slice none 0 0, .bool false], box b155 [.int .i64 r153.1.Site, .int .i64 r153.1.Version, .int .i64 r153.1.Serial], row v167 3 ((([] : List S_api_Node) ++ w_0.Sent).map S_api_Node.enc)] _
         refine any_all [5] (by kernel_rfl) rfl ?_
         refine anyo_cons ?_ ?_
         ·
          refine any_t rfl (wn rfl) rfl (t_lit [.agg #[.int .i64 r153.1.Site, .int .i64 r153.1.Version, .int .i64 r153.1.Serial]] Try.runUnderlying63 Try.sizeOf61 Try.zeroValue61 rfl (by decide) (by decide) rfl (by simp [Value.cells, boxP])) ?_
          rintro v181 _ ⟨rfl, _⟩
          refine ⟨(ss (ss (ss (ss (se (ss (ss (sn)))))))), ?_⟩
          refine any_turn (retell 8 (g := row v181 3 (([r153.1] : List S_api_Node).map S_api_Node.enc)) rfl rfl) ?_
          exact any_weak2 (hK178 (v167, v181)) [0, 1, 2, 3, 4, 5, 6, 7, 8] (by kernel_rfl) (qv5 rfl rfl rfl rfl rfl) (by decide) rfl
         exact anyo_nil
        refine any_cut2 #[true, true, true, false, true, true, false, false, false] 4 (Value × Value) (fun σ => [(2, boxP b1 0), (4, boxP b3 0), (17, .int .i64 r153.2), (103, σ.1), (105, w_0_Sentv), (108, σ.2)]) (fun σ => [nro w_0_F_Stagesv NC_L_int_35 w_0.F.Stages, ro w_0_F_Ordersv 4 (w_0.F.Orders.map S_api_Order.enc), ro w_0_Sentv 3 (w_0.Sent.map S_api_Node.enc), ro w_0_Toldv 3 (w_0.Told.map S_api_Node.enc), box b1 [.int .i64 w_0.F.Base, .int .i64 w_0.F.Done, .int .i64 w_0.F.Serial, .bool w_0.F.Stopped, w_0_F_Stagesv, w_0_F_Ordersv, .int .i64 w_0.Nodes.a0_.Site, .int .i64 w_0.Nodes.a0_.Version, .int .i64 w_0.Nodes.a0_.Serial, .int .i64 w_0.Nodes.a1_.Site, .int .i64 w_0.Nodes.a1_.Version, .int .i64 w_0.Nodes.a1_.Serial, .int .i64 w_0.Nodes.a2_.Site, .int .i64 w_0.Nodes.a2_.Version, .int .i64 w_0.Nodes.a2_.Serial, .int .i64 w_0.Nodes.a3_.Site, .int .i64 w_0.Nodes.a3_.Version, .int .i64 w_0.Nodes.a3_.Serial, w_0_Sentv, w_0_Toldv, .bool w_0.Bad], box b3 [.int .i64 0, .int .i64 0, .int .i64 0, .bool false, .slice none 0 0, .slice none 0 0, .int .i64 0, .int .i64 0, .int .i64 0, .int .i64 0, .int .i64 0, .int .i64 0, .int .i64 0, .int .i64 0, .int .i64 0, .int .i64 0, .int .i64 0, .int .i64 0, .slice none 0 0, .slice none 0 0, .bool false], box b155 [.int .i64 r153.1.Site, .int .i64 r153.1.Version, .int .i64 r153.1.Serial], row σ.1 3 (([] : List S_api_Node).map S_api_Node.enc), row σ.2 3 (([r153.1] : List S_api_Node).map S_api_Node.enc)]) ?_ (fun hK182 => ?_)
        ·rintro ⟨v163, v168⟩
         change AnyL _ _ _ _ _ (VF.of [(2, boxP b1 0), (4, boxP b3 0), (17, .int .i64 r153.2), (103, v163), (105, w_0_Sentv), (108, v168)]) [nro w_0_F_Stagesv NC_L_int_35 w_0.F.Stages, ro w_0_F_Ordersv 4 (w_0.F.Orders.map S_api_Order.enc), ro w_0_Sentv 3 (w_0.Sent.map S_api_Node.enc), ro w_0_Toldv 3 (w_0.Told.map S_api_Node.enc), box b1 [.int .i64 w_0.F.Base, .int .i64 w_0.F.Done, .int .i64 w_0.F.Serial, .bool w_0.F.Stopped, w_0_F_Stagesv, w_0_F_Ordersv, .int .i64 w_0.Nodes.a0_.Site, .int .i64 w_0.Nodes.a0_.Version, .int .i64 w_0.Nodes.a0_.Serial, .int .i64 w_0.Nodes.a1_.Site, .int .i64 w_0.Nodes.a1_.Version, .int .i64 w_0.Nodes.a1_.Serial, .int .i64 w_0.Nodes.a2_.Site, .int .i64 w_0.Nodes.a2_.Version, .int .i64 w_0.Nodes.a2_.Serial, .int .i64 w_0.Nodes.a3_.Site, .int .i64 w_0.Nodes.a3_.Version, .int .i64 w_0.Nodes.a3_.Serial, w_0_Sentv, w_0_Toldv, .bool w_0.Bad], box b3 [.int .i64 0, .int .i64 0, .int .i64 0, .bool false, .slice none 0 0, .slice none 0 0, .int .i64 0, .int .i64 0, .int .i64 0, .int .i64 0, .int .i64 0, .int .i64 0, .int .i64 0, .int .i64 0, .int .i64 0, .int .i64 0, .int .i64 0, .int .i64 0, .slice none 0 0, .slice none 0 0, .bool false], box b155 [.int .i64 r153.1.Site, .int .i64 r153.1.Version, .int .i64 r153.1.Serial], row v163 3 (([] : List S_api_Node).map S_api_Node.enc), row v168 3 (([r153.1] : List S_api_Node).map S_api_Node.enc)] _
         refine any_all [3] (by kernel_rfl) rfl ?_
         refine anyo_cons ?_ ?_
         ·
          refine any_t rfl (wn rfl) rfl (t_append (es := 3) 7 rfl Try.runUnderlying63 rfl Try.runUnderlying63 (.inr ⟨_, rfl⟩) Try.typeInfo61 rfl (by decide) Try.zeroValue61 rfl rfl rfl rfl (src_reads 2 rfl reads_ro (map_ok S_api_Node.enc_ok _)) (map_room hr158 (by decide)) (map_fit hr158)) ?_
          rintro v183 _ rfl
          refine ⟨(ss (ss (ss (ss (se (ss (ss (sn)))))))), ?_⟩
          refine any_turn (retell 7 (g := row v183 3 ((([] : List S_api_Node) ++ w_0.Sent).map S_api_Node.enc)) rfl (congrArg (row _ _) List.map_append.symm)) ?_
          exact any_weak2 (hK178 (v183, v168)) [0, 1, 2, 3, 4, 5, 6, 7, 8] (by kernel_rfl) (qv5 rfl rfl rfl rfl rfl) (by decide) rfl
         exact anyo_nil
        refine any_cut2 #[true, true, true, false, true, false, false, false, false] 5 (Value) (fun σ => [(2, boxP b1 0), (4, boxP b3 0), (17, .int .i64 r153.2), (107, .agg #[.int .i64 r153.1.Site, .int .i64 r153.1.Version, .int .i64 r153.1.Serial]), (103, σ), (105, w_0_Sentv)]) (fun σ => [nro w_0_F_Stagesv NC_L_int_35 w_0.F.Stages, ro w_0_F_Ordersv 4 (w_0.F.Orders.map S_api_Order.enc), ro w_0_Sentv 3 (w_0.Sent.map S_api_Node.enc), ro w_0_Toldv 3 (w_0.Told.map S_api_Node.enc), box b1 [.int .i64 w_0.F.Base, .int .i64 w_0.F.Done, .int .i64 w_0.F.Serial, .bool w_0.F.Stopped, w_0_F_Stagesv, w_0_F_Ordersv, .int .i64 w_0.Nodes.a0_.Site, .int .i64 w_0.Nodes.a0_.Version, .int .i64 w_0.Nodes.a0_.Serial, .int .i64 w_0.Nodes.a1_.Site, .int .i64 w_0.Nodes.a1_.Version, .int .i64 w_0.Nodes.a1_.Serial, .int .i64 w_0.Nodes.a2_.Site, .int .i64 w_0.Nodes.a2_.Version, .int .i64 w_0.Nodes.a2_.Serial, .int .i64 w_0.Nodes.a3_.Site, .int .i64 w_0.Nodes.a3_.Version, .int .i64 w_0.Nodes.a3_.Serial, w_0_Sentv, w_0_Toldv, .bool w_0.Bad], box b3 [.int .i64 0, .int .i64 0, .int .i64 0, .bool false, .slice none 0 0, .slice none 0 0, .int .i64 0, .int .i64 0, .int .i64 0, .int .i64 0, .int .i64 0, .int .i64 0, .int .i64 0, .int .i64 0, .int .i64 0, .int .i64 0, .int .i64 0, .int .i64 0, .slice none 0 0, .slice none 0 0, .bool false], box b155 [.int .i64 r153.1.Site, .int .i64 r153.1.Version, .int .i64 r153.1.Serial], row σ 3 (([] : List S_api_Node).map S_api_Node.enc)]) ?_ (fun hK184 => ?_)
        ·rintro v163
         change AnyL _ _ _ _ _ (VF.of [(2, boxP b1 0), (4, boxP b3 0), (17, .int .i64 r153.2), (107, .agg #[.int .i64 r153.1.Site, .int .i64 r153.1.Version, .int .i64 r153.1.Serial]), (103, v163), (105, w_0_Sentv)]) [nro w_0_F_Stagesv NC_L_int_35 w_0.F.Stages, ro w_0_F_Ordersv 4 (w_0.F.Orders.map S_api_Order.enc), ro w_0_Sentv 3 (w_0.Sent.map S_api_Node.enc), ro w_0_Toldv 3 (w_0.Told.map S_api_Node.enc), box b1 [.int .i64 w_0.F.Base, .int .i64 w_0.F.Done, .int .i64 w_0.F.Serial, .bool w_0.F.Stopped, w_0_F_Stagesv, w_0_F_Ordersv, .int .i64 w_0.Nodes.a0_.Site, .int .i64 w_0.Nodes.a0_.Version, .int .i64 w_0.Nodes.a0_.Serial, .int .i64 w_0.Nodes.a1_.Site, .int .i64 w_0.Nodes.a1_.Version, .int .i64 w_0.Nodes.a1_.Serial, .int .i64 w_0.Nodes.a2_.Site, .int .i64 w_0.Nodes.a2_.Version, .int .i64 w_0.Nodes.a2_.Serial, .int .i64 w_0.Nodes.a3_.Site, .int .i64 w_0.Nodes.a3_.Version, .int .i64 w_0.Nodes.a3_.Serial, w_0_Sentv, w_0_Toldv, .bool w_0.Bad], box b3 [.int .i64 0, .int .i64 0, .int .i64 0, .bool false, .slice none 0 0, .slice none 0 0, .int .i64 0, .int .i64 0, .int .i64 0, .int .i64 0, .int .i64 0, .int .i64 0, .int .i64 0, .int .i64 0, .int .i64 0, .int .i64 0, .int .i64 0, .int .i64 0, .slice none 0 0, .slice none 0 0, .bool false], box b155 [.int .i64 r153.1.Site, .int .i64 r153.1.Version, .int .i64 r153.1.Serial], row v163 3 (([] : List S_api_Node).map S_api_Node.enc)] _
         refine any_all [3, 5] (by kernel_rfl) rfl ?_
         refine anyo_cons ?_ ?_
         ·
          refine any_t rfl (wn rfl) rfl (t_append (es := 3) 7 rfl Try.runUnderlying63 rfl Try.runUnderlying63 (.inr ⟨_, rfl⟩) Try.typeInfo61 rfl (by decide) Try.zeroValue61 rfl rfl rfl rfl (src_reads 2 rfl reads_ro (map_ok S_api_Node.enc_ok _)) (map_room hr158 (by decide)) (map_fit hr158)) ?_
          rintro v185 _ rfl
          refine ⟨(ss (ss (ss (ss (se (ss (ss (sn)))))))), ?_⟩
          refine any_turn (retell 7 (g := row v185 3 ((([] : List S_api_Node) ++ w_0.Sent).map S_api_Node.enc)) rfl (congrArg (row _ _) List.map_append.symm)) ?_
          exact any_weak2 (hK180 v185) [0, 1, 2, 3, 4, 5, 6, 7] (by kernel_rfl) (qv5 rfl rfl rfl rfl rfl) (by decide) rfl
         refine anyo_cons ?_ ?_
         ·
          refine any_t rfl (wn rfl) rfl (t_lit [.agg #[.int .i64 r153.1.Site, .int .i64 r153.1.Version, .int .i64 r153.1.Serial]] Try.runUnderlying63 Try.sizeOf61 Try.zeroValue61 rfl (by decide) (by decide) rfl (by simp [Value.cells, boxP])) ?_
          rintro v186 _ ⟨rfl, _⟩
          refine ⟨(ss (ss (ss (ss (se (ss (ss (sn)))))))), ?_⟩
          refine any_turn (retell 8 (g := row v186 3 (([r153.1] : List S_api_Node).map S_api_Node.enc)) rfl rfl) ?_
          exact any_weak2 (hK182 (v163, v186)) [0, 1, 2, 3, 4, 5, 6, 7, 8] (by kernel_rfl) (qv6 rfl rfl rfl rfl rfl rfl) (by decide) rfl
         exact anyo_nil
        refine any_cut2 #[true, true, false, false, true, true, false, false, false] 5 (Value × Value) (fun σ => [(2, boxP b1 0), (4, boxP b3 0), (17, .int .i64 r153.2), (104, boxP b1 18), (103, σ.1), (108, σ.2)]) (fun σ => [nro w_0_F_Stagesv NC_L_int_35 w_0.F.Stages, ro w_0_F_Ordersv 4 (w_0.F.Orders.map S_api_Order.enc), ro w_0_Sentv 3 (w_0.Sent.map S_api_Node.enc), ro w_0_Toldv 3 (w_0.Told.map S_api_Node.enc), box b1 [.int .i64 w_0.F.Base, .int .i64 w_0.F.Done, .int .i64 w_0.F.Serial, .bool w_0.F.Stopped, w_0_F_Stagesv, w_0_F_Ordersv, .int .i64 w_0.Nodes.a0_.Site, .int .i64 w_0.Nodes.a0_.Version, .int .i64 w_0.Nodes.a0_.Serial, .int .i64 w_0.Nodes.a1_.Site, .int .i64 w_0.Nodes.a1_.Version, .int .i64 w_0.Nodes.a1_.Serial, .int .i64 w_0.Nodes.a2_.Site, .int .i64 w_0.Nodes.a2_.Version, .int .i64 w_0.Nodes.a2_.Serial, .int .i64 w_0.Nodes.a3_.Site, .int .i64 w_0.Nodes.a3_.Version, .int .i64 w_0.Nodes.a3_.Serial, w_0_Sentv, w_0_Toldv, .bool w_0.Bad], box b3 [.int .i64 0, .int .i64 0, .int .i64 0, .bool false, .slice none 0 0, .slice none 0 0, .int .i64 0, .int .i64 0, .int .i64 0, .int .i64 0, .int .i64 0, .int .i64 0, .int .i64 0, .int .i64 0, .int .i64 0, .int .i64 0, .int .i64 0, .int .i64 0, .slice none 0 0, .slice none 0 0, .bool false], box b155 [.int .i64 r153.1.Site, .int .i64 r153.1.Version, .int .i64 r153.1.Serial], row σ.1 3 (([] : List S_api_Node).map S_api_Node.enc), row σ.2 3 (([r153.1] : List S_api_Node).map S_api_Node.enc)]) ?_ (fun hK187 => ?_)
        ·rintro ⟨v163, v165⟩
         change AnyL _ _ _ _ _ (VF.of [(2, boxP b1 0), (4, boxP b3 0), (17, .int .i64 r153.2), (104, boxP b1 18), (103, v163), (108, v165)]) [nro w_0_F_Stagesv NC_L_int_35 w_0.F.Stages, ro w_0_F_Ordersv 4 (w_0.F.Orders.map S_api_Order.enc), ro w_0_Sentv 3 (w_0.Sent.map S_api_Node.enc), ro w_0_Toldv 3 (w_0.Told.map S_api_Node.enc), box b1 [.int .i64 w_0.F.Base, .int .i64 w_0.F.Done, .int .i64 w_0.F.Serial, .bool w_0.F.Stopped, w_0_F_Stagesv, w_0_F_Ordersv, .int .i64 w_0.Nodes.a0_.Site, .int .i64 w_0.Nodes.a0_.Version, .int .i64 w_0.Nodes.a0_.Serial, .int .i64 w_0.Nodes.a1_.Site, .int .i64 w_0.Nodes.a1_.Version, .int .i64 w_0.Nodes.a1_.Serial, .int .i64 w_0.Nodes.a2_.Site, .int .i64 w_0.Nodes.a2_.Version, .int .i64 w_0.Nodes.a2_.Serial, .int .i64 w_0.Nodes.a3_.Site, .int .i64 w_0.Nodes.a3_.Version, .int .i64 w_0.Nodes.a3_.Serial, w_0_Sentv, w_0_Toldv, .bool w_0.Bad], box b3 [.int .i64 0, .int .i64 0, .int .i64 0, .bool false, .slice none 0 0, .slice none 0 0, .int .i64 0, .int .i64 0, .int .i64 0, .int .i64 0, .int .i64 0, .int .i64 0, .int .i64 0, .int .i64 0, .int .i64 0, .int .i64 0, .int .i64 0, .int .i64 0, .slice none 0 0, .slice none 0 0, .bool false], box b155 [.int .i64 r153.1.Site, .int .i64 r153.1.Version, .int .i64 r153.1.Serial], row v163 3 (([] : List S_api_Node).map S_api_Node.enc), row v165 3 (([r153.1] : List S_api_Node).map S_api_Node.enc)] _
         refine any_all [2] (by kernel_rfl) rfl ?_
         refine anyo_cons ?_ ?_
         ·
          refine any_ty rfl (wn rfl) rfl (y_load_box 4 Try.isAgg63 rfl rfl rfl) ⟨(ss (ss (ss (ss (se (ss (ss (sn)))))))), ?_⟩
          exact any_weak2 (hK182 (v163, v165)) [0, 1, 2, 3, 4, 5, 6, 7, 8] (by kernel_rfl) (qv6 rfl rfl rfl rfl rfl rfl) (by decide) rfl
         exact anyo_nil
        refine any_cut2 #[false, true, true, false, true, true, false, false, false] 5 (Value) (fun σ => [(2, boxP b1 0), (4, boxP b3 0), (17, .int .i64 r153.2), (105, w_0_Sentv), (108, σ)]) (fun σ => [nro w_0_F_Stagesv NC_L_int_35 w_0.F.Stages, ro w_0_F_Ordersv 4 (w_0.F.Orders.map S_api_Order.enc), ro w_0_Sentv 3 (w_0.Sent.map S_api_Node.enc), ro w_0_Toldv 3 (w_0.Told.map S_api_Node.enc), box b1 [.int .i64 w_0.F.Base, .int .i64 w_0.F.Done, .int .i64 w_0.F.Serial, .bool w_0.F.Stopped, w_0_F_Stagesv, w_0_F_Ordersv, .int .i64 w_0.Nodes.a0_.Site, .int .i64 w_0.Nodes.a0_.Version, .int .i64 w_0.Nodes.a0_.Serial, .int .i64 w_0.Nodes.a1_.Site, .int .i64 w_0.Nodes.a1_.Version, .int .i64 w_0.Nodes.a1_.Serial, .int .i64 w_0.Nodes.a2_.Site, .int .i64 w_0.Nodes.a2_.Version, .int .i64 w_0.Nodes.a2_.Serial, .int .i64 w_0.Nodes.a3_.Site, .int .i64 w_0.Nodes.a3_.Version, .int .i64 w_0.Nodes.a3_.Serial, w_0_Sentv, w_0_Toldv, .bool w_0.Bad], box b3 [.int .i64 0, .int .i64 0, .int .i64 0, .bool false, .slice none 0 0, .slice none 0 0, .int .i64 0, .int .i64 0, .int .i64 0, .int .i64 0, .int .i64 0, .int .i64 0, .int .i64 0, .int .i64 0, .int .i64 0, .int .i64 0, .int .i64 0, .int .i64 0, .slice none 0 0, .slice none 0 0, .bool false], box b155 [.int .i64 r153.1.Site, .int .i64 r153.1.Version, .int .i64 r153.1.Serial], row σ 3 (([r153.1] : List S_api_Node).map S_api_Node.enc)]) ?_ (fun hK188 => ?_)
        ·rintro v166
         change AnyL _ _ _ _ _ (VF.of [(2, boxP b1 0), (4, boxP b3 0), (17, .int .i64 r153.2), (105, w_0_Sentv), (108, v166)]) [nro w_0_F_Stagesv NC_L_int_35 w_0.F.Stages, ro w_0_F_Ordersv 4 (w_0.F.Orders.map S_api_Order.enc), ro w_0_Sentv 3 (w_0.Sent.map S_api_Node.enc), ro w_0_Toldv 3 (w_0.Told.map S_api_Node.enc), box b1 [.int .i64 w_0.F.Base, .int .i64 w_0.F.Done, .int .i64 w_0.F.Serial, .bool w_0.F.Stopped, w_0_F_Stagesv, w_0_F_Ordersv, .int .i64 w_0.Nodes.a0_.Site, .int .i64 w_0.Nodes.a0_.Version, .int .i64 w_0.Nodes.a0_.Serial, .int .i64 w_0.Nodes.a1_.Site, .int .i64 w_0.Nodes.a1_.Version, .int .i64 w_0.Nodes.a1_.Serial, .int .i64 w_0.Nodes.a2_.Site, .int .i64 w_0.Nodes.a2_.Version, .int .i64 w_0.Nodes.a2_.Serial, .int .i64 w_0.Nodes.a3_.Site, .int .i64 w_0.Nodes.a3_.Version, .int .i64 w_0.Nodes.a3_.Serial, w_0_Sentv, w_0_Toldv, .bool w_0.Bad], box b3 [.int .i64 0, .int .i64 0, .int .i64 0, .bool false, .slice none 0 0, .slice none 0 0, .int .i64 0, .int .i64 0, .int .i64 0, .int .i64 0, .int .i64 0, .int .i64 0, .int .i64 0, .int .i64 0, .int .i64 0, .int .i64 0, .int .i64 0, .int .i64 0, .slice none 0 0, .slice none 0 0, .bool false], box b155 [.int .i64 r153.1.Site, .int .i64 r153.1.Version, .int .i64 r153.1.Serial], row v166 3 (([r153.1] : List S_api_Node).map S_api_Node.enc)] _
         refine any_all [0] (by kernel_rfl) rfl ?_
         refine anyo_cons ?_ ?_
         ·
          refine any_t rfl (wn rfl) rfl (t_lit [] Try.runUnderlying63 Try.sizeOf61 Try.zeroValue61 rfl (by decide) (by decide) rfl (by simp [Value.cells, boxP])) ?_
          rintro v189 _ ⟨rfl, _⟩
          refine ⟨(ss (ss (ss (ss (se (ss (ss (sn)))))))), ?_⟩
          refine any_turn (retell 8 (g := row v189 3 (([] : List S_api_Node).map S_api_Node.enc)) rfl rfl) ?_
          exact any_weak2 (hK182 (v189, v166)) [0, 1, 2, 3, 4, 5, 6, 8, 7] (by kernel_rfl) (qv6 rfl rfl rfl rfl rfl rfl) (by decide) rfl
         exact anyo_nil
        refine any_cut2 #[true, true, false, false, true, false, false, false, false] 6 (Value) (fun σ => [(2, boxP b1 0), (4, boxP b3 0), (17, .int .i64 r153.2), (104, boxP b1 18), (107, .agg #[.int .i64 r153.1.Site, .int .i64 r153.1.Version, .int .i64 r153.1.Serial]), (103, σ)]) (fun σ => [nro w_0_F_Stagesv NC_L_int_35 w_0.F.Stages, ro w_0_F_Ordersv 4 (w_0.F.Orders.map S_api_Order.enc), ro w_0_Sentv 3 (w_0.Sent.map S_api_Node.enc), ro w_0_Toldv 3 (w_0.Told.map S_api_Node.enc), box b1 [.int .i64 w_0.F.Base, .int .i64 w_0.F.Done, .int .i64 w_0.F.Serial, .bool w_0.F.Stopped, w_0_F_Stagesv, w_0_F_Ordersv, .int .i64 w_0.Nodes.a0_.Site, .int .i64 w_0.Nodes.a0_.Version, .int .i64 w_0.Nodes.a0_.Serial, .int .i64 w_0.Nodes.a1_.Site, .int .i64 w_0.Nodes.a1_.Version, .int .i64 w_0.Nodes.a1_.Serial, .int .i64 w_0.Nodes.a2_.Site, .int .i64 w_0.Nodes.a2_.Version, .int .i64 w_0.Nodes.a2_.Serial, .int .i64 w_0.Nodes.a3_.Site, .int .i64 w_0.Nodes.a3_.Version, .int .i64 w_0.Nodes.a3_.Serial, w_0_Sentv, w_0_Toldv, .bool w_0.Bad], box b3 [.int .i64 0, .int .i64 0, .int .i64 0, .bool false, .slice none 0 0, .slice none 0 0, .int .i64 0, .int .i64 0, .int .i64 0, .int .i64 0, .int .i64 0, .int .i64 0, .int .i64 0, .int .i64 0, .int .i64 0, .int .i64 0, .int .i64 0, .int .i64 0, .slice none 0 0, .slice none 0 0, .bool false], box b155 [.int .i64 r153.1.Site, .int .i64 r153.1.Version, .int .i64 r153.1.Serial], row σ 3 (([] : List S_api_Node).map S_api_Node.enc)]) ?_ (fun hK190 => ?_)
        ·rintro v163
         change AnyL _ _ _ _ _ (VF.of [(2, boxP b1 0), (4, boxP b3 0), (17, .int .i64 r153.2), (104, boxP b1 18), (107, .agg #[.int .i64 r153.1.Site, .int .i64 r153.1.Version, .int .i64 r153.1.Serial]), (103, v163)]) [nro w_0_F_Stagesv NC_L_int_35 w_0.F.Stages, ro w_0_F_Ordersv 4 (w_0.F.Orders.map S_api_Order.enc), ro w_0_Sentv 3 (w_0.Sent.map S_api_Node.enc), ro w_0_Toldv 3 (w_0.Told.map S_api_Node.enc), box b1 [.int .i64 w_0.F.Base, .int .i64 w_0.F.Done, .int .i64 w_0.F.Serial, .bool w_0.F.Stopped, w_0_F_Stagesv, w_0_F_Ordersv, .int .i64 w_0.Nodes.a0_.Site, .int .i64 w_0.Nodes.a0_.Version, .int .i64 w_0.Nodes.a0_.Serial, .int .i64 w_0.Nodes.a1_.Site, .int .i64 w_0.Nodes.a1_.Version, .int .i64 w_0.Nodes.a1_.Serial, .int .i64 w_0.Nodes.a2_.Site, .int .i64 w_0.Nodes.a2_.Version, .int .i64 w_0.Nodes.a2_.Serial, .int .i64 w_0.Nodes.a3_.Site, .int .i64 w_0.Nodes.a3_.Version, .int .i64 w_0.Nodes.a3_.Serial, w_0_Sentv, w_0_Toldv, .bool w_0.Bad], box b3 [.int .i64 0, .int .i64 0, .int .i64 0, .bool false, .slice none 0 0, .slice none 0 0, .int .i64 0, .int .i64 0, .int .i64 0, .int .i64 0, .int .i64 0, .int .i64 0, .int .i64 0, .int .i64 0, .int .i64 0, .int .i64 0, .int .i64 0, .int .i64 0, .slice none 0 0, .slice none 0 0, .bool false], box b155 [.int .i64 r153.1.Site, .int .i64 r153.1.Version, .int .i64 r153.1.Serial], row v163 3 (([] : List S_api_Node).map S_api_Node.enc)] _
         refine any_all [2, 5] (by kernel_rfl) rfl ?_
         refine anyo_cons ?_ ?_
         ·
          refine any_ty rfl (wn rfl) rfl (y_load_box 4 Try.isAgg63 rfl rfl rfl) ⟨(ss (ss (ss (ss (se (ss (ss (sn)))))))), ?_⟩
          exact any_weak2 (hK184 v163) [0, 1, 2, 3, 4, 5, 6, 7] (by kernel_rfl) (qv6 rfl rfl rfl rfl rfl rfl) (by decide) rfl
         refine anyo_cons ?_ ?_
         ·
          refine any_t rfl (wn rfl) rfl (t_lit [.agg #[.int .i64 r153.1.Site, .int .i64 r153.1.Version, .int .i64 r153.1.Serial]] Try.runUnderlying63 Try.sizeOf61 Try.zeroValue61 rfl (by decide) (by decide) rfl (by simp [Value.cells, boxP])) ?_
          rintro v191 _ ⟨rfl, _⟩
          refine ⟨(ss (ss (ss (ss (se (ss (ss (sn)))))))), ?_⟩
          refine any_turn (retell 8 (g := row v191 3 (([r153.1] : List S_api_Node).map S_api_Node.enc)) rfl rfl) ?_
          exact any_weak2 (hK187 (v163, v191)) [0, 1, 2, 3, 4, 5, 6, 7, 8] (by kernel_rfl) (qv6 rfl rfl rfl rfl rfl rfl) (by decide) rfl
         exact anyo_nil
        refine any_cut2 #[false, true, true, false, true, false, false, false, false] 6 (Unit) (fun σ => [(2, boxP b1 0), (4, boxP b3 0), (17, .int .i64 r153.2), (107, .agg #[.int .i64 r153.1.Site, .int .i64 r153.1.Version, .int .i64 r153.1.Serial]), (105, w_0_Sentv)]) (fun σ => [nro w_0_F_Stagesv NC_L_int_35 w_0.F.Stages, ro w_0_F_Ordersv 4 (w_0.F.Orders.map S_api_Order.enc), ro w_0_Sentv 3 (w_0.Sent.map S_api_Node.enc), ro w_0_Toldv 3 (w_0.Told.map S_api_Node.enc), box b1 [.int .i64 w_0.F.Base, .int .i64 w_0.F.Done, .int .i64 w_0.F.Serial, .bool w_0.F.Stopped, w_0_F_Stagesv, w_0_F_Ordersv, .int .i64 w_0.Nodes.a0_.Site, .int .i64 w_0.Nodes.a0_.Version, .int .i64 w_0.Nodes.a0_.Serial, .int .i64 w_0.Nodes.a1_.Site, .int .i64 w_0.Nodes.a1_.Version, .int .i64 w_0.Nodes.a1_.Serial, .int .i64 w_0.Nodes.a2_.Site, .int .i64 w_0.Nodes.a2_.Version, .int .i64 w_0.Nodes.a2_.Serial, .int .i64 w_0.Nodes.a3_.Site, .int .i64 w_0.Nodes.a3_.Version, .int .i64 w_0.Nodes.a3_.Serial, w_0_Sentv, w_0_Toldv, .bool w_0.Bad], box b3 [.int .i64 0, .int .i64 0, .int .i64 0, .bool false, .slice none 0 0, .slice none 0 0, .int .i64 0, .int .i64 0, .int .i64 0, .int .i64 0, .int .i64 0, .int .i64 0, .int .i64 0, .int .i64 0, .int .i64 0, .int .i64 0, .int .i64 0, .int .i64 0, .slice none 0 0, .slice none 0 0, .bool false], box b155 [.int .i64 r153.1.Site, .int .i64 r153.1.Version, .int .i64 r153.1.Serial]]) ?_ (fun hK192 => ?_)
        ·rintro _
         change AnyL _ _ _ _ _ (VF.of [(2, boxP b1 0), (4, boxP b3 0), (17, .int .i64 r153.2), (107, .agg #[.int .i64 r153.1.Site, .int .i64 r153.1.Version, .int .i64 r153.1.Serial]), (105, w_0_Sentv)]) [nro w_0_F_Stagesv NC_L_int_35 w_0.F.Stages, ro w_0_F_Ordersv 4 (w_0.F.Orders.map S_api_Order.enc), ro w_0_Sentv 3 (w_0.Sent.map S_api_Node.enc), ro w_0_Toldv 3 (w_0.Told.map S_api_Node.enc), box b1 [.int .i64 w_0.F.Base, .int .i64 w_0.F.Done, .int .i64 w_0.F.Serial, .bool w_0.F.Stopped, w_0_F_Stagesv, w_0_F_Ordersv, .int .i64 w_0.Nodes.a0_.Site, .int .i64 w_0.Nodes.a0_.Version, .int .i64 w_0.Nodes.a0_.Serial, .int .i64 w_0.Nodes.a1_.Site, .int .i64 w_0.Nodes.a1_.Version, .int .i64 w_0.Nodes.a1_.Serial, .int .i64 w_0.Nodes.a2_.Site, .int .i64 w_0.Nodes.a2_.Version, .int .i64 w_0.Nodes.a2_.Serial, .int .i64 w_0.Nodes.a3_.Site, .int .i64 w_0.Nodes.a3_.Version, .int .i64 w_0.Nodes.a3_.Serial, w_0_Sentv, w_0_Toldv, .bool w_0.Bad], box b3 [.int .i64 0, .int .i64 0, .int .i64 0, .bool false, .slice none 0 0, .slice none 0 0, .int .i64 0, .int .i64 0, .int .i64 0, .int .i64 0, .int .i64 0, .int .i64 0, .int .i64 0, .int .i64 0, .int .i64 0, .int .i64 0, .int .i64 0, .int .i64 0, .slice none 0 0, .slice none 0 0, .bool false], box b155 [.int .i64 r153.1.Site, .int .i64 r153.1.Version, .int .i64 r153.1.Serial]] _
         refine any_all [0, 5] (by kernel_rfl) rfl ?_
         refine anyo_cons ?_ ?_
         ·
          refine any_t rfl (wn rfl) rfl (t_lit [] Try.runUnderlying63 Try.sizeOf61 Try.zeroValue61 rfl (by decide) (by decide) rfl (by simp [Value.cells, boxP])) ?_
          rintro v193 _ ⟨rfl, _⟩
          refine ⟨(ss (ss (ss (ss (se (ss (ss (sn)))))))), ?_⟩
          refine any_turn (retell 7 (g := row v193 3 (([] : List S_api_Node).map S_api_Node.enc)) rfl rfl) ?_
          exact any_weak2 (hK184 v193) [0, 1, 2, 3, 4, 5, 6, 7] (by kernel_rfl) (qv6 rfl rfl rfl rfl rfl rfl) (by decide) rfl
         refine anyo_cons ?_ ?_
         ·
          refine any_t rfl (wn rfl) rfl (t_lit [.agg #[.int .i64 r153.1.Site, .int .i64 r153.1.Version, .int .i64 r153.1.Serial]] Try.runUnderlying63 Try.sizeOf61 Try.zeroValue61 rfl (by decide) (by decide) rfl (by simp [Value.cells, boxP])) ?_
          rintro v194 _ ⟨rfl, _⟩
          refine ⟨(ss (ss (ss (ss (se (ss (ss (sn)))))))), ?_⟩
          refine any_turn (retell 7 (g := row v194 3 (([r153.1] : List S_api_Node).map S_api_Node.enc)) rfl rfl) ?_
          exact any_weak2 (hK188 v194) [0, 1, 2, 3, 4, 5, 6, 7] (by kernel_rfl) (qv5 rfl rfl rfl rfl rfl) (by decide) rfl
         exact anyo_nil
        refine any_cut2 #[false, true, false, false, true, true, false, false, false] 6 (Value) (fun σ => [(2, boxP b1 0), (4, boxP b3 0), (17, .int .i64 r153.2), (104, boxP b1 18), (108, σ)]) (fun σ => [nro w_0_F_Stagesv NC_L_int_35 w_0.F.Stages, ro w_0_F_Ordersv 4 (w_0.F.Orders.map S_api_Order.enc), ro w_0_Sentv 3 (w_0.Sent.map S_api_Node.enc), ro w_0_Toldv 3 (w_0.Told.map S_api_Node.enc), box b1 [.int .i64 w_0.F.Base, .int .i64 w_0.F.Done, .int .i64 w_0.F.Serial, .bool w_0.F.Stopped, w_0_F_Stagesv, w_0_F_Ordersv, .int .i64 w_0.Nodes.a0_.Site, .int .i64 w_0.Nodes.a0_.Version, .int .i64 w_0.Nodes.a0_.Serial, .int .i64 w_0.Nodes.a1_.Site, .int .i64 w_0.Nodes.a1_.Version, .int .i64 w_0.Nodes.a1_.Serial, .int .i64 w_0.Nodes.a2_.Site, .int .i64 w_0.Nodes.a2_.Version, .int .i64 w_0.Nodes.a2_.Serial, .int .i64 w_0.Nodes.a3_.Site, .int .i64 w_0.Nodes.a3_.Version, .int .i64 w_0.Nodes.a3_.Serial, w_0_Sentv, w_0_Toldv, .bool w_0.Bad], box b3 [.int .i64 0, .int .i64 0, .int .i64 0, .bool false, .slice none 0 0, .slice none 0 0, .int .i64 0, .int .i64 0, .int .i64 0, .int .i64 0, .int .i64 0, .int .i64 0, .int .i64 0, .int .i64 0, .int .i64 0, .int .i64 0, .int .i64 0, .int .i64 0, .slice none 0 0, .slice none 0 0, .bool false], box b155 [.int .i64 r153.1.Site, .int .i64 r153.1.Version, .int .i64 r153.1.Serial], row σ 3 (([r153.1] : List S_api_Node).map S_api_Node.enc)]) ?_ (fun hK195 => ?_)
        ·rintro v164
         change AnyL _ _ _ _ _ (VF.of [(2, boxP b1 0), (4, boxP b3 0), (17, .int .i64 r153.2), (104, boxP b1 18), (108, v164)]) [nro w_0_F_Stagesv NC_L_int_35 w_0.F.Stages, ro w_0_F_Ordersv 4 (w_0.F.Orders.map S_api_Order.enc), ro w_0_Sentv 3 (w_0.Sent.map S_api_Node.enc), ro w_0_Toldv 3 (w_0.Told.map S_api_Node.enc), box b1 [.int .i64 w_0.F.Base, .int .i64 w_0.F.Done, .int .i64 w_0.F.Serial, .bool w_0.F.Stopped, w_0_F_Stagesv, w_0_F_Ordersv, .int .i64 w_0.Nodes.a0_.Site, .int .i64 w_0.Nodes.a0_.Version, .int .i64 w_0.Nodes.a0_.Serial, .int .i64 w_0.Nodes.a1_.Site, .int .i64 w_0.Nodes.a1_.Version, .int .i64 w_0.Nodes.a1_.Serial, .int .i64 w_0.Nodes.a2_.Site, .int .i64 w_0.Nodes.a2_.Version, .int .i64 w_0.Nodes.a2_.Serial, .int .i64 w_0.Nodes.a3_.Site, .int .i64 w_0.Nodes.a3_.Version, .int .i64 w_0.Nodes.a3_.Serial, w_0_Sentv, w_0_Toldv, .bool w_0.Bad], box b3 [.int .i64 0, .int .i64 0, .int .i64 0, .bool false, .slice none 0 0, .slice none 0 0, .int .i64 0, .int .i64 0, .int .i64 0, .int .i64 0, .int .i64 0, .int .i64 0, .int .i64 0, .int .i64 0, .int .i64 0, .int .i64 0, .int .i64 0, .int .i64 0, .slice none 0 0, .slice none 0 0, .bool false], box b155 [.int .i64 r153.1.Site, .int .i64 r153.1.Version, .int .i64 r153.1.Serial], row v164 3 (([r153.1] : List S_api_Node).map S_api_Node.enc)] _
         refine any_all [0, 2] (by kernel_rfl) rfl ?_
         refine anyo_cons ?_ ?_
         ·
          refine any_t rfl (wn rfl) rfl (t_lit [] Try.runUnderlying63 Try.sizeOf61 Try.zeroValue61 rfl (by decide) (by decide) rfl (by simp [Value.cells, boxP])) ?_
          rintro v196 _ ⟨rfl, _⟩
          refine ⟨(ss (ss (ss (ss (se (ss (ss (sn)))))))), ?_⟩
          refine any_turn (retell 8 (g := row v196 3 (([] : List S_api_Node).map S_api_Node.enc)) rfl rfl) ?_
          exact any_weak2 (hK187 (v196, v164)) [0, 1, 2, 3, 4, 5, 6, 8, 7] (by kernel_rfl) (qv6 rfl rfl rfl rfl rfl rfl) (by decide) rfl
         refine anyo_cons ?_ ?_
         ·
          refine any_ty rfl (wn rfl) rfl (y_load_box 4 Try.isAgg63 rfl rfl rfl) ⟨(ss (ss (ss (ss (se (ss (ss (sn)))))))), ?_⟩
          exact any_weak2 (hK188 v164) [0, 1, 2, 3, 4, 5, 6, 7] (by kernel_rfl) (qv5 rfl rfl rfl rfl rfl) (by decide) rfl
         exact anyo_nil
        refine any_all [0, 2, 5] (by kernel_rfl) rfl ?_
        refine anyo_cons ?_ ?_
        ·
         refine any_t rfl (wn rfl) rfl (t_lit [] Try.runUnderlying63 Try.sizeOf61 Try.zeroValue61 rfl (by decide) (by decide) rfl (by simp [Value.cells, boxP])) ?_
         rintro v197 _ ⟨rfl, _⟩
         refine ⟨(ss (ss (ss (ss (se (ss (ss (sn)))))))), ?_⟩
         refine any_turn (retell 7 (g := row v197 3 (([] : List S_api_Node).map S_api_Node.enc)) rfl rfl) ?_
         exact any_weak2 (hK190 v197) [0, 1, 2, 3, 4, 5, 6, 7] (by kernel_rfl) (qv6 rfl rfl rfl rfl rfl rfl) (by decide) rfl
        refine anyo_cons ?_ ?_
        ·
         refine any_ty rfl (wn rfl) rfl (y_load_box 4 Try.isAgg63 rfl rfl rfl) ⟨(ss (ss (ss (ss (se (ss (ss (sn)))))))), ?_⟩
         exact any_weak2 (hK192 ()) [0, 1, 2, 3, 4, 5, 6] (by kernel_rfl) (qv5 rfl rfl rfl rfl rfl) (by decide) rfl
        refine anyo_cons ?_ ?_
        ·
         refine any_t rfl (wn rfl) rfl (t_lit [.agg #[.int .i64 r153.1.Site, .int .i64 r153.1.Version, .int .i64 r153.1.Serial]] Try.runUnderlying63 Try.sizeOf61 Try.zeroValue61 rfl (by decide) (by decide) rfl (by simp [Value.cells, boxP])) ?_
         rintro v198 _ ⟨rfl, _⟩
         refine ⟨(ss (ss (ss (ss (se (ss (ss (sn)))))))), ?_⟩
         refine any_turn (retell 7 (g := row v198 3 (([r153.1] : List S_api_Node).map S_api_Node.enc)) rfl rfl) ?_
         exact any_weak2 (hK195 v198) [0, 1, 2, 3, 4, 5, 6, 7] (by kernel_rfl) (qv5 rfl rfl rfl rfl rfl) (by decide) rfl
        exact anyo_nil
       ·replace h := cond_f h hc152
        refine run_seq ?_
        refine run_region' ?_
        refine oy rfl rfl (y_eql rfl rfl) ?_
        refine oy rfl rfl (y_assign rfl) ?_
        refine ops_nil ?_
        refine goes_code ?_
        refine run_cond (decide ((a_1.Kind.tmod 9) = 6)) rfl (fun hc199 => ?_) (fun hc199 => ?_)
        ·replace h := cond_t h hc199
         refine run_seq ?_
         refine run_region' ?_
         refine oy rfl rfl (y_fieldAddr_box (sz := 0) Try.runUnderlying65 rfl Try.sizeOf63 rfl) ?_
         refine oy rfl rfl (y_load_box 4 Try.isAgg63 rfl rfl rfl) ?_
         refine oy rfl rfl ((y_len 2 rfl Try.runUnderlying63 rfl rfl reads_ro).to (v_len S_api_Node.enc _)) ?_
         refine oy rfl rfl (y_gtr rfl rfl) ?_
         refine ops_nil ?_
         refine goes_code ?_
         refine run_cond (decide (0 < (w_0.Sent.length : Int))) rfl (fun hc200 => ?_) (fun hc200 => ?_)
         ·replace h := cond_t h hc200
          refine run_seq ?_
          refine run_weak [(2, boxP b1 0), (4, boxP b3 0), (5, .int .i64 (IntKind.i64.wrap a_1.N))] [0, 1, 2, 3, 4, 5] [nro w_0_F_Stagesv NC_L_int_35 w_0.F.Stages, ro w_0_F_Ordersv 4 (w_0.F.Orders.map S_api_Order.enc), ro w_0_Sentv 3 (w_0.Sent.map S_api_Node.enc), ro w_0_Toldv 3 (w_0.Told.map S_api_Node.enc), box b1 [.int .i64 w_0.F.Base, .int .i64 w_0.F.Done, .int .i64 w_0.F.Serial, .bool w_0.F.Stopped, w_0_F_Stagesv, w_0_F_Ordersv, .int .i64 w_0.Nodes.a0_.Site, .int .i64 w_0.Nodes.a0_.Version, .int .i64 w_0.Nodes.a0_.Serial, .int .i64 w_0.Nodes.a1_.Site, .int .i64 w_0.Nodes.a1_.Version, .int .i64 w_0.Nodes.a1_.Serial, .int .i64 w_0.Nodes.a2_.Site, .int .i64 w_0.Nodes.a2_.Version, .int .i64 w_0.Nodes.a2_.Serial, .int .i64 w_0.Nodes.a3_.Site, .int .i64 w_0.Nodes.a3_.Version, .int .i64 w_0.Nodes.a3_.Serial, w_0_Sentv, w_0_Toldv, .bool w_0.Bad], box b3 [.int .i64 0, .int .i64 0, .int .i64 0, .bool false, .slice none 0 0, .slice none 0 0, .int .i64 0, .int .i64 0, .int .i64 0, .int .i64 0, .int .i64 0, .int .i64 0, .int .i64 0, .int .i64 0, .int .i64 0, .int .i64 0, .int .i64 0, .int .i64 0, .slice none 0 0, .slice none 0 0, .bool false]] (qv3 rfl rfl rfl) (by decide) rfl ?_
          refine run_drawany [nro w_0_F_Stagesv NC_L_int_35 w_0.F.Stages, ro w_0_F_Ordersv 4 (w_0.F.Orders.map S_api_Order.enc), ro w_0_Sentv 3 (w_0.Sent.map S_api_Node.enc), ro w_0_Toldv 3 (w_0.Told.map S_api_Node.enc), box b1 [.int .i64 w_0.F.Base, .int .i64 w_0.F.Done, .int .i64 w_0.F.Serial, .bool w_0.F.Stopped, w_0_F_Stagesv, w_0_F_Ordersv, .int .i64 w_0.Nodes.a0_.Site, .int .i64 w_0.Nodes.a0_.Version, .int .i64 w_0.Nodes.a0_.Serial, .int .i64 w_0.Nodes.a1_.Site, .int .i64 w_0.Nodes.a1_.Version, .int .i64 w_0.Nodes.a1_.Serial, .int .i64 w_0.Nodes.a2_.Site, .int .i64 w_0.Nodes.a2_.Version, .int .i64 w_0.Nodes.a2_.Serial, .int .i64 w_0.Nodes.a3_.Site, .int .i64 w_0.Nodes.a3_.Version, .int .i64 w_0.Nodes.a3_.Serial, w_0_Sentv, w_0_Toldv, .bool w_0.Bad], box b3 [.int .i64 0, .int .i64 0, .int .i64 0, .bool false, .slice none 0 0, .slice none 0 0, .int .i64 0, .int .i64 0, .int .i64 0, .int .i64 0, .int .i64 0, .int .i64 0, .int .i64 0, .int .i64 0, .int .i64 0, .int .i64 0, .int .i64 0, .int .i64 0, .slice none 0 0, .slice none 0 0, .bool false]] (by kernel_rfl) ?_
          refine any_y 0 rfl (by kernel_rfl) (by kernel_rfl) (by kernel_rfl) (ss (ss (ss (ss (ss (ss (sn))))))) (wn rfl) rfl (y_fieldAddr_box (sz := 0) Try.runUnderlying65 rfl Try.sizeOf63 rfl) ?_
          refine any_y 1 rfl (by kernel_rfl) (by kernel_rfl) (by kernel_rfl) (ss (ss (ss (ss (ss (ss (sn))))))) (wn rfl) rfl (y_load_box 4 Try.isAgg63 rfl rfl rfl) ?_
          refine any_y 2 rfl (by kernel_rfl) (by kernel_rfl) (by kernel_rfl) (ss (ss (ss (ss (ss (ss (sn))))))) (wn rfl) rfl (y_move rfl) ?_
          refine any_y 3 rfl (by kernel_rfl) (by kernel_rfl) (by kernel_rfl) (ss (ss (ss (ss (ss (ss (sn))))))) (wn rfl) rfl (y_fieldAddr_box (sz := 0) Try.runUnderlying65 rfl Try.sizeOf63 rfl) ?_
          refine any_y 4 rfl (by kernel_rfl) (by kernel_rfl) (by kernel_rfl) (ss (ss (ss (ss (ss (ss (sn))))))) (wn rfl) rfl (y_load_box 4 Try.isAgg63 rfl rfl rfl) ?_
          refine any_y 5 rfl (by kernel_rfl) (by kernel_rfl) (by kernel_rfl) (ss (ss (ss (ss (ss (ss (sn))))))) (wn rfl) rfl ((y_len 2 rfl Try.runUnderlying63 rfl rfl reads_ro).to (v_len S_api_Node.enc _)) ?_
          obtain ⟨hd201, h⟩ := need_some h
          refine any_y 6 rfl (by kernel_rfl) (by kernel_rfl) (by kernel_rfl) (ss (ss (ss (ss (ss (ss (sn))))))) (wn rfl) rfl (y_rem rfl rfl hd201) ?_
          obtain ⟨x202, hzx202, hlx202, hxx202, h⟩ := idx_some h
          refine any_y 7 rfl (by kernel_rfl) (by kernel_rfl) (by kernel_rfl) (ss (ss (ss (ss (ss (ss (sn))))))) (wn rfl) rfl (y_indexAddrI (kd := .i64) (i := ((IntKind.i64.wrap a_1.N).tmod (w_0.Sent.length : Int))) 2 Try.runUnderlying63 Try.sizeOf61 rfl rfl rfl reads_ro hzx202 (map_lt hlx202)) ?_
          refine any_y 8 rfl (by kernel_rfl) (by kernel_rfl) (by kernel_rfl) (ss (ss (ss (ss (ss (ss (sn))))))) (wn rfl) rfl (y_load_agg (i := (((IntKind.i64.wrap a_1.N).tmod (w_0.Sent.length : Int))).toNat) (c := [.int .i64 x202.Site, .int .i64 x202.Version, .int .i64 x202.Serial]) 2 Try.isAgg61 Try.sizeOf61 rfl rfl reads_ro (map_get hxx202)) ?_
          refine any_all [9] (by kernel_rfl) rfl (anyo_cons ?_ anyo_nil)
          refine any_t rfl (wn rfl) rfl (t_alloc Try.zeroValue61) ?_
          rintro _ _ ⟨b203, rfl, rfl⟩
          refine ⟨(ss (ss (ss (ss (ss (ss (sn))))))), ?_⟩
          refine any_all [10] (by kernel_rfl) rfl (anyo_cons ?_ anyo_nil)
          refine any_t rfl (wn rfl) rfl (t_store 6 Try.sizeOf61 rfl rfl rfl rfl (by simp [Value.cells, boxP]) (by simp [Value.cells, Value.oneCell', boxP])) ?_
          rintro _ _ ⟨rfl, rfl⟩
          refine ⟨(ss (ss (ss (ss (ss (ss (sn))))))), ?_⟩
          refine any_turn (retell 6 (g := box b203 [.int .i64 x202.Site, .int .i64 x202.Version, .int .i64 x202.Serial]) rfl rfl) ?_
          refine any_nil (by kernel_rfl) ?_
          refine goes_code ?_
          refine run_weak [(2, boxP b1 0), (4, boxP b3 0), (18, boxP b203 0)] [0, 1, 2, 3, 4, 5, 6] [nro w_0_F_Stagesv NC_L_int_35 w_0.F.Stages, ro w_0_F_Ordersv 4 (w_0.F.Orders.map S_api_Order.enc), ro w_0_Sentv 3 (w_0.Sent.map S_api_Node.enc), ro w_0_Toldv 3 (w_0.Told.map S_api_Node.enc), box b1 [.int .i64 w_0.F.Base, .int .i64 w_0.F.Done, .int .i64 w_0.F.Serial, .bool w_0.F.Stopped, w_0_F_Stagesv, w_0_F_Ordersv, .int .i64 w_0.Nodes.a0_.Site, .int .i64 w_0.Nodes.a0_.Version, .int .i64 w_0.Nodes.a0_.Serial, .int .i64 w_0.Nodes.a1_.Site, .int .i64 w_0.Nodes.a1_.Version, .int .i64 w_0.Nodes.a1_.Serial, .int .i64 w_0.Nodes.a2_.Site, .int .i64 w_0.Nodes.a2_.Version, .int .i64 w_0.Nodes.a2_.Serial, .int .i64 w_0.Nodes.a3_.Site, .int .i64 w_0.Nodes.a3_.Version, .int .i64 w_0.Nodes.a3_.Serial, w_0_Sentv, w_0_Toldv, .bool w_0.Bad], box b3 [.int .i64 0, .int .i64 0, .int .i64 0, .bool false, .slice none 0 0, .slice none 0 0, .int .i64 0, .int .i64 0, .int .i64 0, .int .i64 0, .int .i64 0, .int .i64 0, .int .i64 0, .int .i64 0, .int .i64 0, .int .i64 0, .int .i64 0, .int .i64 0, .slice none 0 0, .slice none 0 0, .bool false], box b203 [.int .i64 x202.Site, .int .i64 x202.Version, .int .i64 x202.Serial]] (qv3 rfl rfl rfl) (by decide) rfl ?_
          refine run_drawany [nro w_0_F_Stagesv NC_L_int_35 w_0.F.Stages, ro w_0_F_Ordersv 4 (w_0.F.Orders.map S_api_Order.enc), ro w_0_Sentv 3 (w_0.Sent.map S_api_Node.enc), ro w_0_Toldv 3 (w_0.Told.map S_api_Node.enc), HA.emp, box b3 [.int .i64 0, .int .i64 0, .int .i64 0, .bool false, .slice none 0 0, .slice none 0 0, .int .i64 0, .int .i64 0, .int .i64 0, .int .i64 0, .int .i64 0, .int .i64 0, .int .i64 0, .int .i64 0, .int .i64 0, .int .i64 0, .int .i64 0, .int .i64 0, .slice none 0 0, .slice none 0 0, .bool false], box b203 [.int .i64 x202.Site, .int .i64 x202.Version, .int .i64 x202.Serial]] (by kernel_rfl) ?_
          refine any_y 0 rfl (by kernel_rfl) (by kernel_rfl) (by kernel_rfl) (ss (ss (ss (ss (se (ss (ss (sn)))))))) (wn rfl) rfl (y_fieldAddr_box (sz := 0) Try.runUnderlying61 rfl Try.sizeOf3 rfl) ?_
          refine any_y 1 rfl (by kernel_rfl) (by kernel_rfl) (by kernel_rfl) (ss (ss (ss (ss (se (ss (ss (sn)))))))) (wn rfl) rfl (y_load_box 6 Try.isAgg3 rfl rfl rfl) ?_
          refine any_y 2 rfl (by kernel_rfl) (by kernel_rfl) (by kernel_rfl) (ss (ss (ss (ss (se (ss (ss (sn)))))))) (wn rfl) rfl (y_fieldAddr_box (sz := 0) Try.runUnderlying61 rfl Try.sizeOf3 rfl) ?_
          refine any_y 3 rfl (by kernel_rfl) (by kernel_rfl) (by kernel_rfl) (ss (ss (ss (ss (se (ss (ss (sn)))))))) (wn rfl) rfl (y_load_box 6 Try.isAgg3 rfl rfl rfl) ?_
          refine any_y 4 rfl (by kernel_rfl) (by kernel_rfl) (by kernel_rfl) (ss (ss (ss (ss (se (ss (ss (sn)))))))) (wn rfl) rfl (y_fieldAddr_box (sz := 11) Try.runUnderlying65 rfl Try.sizeOf62 rfl) ?_
          refine any_y 7 rfl (by kernel_rfl) (by kernel_rfl) (by kernel_rfl) (ss (ss (ss (ss (se (ss (ss (sn)))))))) (wn rfl) rfl (y_load_boxagg (c := [.int .i64 x202.Site, .int .i64 x202.Version, .int .i64 x202.Serial]) 6 Try.isAgg61 Try.sizeOf61 rfl rfl rfl) ?_
          refine any_y 9 rfl (by kernel_rfl) (by kernel_rfl) (by kernel_rfl) (ss (ss (ss (ss (se (ss (ss (sn)))))))) (wn rfl) rfl (y_fieldAddr_box (sz := 11) Try.runUnderlying65 rfl Try.sizeOf62 rfl) ?_
          refine any_all [5] (by kernel_rfl) rfl (anyo_cons ?_ anyo_nil)
          obtain ⟨hi204, h⟩ := need_some h
          refine any_ty rfl (wn rfl) rfl (y_indexAddr_boxI (i := x202.Site) Try.runUnderlying62 Try.sizeOf61 rfl rfl hi204) ⟨(ss (ss (ss (ss (se (ss (ss (sn)))))))), ?_⟩
          refine any_all [6] (by kernel_rfl) rfl (anyo_cons ?_ anyo_nil)
          obtain ⟨x205, hxx205, h⟩ := obind_some h
          refine any_ty rfl (wn rfl) rfl (y_load_boxaggI (c := [.int .i64 x205.Site, .int .i64 x205.Version, .int .i64 x205.Serial]) 4 Try.isAgg61 Try.sizeOf61 rfl rfl rfl (arr_take (F := S_api_Node.enc) (es := 3) (fun x => (S_api_Node.enc_ok x).1) (S_4_api_Node.get_at (p := w_0.Nodes) hi204 hxx205) [.int .i64 w_0.F.Base, .int .i64 w_0.F.Done, .int .i64 w_0.F.Serial, .bool w_0.F.Stopped, w_0_F_Stagesv, w_0_F_Ordersv] [w_0_Sentv, w_0_Toldv, .bool w_0.Bad])) ⟨(ss (ss (ss (ss (se (ss (ss (sn)))))))), ?_⟩
          refine any_all [8] (by kernel_rfl) rfl (anyo_cons ?_ anyo_nil)
          obtain ⟨r206, hr207, h⟩ := obind_some h
          refine any_t rfl (wn rfl) rfl (t_callx (vs := [.agg #[.int .i64 x205.Site, .int .i64 x205.Version, .int .i64 x205.Serial], .agg #[.int .i64 x202.Site, .int .i64 x202.Version, .int .i64 x202.Serial]]) (cs := []) [] rfl Try.call26 rfl (topo_Apply_ok x205 x202  hr207) showsX_nil rfl (.inl rfl)) ?_
          rintro _ _ ⟨_, ⟨rfl, rfl⟩, rfl⟩
          refine ⟨(ss (ss (ss (ss (se (ss (ss (sn)))))))), ?_⟩
          refine any_all [10] (by kernel_rfl) rfl (anyo_cons ?_ anyo_nil)
          obtain ⟨hi208, h⟩ := need_some h
          refine any_ty rfl (wn rfl) rfl (y_indexAddr_boxI (i := x202.Site) Try.runUnderlying62 Try.sizeOf61 rfl rfl hi208) ⟨(ss (ss (ss (ss (se (ss (ss (sn)))))))), ?_⟩
          refine any_all [11] (by kernel_rfl) rfl (anyo_cons ?_ anyo_nil)
          obtain ⟨x209, hxx209, h⟩ := obind_some h
          refine any_t rfl (wn rfl) rfl (t_store_arr (F := S_api_Node.enc) (es := 3) (i := (x202.Site).toNat) (l := S_4_api_Node.toL w_0.Nodes) (v := r206) 4 [.int .i64 w_0.F.Base, .int .i64 w_0.F.Done, .int .i64 w_0.F.Serial, .bool w_0.F.Stopped, w_0_F_Stagesv, w_0_F_Ordersv] [w_0_Sentv, w_0_Toldv, .bool w_0.Bad] (fun x => (S_api_Node.enc_ok x).1) Try.sizeOf61 rfl rfl rfl rfl (by rw [S_4_api_Node.toL_len]; omega) rfl (by simp [Value.cells, Value.oneCell', boxP])) ?_
          rintro _ _ ⟨rfl, rfl⟩
          refine ⟨(ss (ss (ss (ss (se (ss (ss (sn)))))))), ?_⟩
          refine any_turn (retell 4 (g := box b1 [.int .i64 w_0.F.Base, .int .i64 w_0.F.Done, .int .i64 w_0.F.Serial, .bool w_0.F.Stopped, w_0_F_Stagesv, w_0_F_Ordersv, .int .i64 x209.a0_.Site, .int .i64 x209.a0_.Version, .int .i64 x209.a0_.Serial, .int .i64 x209.a1_.Site, .int .i64 x209.a1_.Version, .int .i64 x209.a1_.Serial, .int .i64 x209.a2_.Site, .int .i64 x209.a2_.Version, .int .i64 x209.a2_.Serial, .int .i64 x209.a3_.Site, .int .i64 x209.a3_.Version, .int .i64 x209.a3_.Serial, w_0_Sentv, w_0_Toldv, .bool w_0.Bad]) rfl (congrArg (fun q => box b1 ([.int .i64 w_0.F.Base, .int .i64 w_0.F.Done, .int .i64 w_0.F.Serial, .bool w_0.F.Stopped, w_0_F_Stagesv, w_0_F_Ordersv] ++ (q.flatMap S_api_Node.enc ++ [w_0_Sentv, w_0_Toldv, .bool w_0.Bad]))) (S_4_api_Node.put_at hxx209).symm)) ?_
          refine any_nil (by kernel_rfl) ?_
          refine goes_blk ?_
          obtain rfl := some_eq h
          exact goes_cut hL31 ((w_0.F.Base, w_0.F.Done, w_0.F.Serial, w_0.F.Stopped, w_0.F.Stages, w_0.F.Orders, x209.a0_.Site, x209.a0_.Version, x209.a0_.Serial, x209.a1_.Site, x209.a1_.Version, x209.a1_.Serial, x209.a2_.Site, x209.a2_.Version, x209.a2_.Serial, x209.a3_.Site, x209.a3_.Version, x209.a3_.Serial, w_0.Sent, w_0.Told, w_0.Bad), (w_0_F_Stagesv, w_0_F_Ordersv, w_0_Sentv, w_0_Toldv)) [4, 0, 1, 2, 3, 5] (qv2 rfl rfl) (by decide) rfl rfl
         ·replace h := cond_f h hc200
          refine run_skip ?_
          refine goes_blk ?_
          obtain rfl := some_eq h
          exact goes_cut hL31 ((w_0.F.Base, w_0.F.Done, w_0.F.Serial, w_0.F.Stopped, w_0.F.Stages, w_0.F.Orders, w_0.Nodes.a0_.Site, w_0.Nodes.a0_.Version, w_0.Nodes.a0_.Serial, w_0.Nodes.a1_.Site, w_0.Nodes.a1_.Version, w_0.Nodes.a1_.Serial, w_0.Nodes.a2_.Site, w_0.Nodes.a2_.Version, w_0.Nodes.a2_.Serial, w_0.Nodes.a3_.Site, w_0.Nodes.a3_.Version, w_0.Nodes.a3_.Serial, w_0.Sent, w_0.Told, w_0.Bad), (w_0_F_Stagesv, w_0_F_Ordersv, w_0_Sentv, w_0_Toldv)) [4, 0, 1, 2, 3, 5] (qv2 rfl rfl) (by decide) rfl rfl
        ·replace h := cond_f h hc199
         refine run_seq ?_
         refine run_region' ?_
         refine oy rfl rfl (y_eql rfl rfl) ?_
         refine oy rfl rfl (y_assign rfl) ?_
         refine ops_nil ?_
         refine goes_code ?_
         refine run_cond (decide ((a_1.Kind.tmod 9) = 7)) rfl (fun hc210 => ?_) (fun hc210 => ?_)
         ·replace h := cond_t h hc210
          refine run_weak [(2, boxP b1 0), (4, boxP b3 0), (5, .int .i64 (IntKind.i64.wrap a_1.N))] [0, 1, 2, 3, 4, 5] [nro w_0_F_Stagesv NC_L_int_35 w_0.F.Stages, ro w_0_F_Ordersv 4 (w_0.F.Orders.map S_api_Order.enc), ro w_0_Sentv 3 (w_0.Sent.map S_api_Node.enc), ro w_0_Toldv 3 (w_0.Told.map S_api_Node.enc), box b1 [.int .i64 w_0.F.Base, .int .i64 w_0.F.Done, .int .i64 w_0.F.Serial, .bool w_0.F.Stopped, w_0_F_Stagesv, w_0_F_Ordersv, .int .i64 w_0.Nodes.a0_.Site, .int .i64 w_0.Nodes.a0_.Version, .int .i64 w_0.Nodes.a0_.Serial, .int .i64 w_0.Nodes.a1_.Site, .int .i64 w_0.Nodes.a1_.Version, .int .i64 w_0.Nodes.a1_.Serial, .int .i64 w_0.Nodes.a2_.Site, .int .i64 w_0.Nodes.a2_.Version, .int .i64 w_0.Nodes.a2_.Serial, .int .i64 w_0.Nodes.a3_.Site, .int .i64 w_0.Nodes.a3_.Version, .int .i64 w_0.Nodes.a3_.Serial, w_0_Sentv, w_0_Toldv, .bool w_0.Bad], box b3 [.int .i64 0, .int .i64 0, .int .i64 0, .bool false, .slice none 0 0, .slice none 0 0, .int .i64 0, .int .i64 0, .int .i64 0, .int .i64 0, .int .i64 0, .int .i64 0, .int .i64 0, .int .i64 0, .int .i64 0, .int .i64 0, .int .i64 0, .int .i64 0, .slice none 0 0, .slice none 0 0, .bool false]] (qv3 rfl rfl rfl) (by decide) rfl ?_
          obtain ⟨hr213, h⟩ := need_some h
          obtain ⟨hi214, h⟩ := need_some h
          obtain ⟨x215, hxx215, h⟩ := obind_some h
          obtain ⟨hr218, h⟩ := need_some h
          refine run_drawany [nro w_0_F_Stagesv NC_L_int_35 w_0.F.Stages, ro w_0_F_Ordersv 4 (w_0.F.Orders.map S_api_Order.enc), ro w_0_Sentv 3 (w_0.Sent.map S_api_Node.enc), ro w_0_Toldv 3 (w_0.Told.map S_api_Node.enc), HA.emp, box b3 [.int .i64 0, .int .i64 0, .int .i64 0, .bool false, .slice none 0 0, .slice none 0 0, .int .i64 0, .int .i64 0, .int .i64 0, .int .i64 0, .int .i64 0, .int .i64 0, .int .i64 0, .int .i64 0, .int .i64 0, .int .i64 0, .int .i64 0, .int .i64 0, .slice none 0 0, .slice none 0 0, .bool false]] (by kernel_rfl) ?_
          refine any_y 1 rfl (by kernel_rfl) (by kernel_rfl) (by kernel_rfl) (ss (ss (ss (ss (se (ss (sn))))))) (wn rfl) rfl (y_fieldAddr_box (sz := 0) Try.runUnderlying65 rfl Try.sizeOf63 rfl) ?_
          refine any_y 4 rfl (by kernel_rfl) (by kernel_rfl) (by kernel_rfl) (ss (ss (ss (ss (se (ss (sn))))))) (wn rfl) rfl (y_move rfl) ?_
          refine any_y 5 rfl (by kernel_rfl) (by kernel_rfl) (by kernel_rfl) (ss (ss (ss (ss (se (ss (sn))))))) (wn rfl) rfl (y_rem rfl rfl (by decide)) ?_
          refine any_y 6 rfl (by kernel_rfl) (by kernel_rfl) (by kernel_rfl) (ss (ss (ss (ss (se (ss (sn))))))) (wn rfl) rfl (y_fieldAddr_box (sz := 11) Try.runUnderlying65 rfl Try.sizeOf62 rfl) ?_
          refine any_cut2 #[true, true, true, true, true, true, true, true, true, true, true, true, true] 0 (Value × Value) (fun σ => [(2, boxP b1 0), (4, boxP b3 0)]) (fun σ => [nro w_0_F_Stagesv NC_L_int_35 w_0.F.Stages, ro w_0_F_Ordersv 4 (w_0.F.Orders.map S_api_Order.enc), ro w_0_Sentv 3 (w_0.Sent.map S_api_Node.enc), ro w_0_Toldv 3 (w_0.Told.map S_api_Node.enc), box b1 [.int .i64 w_0.F.Base, .int .i64 w_0.F.Done, .int .i64 w_0.F.Serial, .bool w_0.F.Stopped, w_0_F_Stagesv, w_0_F_Ordersv, .int .i64 w_0.Nodes.a0_.Site, .int .i64 w_0.Nodes.a0_.Version, .int .i64 w_0.Nodes.a0_.Serial, .int .i64 w_0.Nodes.a1_.Site, .int .i64 w_0.Nodes.a1_.Version, .int .i64 w_0.Nodes.a1_.Serial, .int .i64 w_0.Nodes.a2_.Site, .int .i64 w_0.Nodes.a2_.Version, .int .i64 w_0.Nodes.a2_.Serial, .int .i64 w_0.Nodes.a3_.Site, .int .i64 w_0.Nodes.a3_.Version, .int .i64 w_0.Nodes.a3_.Serial, w_0_Sentv, σ.1, .bool w_0.Bad], box b3 [.int .i64 0, .int .i64 0, .int .i64 0, .bool false, .slice none 0 0, .slice none 0 0, .int .i64 0, .int .i64 0, .int .i64 0, .int .i64 0, .int .i64 0, .int .i64 0, .int .i64 0, .int .i64 0, .int .i64 0, .int .i64 0, .int .i64 0, .int .i64 0, .slice none 0 0, .slice none 0 0, .bool false], row σ.1 3 (((([] : List S_api_Node) ++ w_0.Told) ++ ([x215] : List S_api_Node)).map S_api_Node.enc), row σ.2 3 (([x215] : List S_api_Node).map S_api_Node.enc)]) ?_ (fun hK229 => ?_)
          ·rintro ⟨v227, v226⟩
           change AnyL _ _ _ _ _ (VF.of [(2, boxP b1 0), (4, boxP b3 0)]) [nro w_0_F_Stagesv NC_L_int_35 w_0.F.Stages, ro w_0_F_Ordersv 4 (w_0.F.Orders.map S_api_Order.enc), ro w_0_Sentv 3 (w_0.Sent.map S_api_Node.enc), ro w_0_Toldv 3 (w_0.Told.map S_api_Node.enc), box b1 [.int .i64 w_0.F.Base, .int .i64 w_0.F.Done, .int .i64 w_0.F.Serial, .bool w_0.F.Stopped, w_0_F_Stagesv, w_0_F_Ordersv, .int .i64 w_0.Nodes.a0_.Site, .int .i64 w_0.Nodes.a0_.Version, .int .i64 w_0.Nodes.a0_.Serial, .int .i64 w_0.Nodes.a1_.Site, .int .i64 w_0.Nodes.a1_.Version, .int .i64 w_0.Nodes.a1_.Serial, .int .i64 w_0.Nodes.a2_.Site, .int .i64 w_0.Nodes.a2_.Version, .int .i64 w_0.Nodes.a2_.Serial, .int .i64 w_0.Nodes.a3_.Site, .int .i64 w_0.Nodes.a3_.Version, .int .i64 w_0.Nodes.a3_.Serial, w_0_Sentv, v227, .bool w_0.Bad], box b3 [.int .i64 0, .int .i64 0, .int .i64 0, .bool false, .slice none 0 0, .slice none 0 0, .int .i64 0, .int .i64 0, .int .i64 0, .int .i64 0, .int .i64 0, .int .i64 0, .int .i64 0, .int .i64 0, .int .i64 0, .int .i64 0, .int .i64 0, .int .i64 0, .slice none 0 0, .slice none 0 0, .bool false], row v227 3 (((([] : List S_api_Node) ++ w_0.Told) ++ ([x215] : List S_api_Node)).map S_api_Node.enc), row v226 3 (([x215] : List S_api_Node).map S_api_Node.enc)] _
           refine any_nil (by kernel_rfl) ?_
           refine goes_blk ?_
           refine goes_turn (Go.Abs.freeze 6 rfl) ?_
           obtain rfl := some_eq h
           exact goes_cut hL31 ((w_0.F.Base, w_0.F.Done, w_0.F.Serial, w_0.F.Stopped, w_0.F.Stages, w_0.F.Orders, w_0.Nodes.a0_.Site, w_0.Nodes.a0_.Version, w_0.Nodes.a0_.Serial, w_0.Nodes.a1_.Site, w_0.Nodes.a1_.Version, w_0.Nodes.a1_.Serial, w_0.Nodes.a2_.Site, w_0.Nodes.a2_.Version, w_0.Nodes.a2_.Serial, w_0.Nodes.a3_.Site, w_0.Nodes.a3_.Version, w_0.Nodes.a3_.Serial, w_0.Sent, ((([] : List S_api_Node) ++ w_0.Told) ++ ([x215] : List S_api_Node)), w_0.Bad), (w_0_F_Stagesv, w_0_F_Ordersv, w_0_Sentv, v227)) [4, 0, 1, 2, 6, 5] (qv2 rfl rfl) (by decide) rfl rfl
          refine any_cut2 #[true, true, true, true, true, true, true, true, true, true, true, true, false] 1 (Value × Value) (fun σ => [(2, boxP b1 0), (4, boxP b3 0), (156, σ.1), (157, boxP b1 19)]) (fun σ => [nro w_0_F_Stagesv NC_L_int_35 w_0.F.Stages, ro w_0_F_Ordersv 4 (w_0.F.Orders.map S_api_Order.enc), ro w_0_Sentv 3 (w_0.Sent.map S_api_Node.enc), ro w_0_Toldv 3 (w_0.Told.map S_api_Node.enc), box b1 [.int .i64 w_0.F.Base, .int .i64 w_0.F.Done, .int .i64 w_0.F.Serial, .bool w_0.F.Stopped, w_0_F_Stagesv, w_0_F_Ordersv, .int .i64 w_0.Nodes.a0_.Site, .int .i64 w_0.Nodes.a0_.Version, .int .i64 w_0.Nodes.a0_.Serial, .int .i64 w_0.Nodes.a1_.Site, .int .i64 w_0.Nodes.a1_.Version, .int .i64 w_0.Nodes.a1_.Serial, .int .i64 w_0.Nodes.a2_.Site, .int .i64 w_0.Nodes.a2_.Version, .int .i64 w_0.Nodes.a2_.Serial, .int .i64 w_0.Nodes.a3_.Site, .int .i64 w_0.Nodes.a3_.Version, .int .i64 w_0.Nodes.a3_.Serial, w_0_Sentv, w_0_Toldv, .bool w_0.Bad], box b3 [.int .i64 0, .int .i64 0, .int .i64 0, .bool false, .slice none 0 0, .slice none 0 0, .int .i64 0, .int .i64 0, .int .i64 0, .int .i64 0, .int .i64 0, .int .i64 0, .int .i64 0, .int .i64 0, .int .i64 0, .int .i64 0, .int .i64 0, .int .i64 0, .slice none 0 0, .slice none 0 0, .bool false], row σ.1 3 (((([] : List S_api_Node) ++ w_0.Told) ++ ([x215] : List S_api_Node)).map S_api_Node.enc), row σ.2 3 (([x215] : List S_api_Node).map S_api_Node.enc)]) ?_ (fun hK230 => ?_)
          ·rintro ⟨v227, v226⟩
           change AnyL _ _ _ _ _ (VF.of [(2, boxP b1 0), (4, boxP b3 0), (156, v227), (157, boxP b1 19)]) [nro w_0_F_Stagesv NC_L_int_35 w_0.F.Stages, ro w_0_F_Ordersv 4 (w_0.F.Orders.map S_api_Order.enc), ro w_0_Sentv 3 (w_0.Sent.map S_api_Node.enc), ro w_0_Toldv 3 (w_0.Told.map S_api_Node.enc), box b1 [.int .i64 w_0.F.Base, .int .i64 w_0.F.Done, .int .i64 w_0.F.Serial, .bool w_0.F.Stopped, w_0_F_Stagesv, w_0_F_Ordersv, .int .i64 w_0.Nodes.a0_.Site, .int .i64 w_0.Nodes.a0_.Version, .int .i64 w_0.Nodes.a0_.Serial, .int .i64 w_0.Nodes.a1_.Site, .int .i64 w_0.Nodes.a1_.Version, .int .i64 w_0.Nodes.a1_.Serial, .int .i64 w_0.Nodes.a2_.Site, .int .i64 w_0.Nodes.a2_.Version, .int .i64 w_0.Nodes.a2_.Serial, .int .i64 w_0.Nodes.a3_.Site, .int .i64 w_0.Nodes.a3_.Version, .int .i64 w_0.Nodes.a3_.Serial, w_0_Sentv, w_0_Toldv, .bool w_0.Bad], box b3 [.int .i64 0, .int .i64 0, .int .i64 0, .bool false, .slice none 0 0, .slice none 0 0, .int .i64 0, .int .i64 0, .int .i64 0, .int .i64 0, .int .i64 0, .int .i64 0, .int .i64 0, .int .i64 0, .int .i64 0, .int .i64 0, .int .i64 0, .int .i64 0, .slice none 0 0, .slice none 0 0, .bool false], row v227 3 (((([] : List S_api_Node) ++ w_0.Told) ++ ([x215] : List S_api_Node)).map S_api_Node.enc), row v226 3 (([x215] : List S_api_Node).map S_api_Node.enc)] _
           refine any_all [12] (by kernel_rfl) rfl ?_
           refine anyo_cons ?_ ?_
           ·
            refine anyo_slc 6 rfl reads_row (fun hs231 hs231o => ?_)
            refine any_t rfl (wn rfl) rfl (t_store 4 Try.sizeOf63 rfl rfl rfl (by rw [hs231]; rfl) (by simp [Value.cells, boxP]) (by rw [hs231]; exact allL_cons hs231o (allL_nil))) ?_
            rintro _ _ ⟨rfl, rfl⟩
            refine ⟨(ss (ss (ss (ss (se (ss (sn))))))), ?_⟩
            refine any_turn (retell 4 (g := box b1 [.int .i64 w_0.F.Base, .int .i64 w_0.F.Done, .int .i64 w_0.F.Serial, .bool w_0.F.Stopped, w_0_F_Stagesv, w_0_F_Ordersv, .int .i64 w_0.Nodes.a0_.Site, .int .i64 w_0.Nodes.a0_.Version, .int .i64 w_0.Nodes.a0_.Serial, .int .i64 w_0.Nodes.a1_.Site, .int .i64 w_0.Nodes.a1_.Version, .int .i64 w_0.Nodes.a1_.Serial, .int .i64 w_0.Nodes.a2_.Site, .int .i64 w_0.Nodes.a2_.Version, .int .i64 w_0.Nodes.a2_.Serial, .int .i64 w_0.Nodes.a3_.Site, .int .i64 w_0.Nodes.a3_.Version, .int .i64 w_0.Nodes.a3_.Serial, w_0_Sentv, v227, .bool w_0.Bad]) rfl (by rw [hs231]; rfl)) ?_
            exact any_weak2 (hK229 (v227, v226)) [0, 1, 2, 3, 4, 5, 6, 7] (by kernel_rfl) (qv2 rfl rfl) (by decide) rfl
           exact anyo_nil
          refine any_cut2 #[true, true, true, true, true, true, true, true, true, true, false, false, false] 3 (Value × Value) (fun σ => [(2, boxP b1 0), (4, boxP b3 0), (149, σ.1), (155, σ.2)]) (fun σ => [nro w_0_F_Stagesv NC_L_int_35 w_0.F.Stages, ro w_0_F_Ordersv 4 (w_0.F.Orders.map S_api_Order.enc), ro w_0_Sentv 3 (w_0.Sent.map S_api_Node.enc), ro w_0_Toldv 3 (w_0.Told.map S_api_Node.enc), box b1 [.int .i64 w_0.F.Base, .int .i64 w_0.F.Done, .int .i64 w_0.F.Serial, .bool w_0.F.Stopped, w_0_F_Stagesv, w_0_F_Ordersv, .int .i64 w_0.Nodes.a0_.Site, .int .i64 w_0.Nodes.a0_.Version, .int .i64 w_0.Nodes.a0_.Serial, .int .i64 w_0.Nodes.a1_.Site, .int .i64 w_0.Nodes.a1_.Version, .int .i64 w_0.Nodes.a1_.Serial, .int .i64 w_0.Nodes.a2_.Site, .int .i64 w_0.Nodes.a2_.Version, .int .i64 w_0.Nodes.a2_.Serial, .int .i64 w_0.Nodes.a3_.Site, .int .i64 w_0.Nodes.a3_.Version, .int .i64 w_0.Nodes.a3_.Serial, w_0_Sentv, w_0_Toldv, .bool w_0.Bad], box b3 [.int .i64 0, .int .i64 0, .int .i64 0, .bool false, .slice none 0 0, .slice none 0 0, .int .i64 0, .int .i64 0, .int .i64 0, .int .i64 0, .int .i64 0, .int .i64 0, .int .i64 0, .int .i64 0, .int .i64 0, .int .i64 0, .int .i64 0, .int .i64 0, .slice none 0 0, .slice none 0 0, .bool false], row σ.1 3 ((([] : List S_api_Node) ++ w_0.Told).map S_api_Node.enc), row σ.2 3 (([x215] : List S_api_Node).map S_api_Node.enc)]) ?_ (fun hK232 => ?_)
          ·rintro ⟨v221, v226⟩
           change AnyL _ _ _ _ _ (VF.of [(2, boxP b1 0), (4, boxP b3 0), (149, v221), (155, v226)]) [nro w_0_F_Stagesv NC_L_int_35 w_0.F.Stages, ro w_0_F_Ordersv 4 (w_0.F.Orders.map S_api_Order.enc), ro w_0_Sentv 3 (w_0.Sent.map S_api_Node.enc), ro w_0_Toldv 3 (w_0.Told.map S_api_Node.enc), box b1 [.int .i64 w_0.F.Base, .int .i64 w_0.F.Done, .int .i64 w_0.F.Serial, .bool w_0.F.Stopped, w_0_F_Stagesv, w_0_F_Ordersv, .int .i64 w_0.Nodes.a0_.Site, .int .i64 w_0.Nodes.a0_.Version, .int .i64 w_0.Nodes.a0_.Serial, .int .i64 w_0.Nodes.a1_.Site, .int .i64 w_0.Nodes.a1_.Version, .int .i64 w_0.Nodes.a1_.Serial, .int .i64 w_0.Nodes.a2_.Site, .int .i64 w_0.Nodes.a2_.Version, .int .i64 w_0.Nodes.a2_.Serial, .int .i64 w_0.Nodes.a3_.Site, .int .i64 w_0.Nodes.a3_.Version, .int .i64 w_0.Nodes.a3_.Serial, w_0_Sentv, w_0_Toldv, .bool w_0.Bad], box b3 [.int .i64 0, .int .i64 0, .int .i64 0, .bool false, .slice none 0 0, .slice none 0 0, .int .i64 0, .int .i64 0, .int .i64 0, .int .i64 0, .int .i64 0, .int .i64 0, .int .i64 0, .int .i64 0, .int .i64 0, .int .i64 0, .int .i64 0, .int .i64 0, .slice none 0 0, .slice none 0 0, .bool false], row v221 3 ((([] : List S_api_Node) ++ w_0.Told).map S_api_Node.enc), row v226 3 (([x215] : List S_api_Node).map S_api_Node.enc)] _
           refine any_all [10] (by kernel_rfl) rfl ?_
           refine anyo_cons ?_ ?_
           ·
            refine any_t rfl (wn rfl) rfl (t_append (es := 3) 6 rfl Try.runUnderlying63 rfl Try.runUnderlying63 (.inr ⟨_, rfl⟩) Try.typeInfo61 rfl (by decide) Try.zeroValue61 rfl rfl rfl rfl (src_reads 7 rfl reads_row (map_ok S_api_Node.enc_ok _)) (map_room hr218 (by decide)) (map_fit hr218)) ?_
            rintro v233 _ rfl
            refine ⟨(ss (ss (ss (ss (se (ss (sn))))))), ?_⟩
            refine any_turn (retell 6 (g := row v233 3 (((([] : List S_api_Node) ++ w_0.Told) ++ ([x215] : List S_api_Node)).map S_api_Node.enc)) rfl (congrArg (row _ _) List.map_append.symm)) ?_
            refine any_y 11 rfl (by kernel_rfl) (by kernel_rfl) (by kernel_rfl) (ss (ss (ss (ss (se (ss (sn))))))) (wn rfl) rfl (y_fieldAddr_box (sz := 0) Try.runUnderlying65 rfl Try.sizeOf63 rfl) ?_
            exact any_weak2 (hK230 (v233, v226)) [0, 1, 2, 3, 4, 5, 6, 7] (by kernel_rfl) (qv4 rfl rfl rfl rfl) (by decide) rfl
           exact anyo_nil
          refine any_cut2 #[true, true, true, true, true, true, true, true, true, false, false, false, false] 4 (Value) (fun σ => [(2, boxP b1 0), (4, boxP b3 0), (149, σ), (154, .agg #[.int .i64 x215.Site, .int .i64 x215.Version, .int .i64 x215.Serial])]) (fun σ => [nro w_0_F_Stagesv NC_L_int_35 w_0.F.Stages, ro w_0_F_Ordersv 4 (w_0.F.Orders.map S_api_Order.enc), ro w_0_Sentv 3 (w_0.Sent.map S_api_Node.enc), ro w_0_Toldv 3 (w_0.Told.map S_api_Node.enc), box b1 [.int .i64 w_0.F.Base, .int .i64 w_0.F.Done, .int .i64 w_0.F.Serial, .bool w_0.F.Stopped, w_0_F_Stagesv, w_0_F_Ordersv, .int .i64 w_0.Nodes.a0_.Site, .int .i64 w_0.Nodes.a0_.Version, .int .i64 w_0.Nodes.a0_.Serial, .int .i64 w_0.Nodes.a1_.Site, .int .i64 w_0.Nodes.a1_.Version, .int .i64 w_0.Nodes.a1_.Serial, .int .i64 w_0.Nodes.a2_.Site, .int .i64 w_0.Nodes.a2_.Version, .int .i64 w_0.Nodes.a2_.Serial, .int .i64 w_0.Nodes.a3_.Site, .int .i64 w_0.Nodes.a3_.Version, .int .i64 w_0.Nodes.a3_.Serial, w_0_Sentv, w_0_Toldv, .bool w_0.Bad], box b3 [.int .i64 0, .int .i64 0, .int .i64 0, .bool false, .slice none 0 0, .slice none 0 0, .int .i64 0, .int .i64 0, .int .i64 0, .int .i64 0, .int .i64 0, .int .i64 0, .int .i64 0, .int .i64 0, .int .i64 0, .int .i64 0, .int .i64 0, .int .i64 0, .slice none 0 0, .slice none 0 0, .bool false], row σ 3 ((([] : List S_api_Node) ++ w_0.Told).map S_api_Node.enc)]) ?_ (fun hK234 => ?_)
          ·rintro v221
           change AnyL _ _ _ _ _ (VF.of [(2, boxP b1 0), (4, boxP b3 0), (149, v221), (154, .agg #[.int .i64 x215.Site, .int .i64 x215.Version, .int .i64 x215.Serial])]) [nro w_0_F_Stagesv NC_L_int_35 w_0.F.Stages, ro w_0_F_Ordersv 4 (w_0.F.Orders.map S_api_Order.enc), ro w_0_Sentv 3 (w_0.Sent.map S_api_Node.enc), ro w_0_Toldv 3 (w_0.Told.map S_api_Node.enc), box b1 [.int .i64 w_0.F.Base, .int .i64 w_0.F.Done, .int .i64 w_0.F.Serial, .bool w_0.F.Stopped, w_0_F_Stagesv, w_0_F_Ordersv, .int .i64 w_0.Nodes.a0_.Site, .int .i64 w_0.Nodes.a0_.Version, .int .i64 w_0.Nodes.a0_.Serial, .int .i64 w_0.Nodes.a1_.Site, .int .i64 w_0.Nodes.a1_.Version, .int .i64 w_0.Nodes.a1_.Serial, .int .i64 w_0.Nodes.a2_.Site, .int .i64 w_0.Nodes.a2_.Version, .int .i64 w_0.Nodes.a2_.Serial, .int .i64 w_0.Nodes.a3_.Site, .int .i64 w_0.Nodes.a3_.Version, .int .i64 w_0.Nodes.a3_.Serial, w_0_Sentv, w_0_Toldv, .bool w_0.Bad], box b3 [.int .i64 0, .int .i64 0, .int .i64 0, .bool false, .slice none 0 0, .slice none 0 0, .int .i64 0, .int .i64 0, .int .i64 0, .int .i64 0, .int .i64 0, .int .i64 0, .int .i64 0, .int .i64 0, .int .i64 0, .int .i64 0, .int .i64 0, .int .i64 0, .slice none 0 0, .slice none 0 0, .bool false], row v221 3 ((([] : List S_api_Node) ++ w_0.Told).map S_api_Node.enc)] _
           refine any_all [9] (by kernel_rfl) rfl ?_
           refine anyo_cons ?_ ?_
           ·
            refine any_t rfl (wn rfl) rfl (t_lit [.agg #[.int .i64 x215.Site, .int .i64 x215.Version, .int .i64 x215.Serial]] Try.runUnderlying63 Try.sizeOf61 Try.zeroValue61 rfl (by decide) (by decide) rfl (by simp [Value.cells, boxP])) ?_
            rintro v235 _ ⟨rfl, _⟩
            refine ⟨(ss (ss (ss (ss (se (ss (sn))))))), ?_⟩
            refine any_turn (retell 7 (g := row v235 3 (([x215] : List S_api_Node).map S_api_Node.enc)) rfl rfl) ?_
            exact any_weak2 (hK232 (v221, v235)) [0, 1, 2, 3, 4, 5, 6, 7] (by kernel_rfl) (qv4 rfl rfl rfl rfl) (by decide) rfl
           exact anyo_nil
          refine any_cut2 #[true, true, true, false, true, true, true, true, true, true, false, false, false] 4 (Value × Value) (fun σ => [(2, boxP b1 0), (4, boxP b3 0), (146, σ.1), (148, w_0_Toldv), (155, σ.2)]) (fun σ => [nro w_0_F_Stagesv NC_L_int_35 w_0.F.Stages, ro w_0_F_Ordersv 4 (w_0.F.Orders.map S_api_Order.enc), ro w_0_Sentv 3 (w_0.Sent.map S_api_Node.enc), ro w_0_Toldv 3 (w_0.Told.map S_api_Node.enc), box b1 [.int .i64 w_0.F.Base, .int .i64 w_0.F.Done, .int .i64 w_0.F.Serial, .bool w_0.F.Stopped, w_0_F_Stagesv, w_0_F_Ordersv, .int .i64 w_0.Nodes.a0_.Site, .int .i64 w_0.Nodes.a0_.Version, .int .i64 w_0.Nodes.a0_.Serial, .int .i64 w_0.Nodes.a1_.Site, .int .i64 w_0.Nodes.a1_.Version, .int .i64 w_0.Nodes.a1_.Serial, .int .i64 w_0.Nodes.a2_.Site, .int .i64 w_0.Nodes.a2_.Version, .int .i64 w_0.Nodes.a2_.Serial, .int .i64 w_0.Nodes.a3_.Site, .int .i64 w_0.Nodes.a3_.Version, .int .i64 w_0.Nodes.a3_.Serial, w_0_Sentv, w_0_Toldv, .bool w_0.Bad], box b3 [.int .i64 0, .int .i64 0, .int .i64 0, .bool false, .slice none 0 0, .slice none 0 0, .int .i64 0, .int .i64 0, .int .i64 0, .int .i64 0, .int .i64 0, .int .i64 0, .int .i64 0, .int .i64 0, .int .i64 0, .int .i64 0, .int .i64 0, .int .i64 0, .slice none 0 0, .slice none 0 0, .bool false], row σ.1 3 (([] : List S_api_Node).map S_api_Node.enc), row σ.2 3 (([x215] : List S_api_Node).map S_api_Node.enc)]) ?_ (fun hK236 => ?_)
          ·rintro ⟨v220, v225⟩
           change AnyL _ _ _ _ _ (VF.of [(2, boxP b1 0), (4, boxP b3 0), (146, v220), (148, w_0_Toldv), (155, v225)]) [nro w_0_F_Stagesv NC_L_int_35 w_0.F.Stages, ro w_0_F_Ordersv 4 (w_0.F.Orders.map S_api_Order.enc), ro w_0_Sentv 3 (w_0.Sent.map S_api_Node.enc), ro w_0_Toldv 3 (w_0.Told.map S_api_Node.enc), box b1 [.int .i64 w_0.F.Base, .int .i64 w_0.F.Done, .int .i64 w_0.F.Serial, .bool w_0.F.Stopped, w_0_F_Stagesv, w_0_F_Ordersv, .int .i64 w_0.Nodes.a0_.Site, .int .i64 w_0.Nodes.a0_.Version, .int .i64 w_0.Nodes.a0_.Serial, .int .i64 w_0.Nodes.a1_.Site, .int .i64 w_0.Nodes.a1_.Version, .int .i64 w_0.Nodes.a1_.Serial, .int .i64 w_0.Nodes.a2_.Site, .int .i64 w_0.Nodes.a2_.Version, .int .i64 w_0.Nodes.a2_.Serial, .int .i64 w_0.Nodes.a3_.Site, .int .i64 w_0.Nodes.a3_.Version, .int .i64 w_0.Nodes.a3_.Serial, w_0_Sentv, w_0_Toldv, .bool w_0.Bad], box b3 [.int .i64 0, .int .i64 0, .int .i64 0, .bool false, .slice none 0 0, .slice none 0 0, .int .i64 0, .int .i64 0, .int .i64 0, .int .i64 0, .int .i64 0, .int .i64 0, .int .i64 0, .int .i64 0, .int .i64 0, .int .i64 0, .int .i64 0, .int .i64 0, .slice none 0 0, .slice none 0 0, .bool false], row v220 3 (([] : List S_api_Node).map S_api_Node.enc), row v225 3 (([x215] : List S_api_Node).map S_api_Node.enc)] _
           refine any_all [3] (by kernel_rfl) rfl ?_
           refine anyo_cons ?_ ?_
           ·
            refine any_t rfl (wn rfl) rfl (t_append (es := 3) 6 rfl Try.runUnderlying63 rfl Try.runUnderlying63 (.inr ⟨_, rfl⟩) Try.typeInfo61 rfl (by decide) Try.zeroValue61 rfl rfl rfl rfl (src_reads 3 rfl reads_ro (map_ok S_api_Node.enc_ok _)) (map_room hr213 (by decide)) (map_fit hr213)) ?_
            rintro v237 _ rfl
            refine ⟨(ss (ss (ss (ss (se (ss (sn))))))), ?_⟩
            refine any_turn (retell 6 (g := row v237 3 ((([] : List S_api_Node) ++ w_0.Told).map S_api_Node.enc)) rfl (congrArg (row _ _) List.map_append.symm)) ?_
            exact any_weak2 (hK232 (v237, v225)) [0, 1, 2, 3, 4, 5, 6, 7] (by kernel_rfl) (qv4 rfl rfl rfl rfl) (by decide) rfl
           exact anyo_nil
          refine any_cut2 #[true, true, true, true, true, true, true, true, false, false, false, false, false] 5 (Value) (fun σ => [(2, boxP b1 0), (4, boxP b3 0), (149, σ), (153, boxP b1 (6 + (((IntKind.i64.wrap a_1.N).tmod 4)).toNat * 3))]) (fun σ => [nro w_0_F_Stagesv NC_L_int_35 w_0.F.Stages, ro w_0_F_Ordersv 4 (w_0.F.Orders.map S_api_Order.enc), ro w_0_Sentv 3 (w_0.Sent.map S_api_Node.enc), ro w_0_Toldv 3 (w_0.Told.map S_api_Node.enc), box b1 [.int .i64 w_0.F.Base, .int .i64 w_0.F.Done, .int .i64 w_0.F.Serial, .bool w_0.F.Stopped, w_0_F_Stagesv, w_0_F_Ordersv, .int .i64 w_0.Nodes.a0_.Site, .int .i64 w_0.Nodes.a0_.Version, .int .i64 w_0.Nodes.a0_.Serial, .int .i64 w_0.Nodes.a1_.Site, .int .i64 w_0.Nodes.a1_.Version, .int .i64 w_0.Nodes.a1_.Serial, .int .i64 w_0.Nodes.a2_.Site, .int .i64 w_0.Nodes.a2_.Version, .int .i64 w_0.Nodes.a2_.Serial, .int .i64 w_0.Nodes.a3_.Site, .int .i64 w_0.Nodes.a3_.Version, .int .i64 w_0.Nodes.a3_.Serial, w_0_Sentv, w_0_Toldv, .bool w_0.Bad], box b3 [.int .i64 0, .int .i64 0, .int .i64 0, .bool false, .slice none 0 0, .slice none 0 0, .int .i64 0, .int .i64 0, .int .i64 0, .int .i64 0, .int .i64 0, .int .i64 0, .int .i64 0, .int .i64 0, .int .i64 0, .int .i64 0, .int .i64 0, .int .i64 0, .slice none 0 0, .slice none 0 0, .bool false], row σ 3 ((([] : List S_api_Node) ++ w_0.Told).map S_api_Node.enc)]) ?_ (fun hK238 => ?_)
          ·rintro v221
           change AnyL _ _ _ _ _ (VF.of [(2, boxP b1 0), (4, boxP b3 0), (149, v221), (153, boxP b1 (6 + (((IntKind.i64.wrap a_1.N).tmod 4)).toNat * 3))]) [nro w_0_F_Stagesv NC_L_int_35 w_0.F.Stages, ro w_0_F_Ordersv 4 (w_0.F.Orders.map S_api_Order.enc), ro w_0_Sentv 3 (w_0.Sent.map S_api_Node.enc), ro w_0_Toldv 3 (w_0.Told.map S_api_Node.enc), box b1 [.int .i64 w_0.F.Base, .int .i64 w_0.F.Done, .int .i64 w_0.F.Serial, .bool w_0.F.Stopped, w_0_F_Stagesv, w_0_F_Ordersv, .int .i64 w_0.Nodes.a0_.Site, .int .i64 w_0.Nodes.a0_.Version, .int .i64 w_0.Nodes.a0_.Serial, .int .i64 w_0.Nodes.a1_.Site, .int .i64 w_0.Nodes.a1_.Version, .int .i64 w_0.Nodes.a1_.Serial, .int .i64 w_0.Nodes.a2_.Site, .int .i64 w_0.Nodes.a2_.Version, .int .i64 w_0.Nodes.a2_.Serial, .int .i64 w_0.Nodes.a3_.Site, .int .i64 w_0.Nodes.a3_.Version, .int .i64 w_0.Nodes.a3_.Serial, w_0_Sentv, w_0_Toldv, .bool w_0.Bad], box b3 [.int .i64 0, .int .i64 0, .int .i64 0, .bool false, .slice none 0 0, .slice none 0 0, .int .i64 0, .int .i64 0, .int .i64 0, .int .i64 0, .int .i64 0, .int .i64 0, .int .i64 0, .int .i64 0, .int .i64 0, .int .i64 0, .int .i64 0, .int .i64 0, .slice none 0 0, .slice none 0 0, .bool false], row v221 3 ((([] : List S_api_Node) ++ w_0.Told).map S_api_Node.enc)] _
           refine any_all [8] (by kernel_rfl) rfl ?_
           refine anyo_cons ?_ ?_
           ·
            refine any_ty rfl (wn rfl) rfl (y_load_boxaggI (c := [.int .i64 x215.Site, .int .i64 x215.Version, .int .i64 x215.Serial]) 4 Try.isAgg61 Try.sizeOf61 rfl rfl rfl (arr_take (F := S_api_Node.enc) (es := 3) (fun x => (S_api_Node.enc_ok x).1) (S_4_api_Node.get_at (p := w_0.Nodes) hi214 hxx215) [.int .i64 w_0.F.Base, .int .i64 w_0.F.Done, .int .i64 w_0.F.Serial, .bool w_0.F.Stopped, w_0_F_Stagesv, w_0_F_Ordersv] [w_0_Sentv, w_0_Toldv, .bool w_0.Bad])) ⟨(ss (ss (ss (ss (se (ss (sn))))))), ?_⟩
            exact any_weak2 (hK234 v221) [0, 1, 2, 3, 4, 5, 6] (by kernel_rfl) (qv4 rfl rfl rfl rfl) (by decide) rfl
           exact anyo_nil
          refine any_cut2 #[true, true, true, false, true, true, true, true, true, false, false, false, false] 5 (Value) (fun σ => [(2, boxP b1 0), (4, boxP b3 0), (146, σ), (148, w_0_Toldv), (154, .agg #[.int .i64 x215.Site, .int .i64 x215.Version, .int .i64 x215.Serial])]) (fun σ => [nro w_0_F_Stagesv NC_L_int_35 w_0.F.Stages, ro w_0_F_Ordersv 4 (w_0.F.Orders.map S_api_Order.enc), ro w_0_Sentv 3 (w_0.Sent.map S_api_Node.enc), ro w_0_Toldv 3 (w_0.Told.map S_api_Node.enc), box b1 [.int .i64 w_0.F.Base, .int .i64 w_0.F.Done, .int .i64 w_0.F.Serial, .bool w_0.F.Stopped, w_0_F_Stagesv, w_0_F_Ordersv, .int .i64 w_0.Nodes.a0_.Site, .int .i64 w_0.Nodes.a0_.Version, .int .i64 w_0.Nodes.a0_.Serial, .int .i64 w_0.Nodes.a1_.Site, .int .i64 w_0.Nodes.a1_.Version, .int .i64 w_0.Nodes.a1_.Serial, .int .i64 w_0.Nodes.a2_.Site, .int .i64 w_0.Nodes.a2_.Version, .int .i64 w_0.Nodes.a2_.Serial, .int .i64 w_0.Nodes.a3_.Site, .int .i64 w_0.Nodes.a3_.Version, .int .i64 w_0.Nodes.a3_.Serial, w_0_Sentv, w_0_Toldv, .bool w_0.Bad], box b3 [.int .i64 0, .int .i64 0, .int .i64 0, .bool false, .slice none 0 0, .slice none 0 0, .int .i64 0, .int .i64 0, .int .i64 0, .int .i64 0, .int .i64 0, .int .i64 0, .int .i64 0, .int .i64 0, .int .i64 0, .int .i64 0, .int .i64 0, .int .i64 0, .slice none 0 0, .slice none 0 0, .bool false], row σ 3 (([] : List S_api_Node).map S_api_Node.enc)]) ?_ (fun hK239 => ?_)
          ·rintro v220
           change AnyL _ _ _ _ _ (VF.of [(2, boxP b1 0), (4, boxP b3 0), (146, v220), (148, w_0_Toldv), (154, .agg #[.int .i64 x215.Site, .int .i64 x215.Version, .int .i64 x215.Serial])]) [nro w_0_F_Stagesv NC_L_int_35 w_0.F.Stages, ro w_0_F_Ordersv 4 (w_0.F.Orders.map S_api_Order.enc), ro w_0_Sentv 3 (w_0.Sent.map S_api_Node.enc), ro w_0_Toldv 3 (w_0.Told.map S_api_Node.enc), box b1 [.int .i64 w_0.F.Base, .int .i64 w_0.F.Done, .int .i64 w_0.F.Serial, .bool w_0.F.Stopped, w_0_F_Stagesv, w_0_F_Ordersv, .int .i64 w_0.Nodes.a0_.Site, .int .i64 w_0.Nodes.a0_.Version, .int .i64 w_0.Nodes.a0_.Serial, .int .i64 w_0.Nodes.a1_.Site, .int .i64 w_0.Nodes.a1_.Version, .int .i64 w_0.Nodes.a1_.Serial, .int .i64 w_0.Nodes.a2_.Site, .int .i64 w_0.Nodes.a2_.Version, .int .i64 w_0.Nodes.a2_.Serial, .int .i64 w_0.Nodes.a3_.Site, .int .i64 w_0.Nodes.a3_.Version, .int .i64 w_0.Nodes.a3_.Serial, w_0_Sentv, w_0_Toldv, .bool w_0.Bad], box b3 [.int .i64 0, .int .i64 0, .int .i64 0, .bool false, .slice none 0 0, .slice none 0 0, .int .i64 0, .int .i64 0, .int .i64 0, .int .i64 0, .int .i64 0, .int .i64 0, .int .i64 0, .int .i64 0, .int .i64 0, .int .i64 0, .int .i64 0, .int .i64 0, .slice none 0 0, .slice none 0 0, .bool false], row v220 3 (([] : List S_api_Node).map S_api_Node.enc)] _
           refine any_all [3, 9] (by kernel_rfl) rfl ?_
           refine anyo_cons ?_ ?_
           ·
            refine any_t rfl (wn rfl) rfl (t_append (es := 3) 6 rfl Try.runUnderlying63 rfl Try.runUnderlying63 (.inr ⟨_, rfl⟩) Try.typeInfo61 rfl (by decide) Try.zeroValue61 rfl rfl rfl rfl (src_reads 3 rfl reads_ro (map_ok S_api_Node.enc_ok _)) (map_room hr213 (by decide)) (map_fit hr213)) ?_
            rintro v240 _ rfl
            refine ⟨(ss (ss (ss (ss (se (ss (sn))))))), ?_⟩
            refine any_turn (retell 6 (g := row v240 3 ((([] : List S_api_Node) ++ w_0.Told).map S_api_Node.enc)) rfl (congrArg (row _ _) List.map_append.symm)) ?_
            exact any_weak2 (hK234 v240) [0, 1, 2, 3, 4, 5, 6] (by kernel_rfl) (qv4 rfl rfl rfl rfl) (by decide) rfl
           refine anyo_cons ?_ ?_
           ·
            refine any_t rfl (wn rfl) rfl (t_lit [.agg #[.int .i64 x215.Site, .int .i64 x215.Version, .int .i64 x215.Serial]] Try.runUnderlying63 Try.sizeOf61 Try.zeroValue61 rfl (by decide) (by decide) rfl (by simp [Value.cells, boxP])) ?_
            rintro v241 _ ⟨rfl, _⟩
            refine ⟨(ss (ss (ss (ss (se (ss (sn))))))), ?_⟩
            refine any_turn (retell 7 (g := row v241 3 (([x215] : List S_api_Node).map S_api_Node.enc)) rfl rfl) ?_
            exact any_weak2 (hK236 (v220, v241)) [0, 1, 2, 3, 4, 5, 6, 7] (by kernel_rfl) (qv5 rfl rfl rfl rfl rfl) (by decide) rfl
           exact anyo_nil
          refine any_cut2 #[true, true, false, false, true, true, true, true, true, true, false, false, false] 5 (Value × Value) (fun σ => [(2, boxP b1 0), (4, boxP b3 0), (147, boxP b1 19), (146, σ.1), (155, σ.2)]) (fun σ => [nro w_0_F_Stagesv NC_L_int_35 w_0.F.Stages, ro w_0_F_Ordersv 4 (w_0.F.Orders.map S_api_Order.enc), ro w_0_Sentv 3 (w_0.Sent.map S_api_Node.enc), ro w_0_Toldv 3 (w_0.Told.map S_api_Node.enc), box b1 [.int .i64 w_0.F.Base, .int .i64 w_0.F.Done, .int .i64 w_0.F.Serial, .bool w_0.F.Stopped, w_0_F_Stagesv, w_0_F_Ordersv, .int .i64 w_0.Nodes.a0_.Site, .int .i64 w_0.Nodes.a0_.Version, .int .i64 w_0.Nodes.a0_.Serial, .int .i64 w_0.Nodes.a1_.Site, .int .i64 w_0.Nodes.a1_.Version, .int .i64 w_0.Nodes.a1_.Serial, .int .i64 w_0.Nodes.a2_.Site, .int .i64 w_0.Nodes.a2_.Version, .int .i64 w_0.Nodes.a2_.Serial, .int .i64 w_0.Nodes.a3_.Site, .int .i64 w_0.Nodes.a3_.Version, .int .i64 w_0.Nodes.a3_.Serial, w_0_Sentv, w_0_Toldv, .bool w_0.Bad], box b3 [.int .i64 0, .int .i64 0, .int .i64 0, .bool false, .slice none 0 0, .slice none 0 0, .int .i64 0, .int .i64 0, .int .i64 0, .int .i64 0, .int .i64 0, .int .i64 0, .int .i64 0, .int .i64 0, .int .i64 0, .int .i64 0, .int .i64 0, .int .i64 0, .slice none 0 0, .slice none 0 0, .bool false], row σ.1 3 (([] : List S_api_Node).map S_api_Node.enc), row σ.2 3 (([x215] : List S_api_Node).map S_api_Node.enc)]) ?_ (fun hK242 => ?_)
          ·rintro ⟨v220, v223⟩
           change AnyL _ _ _ _ _ (VF.of [(2, boxP b1 0), (4, boxP b3 0), (147, boxP b1 19), (146, v220), (155, v223)]) [nro w_0_F_Stagesv NC_L_int_35 w_0.F.Stages, ro w_0_F_Ordersv 4 (w_0.F.Orders.map S_api_Order.enc), ro w_0_Sentv 3 (w_0.Sent.map S_api_Node.enc), ro w_0_Toldv 3 (w_0.Told.map S_api_Node.enc), box b1 [.int .i64 w_0.F.Base, .int .i64 w_0.F.Done, .int .i64 w_0.F.Serial, .bool w_0.F.Stopped, w_0_F_Stagesv, w_0_F_Ordersv, .int .i64 w_0.Nodes.a0_.Site, .int .i64 w_0.Nodes.a0_.Version, .int .i64 w_0.Nodes.a0_.Serial, .int .i64 w_0.Nodes.a1_.Site, .int .i64 w_0.Nodes.a1_.Version, .int .i64 w_0.Nodes.a1_.Serial, .int .i64 w_0.Nodes.a2_.Site, .int .i64 w_0.Nodes.a2_.Version, .int .i64 w_0.Nodes.a2_.Serial, .int .i64 w_0.Nodes.a3_.Site, .int .i64 w_0.Nodes.a3_.Version, .int .i64 w_0.Nodes.a3_.Serial, w_0_Sentv, w_0_Toldv, .bool w_0.Bad], box b3 [.int .i64 0, .int .i64 0, .int .i64 0, .bool false, .slice none 0 0, .slice none 0 0, .int .i64 0, .int .i64 0, .int .i64 0, .int .i64 0, .int .i64 0, .int .i64 0, .int .i64 0, .int .i64 0, .int .i64 0, .int .i64 0, .int .i64 0, .int .i64 0, .slice none 0 0, .slice none 0 0, .bool false], row v220 3 (([] : List S_api_Node).map S_api_Node.enc), row v223 3 (([x215] : List S_api_Node).map S_api_Node.enc)] _
           refine any_all [2] (by kernel_rfl) rfl ?_
           refine anyo_cons ?_ ?_
           ·
            refine any_ty rfl (wn rfl) rfl (y_load_box 4 Try.isAgg63 rfl rfl rfl) ⟨(ss (ss (ss (ss (se (ss (sn))))))), ?_⟩
            exact any_weak2 (hK236 (v220, v223)) [0, 1, 2, 3, 4, 5, 6, 7] (by kernel_rfl) (qv5 rfl rfl rfl rfl rfl) (by decide) rfl
           exact anyo_nil
          refine any_cut2 #[false, true, true, false, true, true, true, true, true, true, false, false, false] 5 (Value) (fun σ => [(2, boxP b1 0), (4, boxP b3 0), (148, w_0_Toldv), (155, σ)]) (fun σ => [nro w_0_F_Stagesv NC_L_int_35 w_0.F.Stages, ro w_0_F_Ordersv 4 (w_0.F.Orders.map S_api_Order.enc), ro w_0_Sentv 3 (w_0.Sent.map S_api_Node.enc), ro w_0_Toldv 3 (w_0.Told.map S_api_Node.enc), box b1 [.int .i64 w_0.F.Base, .int .i64 w_0.F.Done, .int .i64 w_0.F.Serial, .bool w_0.F.Stopped, w_0_F_Stagesv, w_0_F_Ordersv, .int .i64 w_0.Nodes.a0_.Site, .int .i64 w_0.Nodes.a0_.Version, .int .i64 w_0.Nodes.a0_.Serial, .int .i64 w_0.Nodes.a1_.Site, .int .i64 w_0.Nodes.a1_.Version, .int .i64 w_0.Nodes.a1_.Serial, .int .i64 w_0.Nodes.a2_.Site, .int .i64 w_0.Nodes.a2_.Version, .int .i64 w_0.Nodes.a2_.Serial, .int .i64 w_0.Nodes.a3_.Site, .int .i64 w_0.Nodes.a3_.Version, .int .i64 w_0.Nodes.a3_.Serial, w_0_Sentv, w_0_Toldv, .bool w_0.Bad], box b3 [.int .i64 0, .int .i64 0, .int .i64 0, .bool false, .slice none 0 0, .slice none 0 0, .int .i64 0, .int .i64 0, .int .i64 0, .int .i64 0, .int .i64 0, .int .i64 0, .int .i64 0, .int .i64 0, .int .i64 0, .int .i64 0, .int .i64 0, .int .i64 0, .slice none 0 0, .slice none 0 0, .bool false], row σ 3 (([x215] : List S_api_Node).map S_api_Node.enc)]) ?_ (fun hK243 => ?_)
          ·rintro v224
           change AnyL _ _ _ _ _ (VF.of [(2, boxP b1 0), (4, boxP b3 0), (148, w_0_Toldv), (155, v224)]) [nro w_0_F_Stagesv NC_L_int_35 w_0.F.Stages, ro w_0_F_Ordersv 4 (w_0.F.Orders.map S_api_Order.enc), ro w_0_Sentv 3 (w_0.Sent.map S_api_Node.enc), ro w_0_Toldv 3 (w_0.Told.map S_api_Node.enc), box b1 [.int .i64 w_0.F.Base, .int .i64 w_0.F.Done, .int .i64 w_0.F.Serial, .bool w_0.F.Stopped, w_0_F_Stagesv, w_0_F_Ordersv, .int .i64 w_0.Nodes.a0_.Site, .int .i64 w_0.Nodes.a0_.Version, .int .i64 w_0.Nodes.a0_.Serial, .int .i64 w_0.Nodes.a1_.Site, .int .i64 w_0.Nodes.a1_.Version, .int .i64 w_0.Nodes.a1_.Serial, .int .i64 w_0.Nodes.a2_.Site, .int .i64 w_0.Nodes.a2_.Version, .int .i64 w_0.Nodes.a2_.Serial, .int .i64 w_0.Nodes.a3_.Site, .int .i64 w_0.Nodes.a3_.Version, .int .i64 w_0.Nodes.a3_.Serial, w_0_Sentv, w_0_Toldv, .bool w_0.Bad], box b3 [.int .i64 0, .int .i64 0, .int .i64 0, .bool false, .slice none 0 0, .slice none 0 0, .int .i64 0, .int .i64 0, .int .i64 0, .int .i64 0, .int .i64 0, .int .i64 0, .int .i64 0, .int .i64 0, .int .i64 0, .int .i64 0, .int .i64 0, .int .i64 0, .slice none 0 0, .slice none 0 0, .bool false], row v224 3 (([x215] : List S_api_Node).map S_api_Node.enc)] _
           refine any_all [0] (by kernel_rfl) rfl ?_
           refine anyo_cons ?_ ?_
           ·
            refine any_t rfl (wn rfl) rfl (t_lit [] Try.runUnderlying63 Try.sizeOf61 Try.zeroValue61 rfl (by decide) (by decide) rfl (by simp [Value.cells, boxP])) ?_
            rintro v244 _ ⟨rfl, _⟩
            refine ⟨(ss (ss (ss (ss (se (ss (sn))))))), ?_⟩
            refine any_turn (retell 7 (g := row v244 3 (([] : List S_api_Node).map S_api_Node.enc)) rfl rfl) ?_
            exact any_weak2 (hK236 (v244, v224)) [0, 1, 2, 3, 4, 5, 7, 6] (by kernel_rfl) (qv5 rfl rfl rfl rfl rfl) (by decide) rfl
           exact anyo_nil
          refine any_cut2 #[true, true, true, true, true, true, true, false, false, false, false, false, false] 6 (Value) (fun σ => [(2, boxP b1 0), (4, boxP b3 0), (151, .int .i64 ((IntKind.i64.wrap a_1.N).tmod 4)), (152, boxP b1 6), (149, σ)]) (fun σ => [nro w_0_F_Stagesv NC_L_int_35 w_0.F.Stages, ro w_0_F_Ordersv 4 (w_0.F.Orders.map S_api_Order.enc), ro w_0_Sentv 3 (w_0.Sent.map S_api_Node.enc), ro w_0_Toldv 3 (w_0.Told.map S_api_Node.enc), box b1 [.int .i64 w_0.F.Base, .int .i64 w_0.F.Done, .int .i64 w_0.F.Serial, .bool w_0.F.Stopped, w_0_F_Stagesv, w_0_F_Ordersv, .int .i64 w_0.Nodes.a0_.Site, .int .i64 w_0.Nodes.a0_.Version, .int .i64 w_0.Nodes.a0_.Serial, .int .i64 w_0.Nodes.a1_.Site, .int .i64 w_0.Nodes.a1_.Version, .int .i64 w_0.Nodes.a1_.Serial, .int .i64 w_0.Nodes.a2_.Site, .int .i64 w_0.Nodes.a2_.Version, .int .i64 w_0.Nodes.a2_.Serial, .int .i64 w_0.Nodes.a3_.Site, .int .i64 w_0.Nodes.a3_.Version, .int .i64 w_0.Nodes.a3_.Serial, w_0_Sentv, w_0_Toldv, .bool w_0.Bad], box b3 [.int .i64 0, .int .i64 0, .int .i64 0, .bool false, .slice none 0 0, .slice none 0 0, .int .i64 0, .int .i64 0, .int .i64 0, .int .i64 0, .int .i64 0, .int .i64 0, .int .i64 0, .int .i64 0, .int .i64 0, .int .i64 0, .int .i64 0, .int .i64 0, .slice none 0 0, .slice none 0 0, .bool false], row σ 3 ((([] : List S_api_Node) ++ w_0.Told).map S_api_Node.enc)]) ?_ (fun hK245 => ?_)
          ·rintro v221
           change AnyL _ _ _ _ _ (VF.of [(2, boxP b1 0), (4, boxP b3 0), (151, .int .i64 ((IntKind.i64.wrap a_1.N).tmod 4)), (152, boxP b1 6), (149, v221)]) [nro w_0_F_Stagesv NC_L_int_35 w_0.F.Stages, ro w_0_F_Ordersv 4 (w_0.F.Orders.map S_api_Order.enc), ro w_0_Sentv 3 (w_0.Sent.map S_api_Node.enc), ro w_0_Toldv 3 (w_0.Told.map S_api_Node.enc), box b1 [.int .i64 w_0.F.Base, .int .i64 w_0.F.Done, .int .i64 w_0.F.Serial, .bool w_0.F.Stopped, w_0_F_Stagesv, w_0_F_Ordersv, .int .i64 w_0.Nodes.a0_.Site, .int .i64 w_0.Nodes.a0_.Version, .int .i64 w_0.Nodes.a0_.Serial, .int .i64 w_0.Nodes.a1_.Site, .int .i64 w_0.Nodes.a1_.Version, .int .i64 w_0.Nodes.a1_.Serial, .int .i64 w_0.Nodes.a2_.Site, .int .i64 w_0.Nodes.a2_.Version, .int .i64 w_0.Nodes.a2_.Serial, .int .i64 w_0.Nodes.a3_.Site, .int .i64 w_0.Nodes.a3_.Version, .int .i64 w_0.Nodes.a3_.Serial, w_0_Sentv, w_0_Toldv, .bool w_0.Bad], box b3 [.int .i64 0, .int .i64 0, .int .i64 0, .bool false, .slice none 0 0, .slice none 0 0, .int .i64 0, .int .i64 0, .int .i64 0, .int .i64 0, .int .i64 0, .int .i64 0, .int .i64 0, .int .i64 0, .int .i64 0, .int .i64 0, .int .i64 0, .int .i64 0, .slice none 0 0, .slice none 0 0, .bool false], row v221 3 ((([] : List S_api_Node) ++ w_0.Told).map S_api_Node.enc)] _
           refine any_all [7] (by kernel_rfl) rfl ?_
           refine anyo_cons ?_ ?_
           ·
            refine any_ty rfl (wn rfl) rfl (y_indexAddr_boxI (i := ((IntKind.i64.wrap a_1.N).tmod 4)) Try.runUnderlying62 Try.sizeOf61 rfl rfl hi214) ⟨(ss (ss (ss (ss (se (ss (sn))))))), ?_⟩
            exact any_weak2 (hK238 v221) [0, 1, 2, 3, 4, 5, 6] (by kernel_rfl) (qv4 rfl rfl rfl rfl) (by decide) rfl
           exact anyo_nil
          refine any_cut2 #[true, true, true, false, true, true, true, true, false, false, false, false, false] 6 (Value) (fun σ => [(2, boxP b1 0), (4, boxP b3 0), (146, σ), (148, w_0_Toldv), (153, boxP b1 (6 + (((IntKind.i64.wrap a_1.N).tmod 4)).toNat * 3))]) (fun σ => [nro w_0_F_Stagesv NC_L_int_35 w_0.F.Stages, ro w_0_F_Ordersv 4 (w_0.F.Orders.map S_api_Order.enc), ro w_0_Sentv 3 (w_0.Sent.map S_api_Node.enc), ro w_0_Toldv 3 (w_0.Told.map S_api_Node.enc), box b1 [.int .i64 w_0.F.Base, .int .i64 w_0.F.Done, .int .i64 w_0.F.Serial, .bool w_0.F.Stopped, w_0_F_Stagesv, w_0_F_Ordersv, .int .i64 w_0.Nodes.a0_.Site, .int .i64 w_0.Nodes.a0_.Version, .int .i64 w_0.Nodes.a0_.Serial, .int .i64 w_0.Nodes.a1_.Site, .int .i64 w_0.Nodes.a1_.Version, .int .i64 w_0.Nodes.a1_.Serial, .int .i64 w_0.Nodes.a2_.Site, .int .i64 w_0.Nodes.a2_.Version, .int .i64 w_0.Nodes.a2_.Serial, .int .i64 w_0.Nodes.a3_.Site, .int .i64 w_0.Nodes.a3_.Version, .int .i64 w_0.Nodes.a3_.Serial, w_0_Sentv, w_0_Toldv, .bool w_0.Bad], box b3 [.int .i64 0, .int .i64 0, .int .i64 0, .bool false, .slice none 0 0, .slice none 0 0, .int .i64 0, .int .i64 0, .int .i64 0, .int .i64 0, .int .i64 0, .int .i64 0, .int .i64 0, .int .i64 0, .int .i64 0, .int .i64 0, .int .i64 0, .int .i64 0, .slice none 0 0, .slice none 0 0, .bool false], row σ 3 (([] : List S_api_Node).map S_api_Node.enc)]) ?_ (fun hK246 => ?_)
          ·rintro v220
           change AnyL _ _ _ _ _ (VF.of [(2, boxP b1 0), (4, boxP b3 0), (146, v220), (148, w_0_Toldv), (153, boxP b1 (6 + (((IntKind.i64.wrap a_1.N).tmod 4)).toNat * 3))]) [nro w_0_F_Stagesv NC_L_int_35 w_0.F.Stages, ro w_0_F_Ordersv 4 (w_0.F.Orders.map S_api_Order.enc), ro w_0_Sentv 3 (w_0.Sent.map S_api_Node.enc), ro w_0_Toldv 3 (w_0.Told.map S_api_Node.enc), box b1 [.int .i64 w_0.F.Base, .int .i64 w_0.F.Done, .int .i64 w_0.F.Serial, .bool w_0.F.Stopped, w_0_F_Stagesv, w_0_F_Ordersv, .int .i64 w_0.Nodes.a0_.Site, .int .i64 w_0.Nodes.a0_.Version, .int .i64 w_0.Nodes.a0_.Serial, .int .i64 w_0.Nodes.a1_.Site, .int .i64 w_0.Nodes.a1_.Version, .int .i64 w_0.Nodes.a1_.Serial, .int .i64 w_0.Nodes.a2_.Site, .int .i64 w_0.Nodes.a2_.Version, .int .i64 w_0.Nodes.a2_.Serial, .int .i64 w_0.Nodes.a3_.Site, .int .i64 w_0.Nodes.a3_.Version, .int .i64 w_0.Nodes.a3_.Serial, w_0_Sentv, w_0_Toldv, .bool w_0.Bad], box b3 [.int .i64 0, .int .i64 0, .int .i64 0, .bool false, .slice none 0 0, .slice none 0 0, .int .i64 0, .int .i64 0, .int .i64 0, .int .i64 0, .int .i64 0, .int .i64 0, .int .i64 0, .int .i64 0, .int .i64 0, .int .i64 0, .int .i64 0, .int .i64 0, .slice none 0 0, .slice none 0 0, .bool false], row v220 3 (([] : List S_api_Node).map S_api_Node.enc)] _
           refine any_all [3, 8] (by kernel_rfl) rfl ?_
           refine anyo_cons ?_ ?_
           ·
            refine any_t rfl (wn rfl) rfl (t_append (es := 3) 6 rfl Try.runUnderlying63 rfl Try.runUnderlying63 (.inr ⟨_, rfl⟩) Try.typeInfo61 rfl (by decide) Try.zeroValue61 rfl rfl rfl rfl (src_reads 3 rfl reads_ro (map_ok S_api_Node.enc_ok _)) (map_room hr213 (by decide)) (map_fit hr213)) ?_
            rintro v247 _ rfl
            refine ⟨(ss (ss (ss (ss (se (ss (sn))))))), ?_⟩
            refine any_turn (retell 6 (g := row v247 3 ((([] : List S_api_Node) ++ w_0.Told).map S_api_Node.enc)) rfl (congrArg (row _ _) List.map_append.symm)) ?_
            exact any_weak2 (hK238 v247) [0, 1, 2, 3, 4, 5, 6] (by kernel_rfl) (qv4 rfl rfl rfl rfl) (by decide) rfl
           refine anyo_cons ?_ ?_
           ·
            refine any_ty rfl (wn rfl) rfl (y_load_boxaggI (c := [.int .i64 x215.Site, .int .i64 x215.Version, .int .i64 x215.Serial]) 4 Try.isAgg61 Try.sizeOf61 rfl rfl rfl (arr_take (F := S_api_Node.enc) (es := 3) (fun x => (S_api_Node.enc_ok x).1) (S_4_api_Node.get_at (p := w_0.Nodes) hi214 hxx215) [.int .i64 w_0.F.Base, .int .i64 w_0.F.Done, .int .i64 w_0.F.Serial, .bool w_0.F.Stopped, w_0_F_Stagesv, w_0_F_Ordersv] [w_0_Sentv, w_0_Toldv, .bool w_0.Bad])) ⟨(ss (ss (ss (ss (se (ss (sn))))))), ?_⟩
            exact any_weak2 (hK239 v220) [0, 1, 2, 3, 4, 5, 6] (by kernel_rfl) (qv5 rfl rfl rfl rfl rfl) (by decide) rfl
           exact anyo_nil
          refine any_cut2 #[true, true, false, false, true, true, true, true, true, false, false, false, false] 6 (Value) (fun σ => [(2, boxP b1 0), (4, boxP b3 0), (147, boxP b1 19), (146, σ), (154, .agg #[.int .i64 x215.Site, .int .i64 x215.Version, .int .i64 x215.Serial])]) (fun σ => [nro w_0_F_Stagesv NC_L_int_35 w_0.F.Stages, ro w_0_F_Ordersv 4 (w_0.F.Orders.map S_api_Order.enc), ro w_0_Sentv 3 (w_0.Sent.map S_api_Node.enc), ro w_0_Toldv 3 (w_0.Told.map S_api_Node.enc), box b1 [.int .i64 w_0.F.Base, .int .i64 w_0.F.Done, .int .i64 w_0.F.Serial, .bool w_0.F.Stopped, w_0_F_Stagesv, w_0_F_Ordersv, .int .i64 w_0.Nodes.a0_.Site, .int .i64 w_0.Nodes.a0_.Version, .int .i64 w_0.Nodes.a0_.Serial, .int .i64 w_0.Nodes.a1_.Site, .int .i64 w_0.Nodes.a1_.Version, .int .i64 w_0.Nodes.a1_.Serial, .int .i64 w_0.Nodes.a2_.Site, .int .i64 w_0.Nodes.a2_.Version, .int .i64 w_0.Nodes.a2_.Serial, .int .i64 w_0.Nodes.a3_.Site, .int .i64 w_0.Nodes.a3_.Version, .int .i64 w_0.Nodes.a3_.Serial, w_0_Sentv, w_0_Toldv, .bool w_0.Bad], box b3 [.int .i64 0, .int .i64 0, .int .i64 0, .bool false, .slice none 0 0, .slice none 0 0, .int .i64 0, .int .i64 0, .int .i64 0, .int .i64 0, .int .i64 0, .int .i64 0, .int .i64 0, .int .i64 0, .int .i64 0, .int .i64 0, .int .i64 0, .int .i64 0, .slice none 0 0, .slice none 0 0, .bool false], row σ 3 (([] : List S_api_Node).map S_api_Node.enc)]) ?_ (fun hK248 => ?_)
          ·rintro v220
           change AnyL _ _ _ _ _ (VF.of [(2, boxP b1 0), (4, boxP b3 0), (147, boxP b1 19), (146, v220), (154, .agg #[.int .i64 x215.Site, .int .i64 x215.Version, .int .i64 x215.Serial])]) [nro w_0_F_Stagesv NC_L_int_35 w_0.F.Stages, ro w_0_F_Ordersv 4 (w_0.F.Orders.map S_api_Order.enc), ro w_0_Sentv 3 (w_0.Sent.map S_api_Node.enc), ro w_0_Toldv 3 (w_0.Told.map S_api_Node.enc), box b1 [.int .i64 w_0.F.Base, .int .i64 w_0.F.Done, .int .i64 w_0.F.Serial, .bool w_0.F.Stopped, w_0_F_Stagesv, w_0_F_Ordersv, .int .i64 w_0.Nodes.a0_.Site, .int .i64 w_0.Nodes.a0_.Version, .int .i64 w_0.Nodes.a0_.Serial, .int .i64 w_0.Nodes.a1_.Site, .int .i64 w_0.Nodes.a1_.Version, .int .i64 w_0.Nodes.a1_.Serial, .int .i64 w_0.Nodes.a2_.Site, .int .i64 w_0.Nodes.a2_.Version, .int .i64 w_0.Nodes.a2_.Serial, .int .i64 w_0.Nodes.a3_.Site, .int .i64 w_0.Nodes.a3_.Version, .int .i64 w_0.Nodes.a3_.Serial, w_0_Sentv, w_0_Toldv, .bool w_0.Bad], box b3 [.int .i64 0, .int .i64 0, .int .i64 0, .bool false, .slice none 0 0, .slice none 0 0, .int .i64 0, .int .i64 0, .int .i64 0, .int .i64 0, .int .i64 0, .int .i64 0, .int .i64 0, .int .i64 0, .int .i64 0, .int .i64 0, .int .i64 0, .int .i64 0, .slice none 0 0, .slice none 0 0, .bool false], row v220 3 (([] : List S_api_Node).map S_api_Node.enc)] _
           refine any_all [2, 9] (by kernel_rfl) rfl ?_
           refine anyo_cons ?_ ?_
           ·
            refine any_ty rfl (wn rfl) rfl (y_load_box 4 Try.isAgg63 rfl rfl rfl) ⟨(ss (ss (ss (ss (se (ss (sn))))))), ?_⟩
            exact any_weak2 (hK239 v220) [0, 1, 2, 3, 4, 5, 6] (by kernel_rfl) (qv5 rfl rfl rfl rfl rfl) (by decide) rfl
           refine anyo_cons ?_ ?_
           ·
            refine any_t rfl (wn rfl) rfl (t_lit [.agg #[.int .i64 x215.Site, .int .i64 x215.Version, .int .i64 x215.Serial]] Try.runUnderlying63 Try.sizeOf61 Try.zeroValue61 rfl (by decide) (by decide) rfl (by simp [Value.cells, boxP])) ?_
            rintro v249 _ ⟨rfl, _⟩
            refine ⟨(ss (ss (ss (ss (se (ss (sn))))))), ?_⟩
            refine any_turn (retell 7 (g := row v249 3 (([x215] : List S_api_Node).map S_api_Node.enc)) rfl rfl) ?_
            exact any_weak2 (hK242 (v220, v249)) [0, 1, 2, 3, 4, 5, 6, 7] (by kernel_rfl) (qv5 rfl rfl rfl rfl rfl) (by decide) rfl
           exact anyo_nil
          refine any_cut2 #[false, true, true, false, true, true, true, true, true, false, false, false, false] 6 (Unit) (fun σ => [(2, boxP b1 0), (4, boxP b3 0), (148, w_0_Toldv), (154, .agg #[.int .i64 x215.Site, .int .i64 x215.Version, .int .i64 x215.Serial])]) (fun σ => [nro w_0_F_Stagesv NC_L_int_35 w_0.F.Stages, ro w_0_F_Ordersv 4 (w_0.F.Orders.map S_api_Order.enc), ro w_0_Sentv 3 (w_0.Sent.map S_api_Node.enc), ro w_0_Toldv 3 (w_0.Told.map S_api_Node.enc), box b1 [.int .i64 w_0.F.Base, .int .i64 w_0.F.Done, .int .i64 w_0.F.Serial, .bool w_0.F.Stopped, w_0_F_Stagesv, w_0_F_Ordersv, .int .i64 w_0.Nodes.a0_.Site, .int .i64 w_0.Nodes.a0_.Version, .int .i64 w_0.Nodes.a0_.Serial, .int .i64 w_0.Nodes.a1_.Site, .int .i64 w_0.Nodes.a1_.Version, .int .i64 w_0.Nodes.a1_.Serial, .int .i64 w_0.Nodes.a2_.Site, .int .i64 w_0.Nodes.a2_.Version, .int .i64 w_0.Nodes.a2_.Serial, .int .i64 w_0.Nodes.a3_.Site, .int .i64 w_0.Nodes.a3_.Version, .int .i64 w_0.Nodes.a3_.Serial, w_0_Sentv, w_0_Toldv, .bool w_0.Bad], box b3 [.int .i64 0, .int .i64 0, .int .i64 0, .bool false, .slice none 0 0, .slice none 0 0, .int .i64 0, .int .i64 0, .int .i64 0, .int .i64 0, .int .i64 0, .int .i64 0, .int .i64 0, .int .i64 0, .int .i64 0, .int .i64 0, .int .i64 0, .int .i64 0, .slice none 0 0, .slice none 0 0, .bool false]]) ?_ (fun hK250 => ?_)
          ·rintro _
           change AnyL _ _ _ _ _ (VF.of [(2, boxP b1 0), (4, boxP b3 0), (148, w_0_Toldv), (154, .agg #[.int .i64 x215.Site, .int .i64 x215.Version, .int .i64 x215.Serial])]) [nro w_0_F_Stagesv NC_L_int_35 w_0.F.Stages, ro w_0_F_Ordersv 4 (w_0.F.Orders.map S_api_Order.enc), ro w_0_Sentv 3 (w_0.Sent.map S_api_Node.enc), ro w_0_Toldv 3 (w_0.Told.map S_api_Node.enc), box b1 [.int .i64 w_0.F.Base, .int .i64 w_0.F.Done, .int .i64 w_0.F.Serial, .bool w_0.F.Stopped, w_0_F_Stagesv, w_0_F_Ordersv, .int .i64 w_0.Nodes.a0_.Site, .int .i64 w_0.Nodes.a0_.Version, .int .i64 w_0.Nodes.a0_.Serial, .int .i64 w_0.Nodes.a1_.Site, .int .i64 w_0.Nodes.a1_.Version, .int .i64 w_0.Nodes.a1_.Serial, .int .i64 w_0.Nodes.a2_.Site, .int .i64 w_0.Nodes.a2_.Version, .int .i64 w_0.Nodes.a2_.Serial, .int .i64 w_0.Nodes.a3_.Site, .int .i64 w_0.Nodes.a3_.Version, .int .i64 w_0.Nodes.a3_.Serial, w_0_Sentv, w_0_Toldv, .bool w_0.Bad], box b3 [.int .i64 0, .int .i64 0, .int .i64 0, .bool false, .slice none 0 0, .slice none 0 0, .int .i64 0, .int .i64 0, .int .i64 0, .int .i64 0, .int .i64 0, .int .i64 0, .int .i64 0, .int .i64 0, .int .i64 0, .int .i64 0, .int .i64 0, .int .i64 0, .slice none 0 0, .slice none 0 0, .bool false]] _
           refine any_all [0, 9] (by kernel_rfl) rfl ?_
           refine anyo_cons ?_ ?_
           ·
            refine any_t rfl (wn rfl) rfl (t_lit [] Try.runUnderlying63 Try.sizeOf61 Try.zeroValue61 rfl (by decide) (by decide) rfl (by simp [Value.cells, boxP])) ?_
            rintro v251 _ ⟨rfl, _⟩
            refine ⟨(ss (ss (ss (ss (se (ss (sn))))))), ?_⟩
            refine any_turn (retell 6 (g := row v251 3 (([] : List S_api_Node).map S_api_Node.enc)) rfl rfl) ?_
            exact any_weak2 (hK239 v251) [0, 1, 2, 3, 4, 5, 6] (by kernel_rfl) (qv5 rfl rfl rfl rfl rfl) (by decide) rfl
           refine anyo_cons ?_ ?_
           ·
            refine any_t rfl (wn rfl) rfl (t_lit [.agg #[.int .i64 x215.Site, .int .i64 x215.Version, .int .i64 x215.Serial]] Try.runUnderlying63 Try.sizeOf61 Try.zeroValue61 rfl (by decide) (by decide) rfl (by simp [Value.cells, boxP])) ?_
            rintro v252 _ ⟨rfl, _⟩
            refine ⟨(ss (ss (ss (ss (se (ss (sn))))))), ?_⟩
            refine any_turn (retell 6 (g := row v252 3 (([x215] : List S_api_Node).map S_api_Node.enc)) rfl rfl) ?_
            exact any_weak2 (hK243 v252) [0, 1, 2, 3, 4, 5, 6] (by kernel_rfl) (qv4 rfl rfl rfl rfl) (by decide) rfl
           exact anyo_nil
          refine any_cut2 #[false, true, false, false, true, true, true, true, true, true, false, false, false] 6 (Value) (fun σ => [(2, boxP b1 0), (4, boxP b3 0), (147, boxP b1 19), (155, σ)]) (fun σ => [nro w_0_F_Stagesv NC_L_int_35 w_0.F.Stages, ro w_0_F_Ordersv 4 (w_0.F.Orders.map S_api_Order.enc), ro w_0_Sentv 3 (w_0.Sent.map S_api_Node.enc), ro w_0_Toldv 3 (w_0.Told.map S_api_Node.enc), box b1 [.int .i64 w_0.F.Base, .int .i64 w_0.F.Done, .int .i64 w_0.F.Serial, .bool w_0.F.Stopped, w_0_F_Stagesv, w_0_F_Ordersv, .int .i64 w_0.Nodes.a0_.Site, .int .i64 w_0.Nodes.a0_.Version, .int .i64 w_0.Nodes.a0_.Serial, .int .i64 w_0.Nodes.a1_.Site, .int .i64 w_0.Nodes.a1_.Version, .int .i64 w_0.Nodes.a1_.Serial, .int .i64 w_0.Nodes.a2_.Site, .int .i64 w_0.Nodes.a2_.Version, .int .i64 w_0.Nodes.a2_.Serial, .int .i64 w_0.Nodes.a3_.Site, .int .i64 w_0.Nodes.a3_.Version, .int .i64 w_0.Nodes.a3_.Serial, w_0_Sentv, w_0_Toldv, .bool w_0.Bad], box b3 [.int .i64 0, .int .i64 0, .int .i64 0, .bool false, .slice none 0 0, .slice none 0 0, .int .i64 0, .int .i64 0, .int .i64 0, .int .i64 0, .int .i64 0, .int .i64 0, .int .i64 0, .int .i64 0, .int .i64 0, .int .i64 0, .int .i64 0, .int .i64 0, .slice none 0 0, .slice none 0 0, .bool false], row σ 3 (([x215] : List S_api_Node).map S_api_Node.enc)]) ?_ (fun hK253 => ?_)
          ·rintro v222
           change AnyL _ _ _ _ _ (VF.of [(2, boxP b1 0), (4, boxP b3 0), (147, boxP b1 19), (155, v222)]) [nro w_0_F_Stagesv NC_L_int_35 w_0.F.Stages, ro w_0_F_Ordersv 4 (w_0.F.Orders.map S_api_Order.enc), ro w_0_Sentv 3 (w_0.Sent.map S_api_Node.enc), ro w_0_Toldv 3 (w_0.Told.map S_api_Node.enc), box b1 [.int .i64 w_0.F.Base, .int .i64 w_0.F.Done, .int .i64 w_0.F.Serial, .bool w_0.F.Stopped, w_0_F_Stagesv, w_0_F_Ordersv, .int .i64 w_0.Nodes.a0_.Site, .int .i64 w_0.Nodes.a0_.Version, .int .i64 w_0.Nodes.a0_.Serial, .int .i64 w_0.Nodes.a1_.Site, .int .i64 w_0.Nodes.a1_.Version, .int .i64 w_0.Nodes.a1_.Serial, .int .i64 w_0.Nodes.a2_.Site, .int .i64 w_0.Nodes.a2_.Version, .int .i64 w_0.Nodes.a2_.Serial, .int .i64 w_0.Nodes.a3_.Site, .int .i64 w_0.Nodes.a3_.Version, .int .i64 w_0.Nodes.a3_.Serial, w_0_Sentv, w_0_Toldv, .bool w_0.Bad], box b3 [.int .i64 0, .int .i64 0, .int .i64 0, .bool false, .slice none 0 0, .slice none 0 0, .int .i64 0, .int .i64 0, .int .i64 0, .int .i64 0, .int .i64 0, .int .i64 0, .int .i64 0, .int .i64 0, .int .i64 0, .int .i64 0, .int .i64 0, .int .i64 0, .slice none 0 0, .slice none 0 0, .bool false], row v222 3 (([x215] : List S_api_Node).map S_api_Node.enc)] _
           refine any_all [0, 2] (by kernel_rfl) rfl ?_
           refine anyo_cons ?_ ?_
           ·
            refine any_t rfl (wn rfl) rfl (t_lit [] Try.runUnderlying63 Try.sizeOf61 Try.zeroValue61 rfl (by decide) (by decide) rfl (by simp [Value.cells, boxP])) ?_
            rintro v254 _ ⟨rfl, _⟩
            refine ⟨(ss (ss (ss (ss (se (ss (sn))))))), ?_⟩
            refine any_turn (retell 7 (g := row v254 3 (([] : List S_api_Node).map S_api_Node.enc)) rfl rfl) ?_
            exact any_weak2 (hK242 (v254, v222)) [0, 1, 2, 3, 4, 5, 7, 6] (by kernel_rfl) (qv5 rfl rfl rfl rfl rfl) (by decide) rfl
           refine anyo_cons ?_ ?_
           ·
            refine any_ty rfl (wn rfl) rfl (y_load_box 4 Try.isAgg63 rfl rfl rfl) ⟨(ss (ss (ss (ss (se (ss (sn))))))), ?_⟩
            exact any_weak2 (hK243 v222) [0, 1, 2, 3, 4, 5, 6] (by kernel_rfl) (qv4 rfl rfl rfl rfl) (by decide) rfl
           exact anyo_nil
          refine any_cut2 #[true, true, true, false, true, true, true, false, false, false, false, false, false] 7 (Value) (fun σ => [(2, boxP b1 0), (4, boxP b3 0), (151, .int .i64 ((IntKind.i64.wrap a_1.N).tmod 4)), (152, boxP b1 6), (146, σ), (148, w_0_Toldv)]) (fun σ => [nro w_0_F_Stagesv NC_L_int_35 w_0.F.Stages, ro w_0_F_Ordersv 4 (w_0.F.Orders.map S_api_Order.enc), ro w_0_Sentv 3 (w_0.Sent.map S_api_Node.enc), ro w_0_Toldv 3 (w_0.Told.map S_api_Node.enc), box b1 [.int .i64 w_0.F.Base, .int .i64 w_0.F.Done, .int .i64 w_0.F.Serial, .bool w_0.F.Stopped, w_0_F_Stagesv, w_0_F_Ordersv, .int .i64 w_0.Nodes.a0_.Site, .int .i64 w_0.Nodes.a0_.Version, .int .i64 w_0.Nodes.a0_.Serial, .int .i64 w_0.Nodes.a1_.Site, .int .i64 w_0.Nodes.a1_.Version, .int .i64 w_0.Nodes.a1_.Serial, .int .i64 w_0.Nodes.a2_.Site, .int .i64 w_0.Nodes.a2_.Version, .int .i64 w_0.Nodes.a2_.Serial, .int .i64 w_0.Nodes.a3_.Site, .int .i64 w_0.Nodes.a3_.Version, .int .i64 w_0.Nodes.a3_.Serial, w_0_Sentv, w_0_Toldv, .bool w_0.Bad], box b3 [.int .i64 0, .int .i64 0, .int .i64 0, .bool false, .slice none 0 0, .slice none 0 0, .int .i64 0, .int .i64 0, .int .i64 0, .int .i64 0, .int .i64 0, .int .i64 0, .int .i64 0, .int .i64 0, .int .i64 0, .int .i64 0, .int .i64 0, .int .i64 0, .slice none 0 0, .slice none 0 0, .bool false], row σ 3 (([] : List S_api_Node).map S_api_Node.enc)]) ?_ (fun hK255 => ?_)
          ·rintro v220
           change AnyL _ _ _ _ _ (VF.of [(2, boxP b1 0), (4, boxP b3 0), (151, .int .i64 ((IntKind.i64.wrap a_1.N).tmod 4)), (152, boxP b1 6), (146, v220), (148, w_0_Toldv)]) [nro w_0_F_Stagesv NC_L_int_35 w_0.F.Stages, ro w_0_F_Ordersv 4 (w_0.F.Orders.map S_api_Order.enc), ro w_0_Sentv 3 (w_0.Sent.map S_api_Node.enc), ro w_0_Toldv 3 (w_0.Told.map S_api_Node.enc), box b1 [.int .i64 w_0.F.Base, .int .i64 w_0.F.Done, .int .i64 w_0.F.Serial, .bool w_0.F.Stopped, w_0_F_Stagesv, w_0_F_Ordersv, .int .i64 w_0.Nodes.a0_.Site, .int .i64 w_0.Nodes.a0_.Version, .int .i64 w_0.Nodes.a0_.Serial, .int .i64 w_0.Nodes.a1_.Site, .int .i64 w_0.Nodes.a1_.Version, .int .i64 w_0.Nodes.a1_.Serial, .int .i64 w_0.Nodes.a2_.Site, .int .i64 w_0.Nodes.a2_.Version, .int .i64 w_0.Nodes.a2_.Serial, .int .i64 w_0.Nodes.a3_.Site, .int .i64 w_0.Nodes.a3_.Version, .int .i64 w_0.Nodes.a3_.Serial, w_0_Sentv, w_0_Toldv, .bool w_0.Bad], box b3 [.int .i64 0, .int .i64 0, .int .i64 0, .bool false, .slice none 0 0, .slice none 0 0, .int .i64 0, .int .i64 0, .int .i64 0, .int .i64 0, .int .i64 0, .int .i64 0, .int .i64 0, .int .i64 0, .int .i64 0, .int .i64 0, .int .i64 0, .int .i64 0, .slice none 0 0, .slice none 0 0, .bool false], row v220 3 (([] : List S_api_Node).map S_api_Node.enc)] _
           refine any_all [3, 7] (by kernel_rfl) rfl ?_
           refine anyo_cons ?_ ?_
           ·
            refine any_t rfl (wn rfl) rfl (t_append (es := 3) 6 rfl Try.runUnderlying63 rfl Try.runUnderlying63 (.inr ⟨_, rfl⟩) Try.typeInfo61 rfl (by decide) Try.zeroValue61 rfl rfl rfl rfl (src_reads 3 rfl reads_ro (map_ok S_api_Node.enc_ok _)) (map_room hr213 (by decide)) (map_fit hr213)) ?_
            rintro v256 _ rfl
            refine ⟨(ss (ss (ss (ss (se (ss (sn))))))), ?_⟩
            refine any_turn (retell 6 (g := row v256 3 ((([] : List S_api_Node) ++ w_0.Told).map S_api_Node.enc)) rfl (congrArg (row _ _) List.map_append.symm)) ?_
            exact any_weak2 (hK245 v256) [0, 1, 2, 3, 4, 5, 6] (by kernel_rfl) (qv5 rfl rfl rfl rfl rfl) (by decide) rfl
           refine anyo_cons ?_ ?_
           ·
            refine any_ty rfl (wn rfl) rfl (y_indexAddr_boxI (i := ((IntKind.i64.wrap a_1.N).tmod 4)) Try.runUnderlying62 Try.sizeOf61 rfl rfl hi214) ⟨(ss (ss (ss (ss (se (ss (sn))))))), ?_⟩
            exact any_weak2 (hK246 v220) [0, 1, 2, 3, 4, 5, 6] (by kernel_rfl) (qv5 rfl rfl rfl rfl rfl) (by decide) rfl
           exact anyo_nil
          refine any_cut2 #[true, true, false, false, true, true, true, true, false, false, false, false, false] 7 (Value) (fun σ => [(2, boxP b1 0), (4, boxP b3 0), (147, boxP b1 19), (146, σ), (153, boxP b1 (6 + (((IntKind.i64.wrap a_1.N).tmod 4)).toNat * 3))]) (fun σ => [nro w_0_F_Stagesv NC_L_int_35 w_0.F.Stages, ro w_0_F_Ordersv 4 (w_0.F.Orders.map S_api_Order.enc), ro w_0_Sentv 3 (w_0.Sent.map S_api_Node.enc), ro w_0_Toldv 3 (w_0.Told.map S_api_Node.enc), box b1 [.int .i64 w_0.F.Base, .int .i64 w_0.F.Done, .int .i64 w_0.F.Serial, .bool w_0.F.Stopped, w_0_F_Stagesv, w_0_F_Ordersv, .int .i64 w_0.Nodes.a0_.Site, .int .i64 w_0.Nodes.a0_.Version, .int .i64 w_0.Nodes.a0_.Serial, .int .i64 w_0.Nodes.a1_.Site, .int .i64 w_0.Nodes.a1_.Version, .int .i64 w_0.Nodes.a1_.Serial, .int .i64 w_0.Nodes.a2_.Site, .int .i64 w_0.Nodes.a2_.Version, .int .i64 w_0.Nodes.a2_.Serial, .int .i64 w_0.Nodes.a3_.Site, .int .i64 w_0.Nodes.a3_.Version, .int .i64 w_0.Nodes.a3_.Serial, w_0_Sentv, w_0_Toldv, .bool w_0.Bad], box b3 [.int .i64 0, .int .i64 0, .int .i64 0, .bool false, .slice none 0 0, .slice none 0 0, .int .i64 0, .int .i64 0, .int .i64 0, .int .i64 0, .int .i64 0, .int .i64 0, .int .i64 0, .int .i64 0, .int .i64 0, .int .i64 0, .int .i64 0, .int .i64 0, .slice none 0 0, .slice none 0 0, .bool false], row σ 3 (([] : List S_api_Node).map S_api_Node.enc)]) ?_ (fun hK257 => ?_)
          ·rintro v220
           change AnyL _ _ _ _ _ (VF.of [(2, boxP b1 0), (4, boxP b3 0), (147, boxP b1 19), (146, v220), (153, boxP b1 (6 + (((IntKind.i64.wrap a_1.N).tmod 4)).toNat * 3))]) [nro w_0_F_Stagesv NC_L_int_35 w_0.F.Stages, ro w_0_F_Ordersv 4 (w_0.F.Orders.map S_api_Order.enc), ro w_0_Sentv 3 (w_0.Sent.map S_api_Node.enc), ro w_0_Toldv 3 (w_0.Told.map S_api_Node.enc), box b1 [.int .i64 w_0.F.Base, .int .i64 w_0.F.Done, .int .i64 w_0.F.Serial, .bool w_0.F.Stopped, w_0_F_Stagesv, w_0_F_Ordersv, .int .i64 w_0.Nodes.a0_.Site, .int .i64 w_0.Nodes.a0_.Version, .int .i64 w_0.Nodes.a0_.Serial, .int .i64 w_0.Nodes.a1_.Site, .int .i64 w_0.Nodes.a1_.Version, .int .i64 w_0.Nodes.a1_.Serial, .int .i64 w_0.Nodes.a2_.Site, .int .i64 w_0.Nodes.a2_.Version, .int .i64 w_0.Nodes.a2_.Serial, .int .i64 w_0.Nodes.a3_.Site, .int .i64 w_0.Nodes.a3_.Version, .int .i64 w_0.Nodes.a3_.Serial, w_0_Sentv, w_0_Toldv, .bool w_0.Bad], box b3 [.int .i64 0, .int .i64 0, .int .i64 0, .bool false, .slice none 0 0, .slice none 0 0, .int .i64 0, .int .i64 0, .int .i64 0, .int .i64 0, .int .i64 0, .int .i64 0, .int .i64 0, .int .i64 0, .int .i64 0, .int .i64 0, .int .i64 0, .int .i64 0, .slice none 0 0, .slice none 0 0, .bool false], row v220 3 (([] : List S_api_Node).map S_api_Node.enc)] _
           refine any_all [2, 8] (by kernel_rfl) rfl ?_
           refine anyo_cons ?_ ?_
           ·
            refine any_ty rfl (wn rfl) rfl (y_load_box 4 Try.isAgg63 rfl rfl rfl) ⟨(ss (ss (ss (ss (se (ss (sn))))))), ?_⟩
            exact any_weak2 (hK246 v220) [0, 1, 2, 3, 4, 5, 6] (by kernel_rfl) (qv5 rfl rfl rfl rfl rfl) (by decide) rfl
           refine anyo_cons ?_ ?_
           ·
            refine any_ty rfl (wn rfl) rfl (y_load_boxaggI (c := [.int .i64 x215.Site, .int .i64 x215.Version, .int .i64 x215.Serial]) 4 Try.isAgg61 Try.sizeOf61 rfl rfl rfl (arr_take (F := S_api_Node.enc) (es := 3) (fun x => (S_api_Node.enc_ok x).1) (S_4_api_Node.get_at (p := w_0.Nodes) hi214 hxx215) [.int .i64 w_0.F.Base, .int .i64 w_0.F.Done, .int .i64 w_0.F.Serial, .bool w_0.F.Stopped, w_0_F_Stagesv, w_0_F_Ordersv] [w_0_Sentv, w_0_Toldv, .bool w_0.Bad])) ⟨(ss (ss (ss (ss (se (ss (sn))))))), ?_⟩
            exact any_weak2 (hK248 v220) [0, 1, 2, 3, 4, 5, 6] (by kernel_rfl) (qv5 rfl rfl rfl rfl rfl) (by decide) rfl
           exact anyo_nil
          refine any_cut2 #[false, true, true, false, true, true, true, true, false, false, false, false, false] 7 (Unit) (fun σ => [(2, boxP b1 0), (4, boxP b3 0), (148, w_0_Toldv), (153, boxP b1 (6 + (((IntKind.i64.wrap a_1.N).tmod 4)).toNat * 3))]) (fun σ => [nro w_0_F_Stagesv NC_L_int_35 w_0.F.Stages, ro w_0_F_Ordersv 4 (w_0.F.Orders.map S_api_Order.enc), ro w_0_Sentv 3 (w_0.Sent.map S_api_Node.enc), ro w_0_Toldv 3 (w_0.Told.map S_api_Node.enc), box b1 [.int .i64 w_0.F.Base, .int .i64 w_0.F.Done, .int .i64 w_0.F.Serial, .bool w_0.F.Stopped, w_0_F_Stagesv, w_0_F_Ordersv, .int .i64 w_0.Nodes.a0_.Site, .int .i64 w_0.Nodes.a0_.Version, .int .i64 w_0.Nodes.a0_.Serial, .int .i64 w_0.Nodes.a1_.Site, .int .i64 w_0.Nodes.a1_.Version, .int .i64 w_0.Nodes.a1_.Serial, .int .i64 w_0.Nodes.a2_.Site, .int .i64 w_0.Nodes.a2_.Version, .int .i64 w_0.Nodes.a2_.Serial, .int .i64 w_0.Nodes.a3_.Site, .int .i64 w_0.Nodes.a3_.Version, .int .i64 w_0.Nodes.a3_.Serial, w_0_Sentv, w_0_Toldv, .bool w_0.Bad], box b3 [.int .i64 0, .int .i64 0, .int .i64 0, .bool false, .slice none 0 0, .slice none 0 0, .int .i64 0, .int .i64 0, .int .i64 0, .int .i64 0, .int .i64 0, .int .i64 0, .int .i64 0, .int .i64 0, .int .i64 0, .int .i64 0, .int .i64 0, .int .i64 0, .slice none 0 0, .slice none 0 0, .bool false]]) ?_ (fun hK258 => ?_)
          ·rintro _
           change AnyL _ _ _ _ _ (VF.of [(2, boxP b1 0), (4, boxP b3 0), (148, w_0_Toldv), (153, boxP b1 (6 + (((IntKind.i64.wrap a_1.N).tmod 4)).toNat * 3))]) [nro w_0_F_Stagesv NC_L_int_35 w_0.F.Stages, ro w_0_F_Ordersv 4 (w_0.F.Orders.map S_api_Order.enc), ro w_0_Sentv 3 (w_0.Sent.map S_api_Node.enc), ro w_0_Toldv 3 (w_0.Told.map S_api_Node.enc), box b1 [.int .i64 w_0.F.Base, .int .i64 w_0.F.Done, .int .i64 w_0.F.Serial, .bool w_0.F.Stopped, w_0_F_Stagesv, w_0_F_Ordersv, .int .i64 w_0.Nodes.a0_.Site, .int .i64 w_0.Nodes.a0_.Version, .int .i64 w_0.Nodes.a0_.Serial, .int .i64 w_0.Nodes.a1_.Site, .int .i64 w_0.Nodes.a1_.Version, .int .i64 w_0.Nodes.a1_.Serial, .int .i64 w_0.Nodes.a2_.Site, .int .i64 w_0.Nodes.a2_.Version, .int .i64 w_0.Nodes.a2_.Serial, .int .i64 w_0.Nodes.a3_.Site, .int .i64 w_0.Nodes.a3_.Version, .int .i64 w_0.Nodes.a3_.Serial, w_0_Sentv, w_0_Toldv, .bool w_0.Bad], box b3 [.int .i64 0, .int .i64 0, .int .i64 0, .bool false, .slice none 0 0, .slice none 0 0, .int .i64 0, .int .i64 0, .int .i64 0, .int .i64 0, .int .i64 0, .int .i64 0, .int .i64 0, .int .i64 0, .int .i64 0, .int .i64 0, .int .i64 0, .int .i64 0, .slice none 0 0, .slice none 0 0, .bool false]] _
           refine any_all [0, 8] (by kernel_rfl) rfl ?_
           refine anyo_cons ?_ ?_
           ·
            refine any_t rfl (wn rfl) rfl (t_lit [] Try.runUnderlying63 Try.sizeOf61 Try.zeroValue61 rfl (by decide) (by decide) rfl (by simp [Value.cells, boxP])) ?_
            rintro v259 _ ⟨rfl, _⟩
            refine ⟨(ss (ss (ss (ss (se (ss (sn))))))), ?_⟩
            refine any_turn (retell 6 (g := row v259 3 (([] : List S_api_Node).map S_api_Node.enc)) rfl rfl) ?_
            exact any_weak2 (hK246 v259) [0, 1, 2, 3, 4, 5, 6] (by kernel_rfl) (qv5 rfl rfl rfl rfl rfl) (by decide) rfl
           refine anyo_cons ?_ ?_
           ·
            refine any_ty rfl (wn rfl) rfl (y_load_boxaggI (c := [.int .i64 x215.Site, .int .i64 x215.Version, .int .i64 x215.Serial]) 4 Try.isAgg61 Try.sizeOf61 rfl rfl rfl (arr_take (F := S_api_Node.enc) (es := 3) (fun x => (S_api_Node.enc_ok x).1) (S_4_api_Node.get_at (p := w_0.Nodes) hi214 hxx215) [.int .i64 w_0.F.Base, .int .i64 w_0.F.Done, .int .i64 w_0.F.Serial, .bool w_0.F.Stopped, w_0_F_Stagesv, w_0_F_Ordersv] [w_0_Sentv, w_0_Toldv, .bool w_0.Bad])) ⟨(ss (ss (ss (ss (se (ss (sn))))))), ?_⟩
            exact any_weak2 (hK250 ()) [0, 1, 2, 3, 4, 5] (by kernel_rfl) (qv4 rfl rfl rfl rfl) (by decide) rfl
           exact anyo_nil
          refine any_cut2 #[false, true, false, false, true, true, true, true, true, false, false, false, false] 7 (Unit) (fun σ => [(2, boxP b1 0), (4, boxP b3 0), (147, boxP b1 19), (154, .agg #[.int .i64 x215.Site, .int .i64 x215.Version, .int .i64 x215.Serial])]) (fun σ => [nro w_0_F_Stagesv NC_L_int_35 w_0.F.Stages, ro w_0_F_Ordersv 4 (w_0.F.Orders.map S_api_Order.enc), ro w_0_Sentv 3 (w_0.Sent.map S_api_Node.enc), ro w_0_Toldv 3 (w_0.Told.map S_api_Node.enc), box b1 [.int .i64 w_0.F.Base, .int .i64 w_0.F.Done, .int .i64 w_0.F.Serial, .bool w_0.F.Stopped, w_0_F_Stagesv, w_0_F_Ordersv, .int .i64 w_0.Nodes.a0_.Site, .int .i64 w_0.Nodes.a0_.Version, .int .i64 w_0.Nodes.a0_.Serial, .int .i64 w_0.Nodes.a1_.Site, .int .i64 w_0.Nodes.a1_.Version, .int .i64 w_0.Nodes.a1_.Serial, .int .i64 w_0.Nodes.a2_.Site, .int .i64 w_0.Nodes.a2_.Version, .int .i64 w_0.Nodes.a2_.Serial, .int .i64 w_0.Nodes.a3_.Site, .int .i64 w_0.Nodes.a3_.Version, .int .i64 w_0.Nodes.a3_.Serial, w_0_Sentv, w_0_Toldv, .bool w_0.Bad], box b3 [.int .i64 0, .int .i64 0, .int .i64 0, .bool false, .slice none 0 0, .slice none 0 0, .int .i64 0, .int .i64 0, .int .i64 0, .int .i64 0, .int .i64 0, .int .i64 0, .int .i64 0, .int .i64 0, .int .i64 0, .int .i64 0, .int .i64 0, .int .i64 0, .slice none 0 0, .slice none 0 0, .bool false]]) ?_ (fun hK260 => ?_)
          ·rintro _
           change AnyL _ _ _ _ _ (VF.of [(2, boxP b1 0), (4, boxP b3 0), (147, boxP b1 19), (154, .agg #[.int .i64 x215.Site, .int .i64 x215.Version, .int .i64 x215.Serial])]) [nro w_0_F_Stagesv NC_L_int_35 w_0.F.Stages, ro w_0_F_Ordersv 4 (w_0.F.Orders.map S_api_Order.enc), ro w_0_Sentv 3 (w_0.Sent.map S_api_Node.enc), ro w_0_Toldv 3 (w_0.Told.map S_api_Node.enc), box b1 [.int .i64 w_0.F.Base, .int .i64 w_0.F.Done, .int .i64 w_0.F.Serial, .bool w_0.F.Stopped, w_0_F_Stagesv, w_0_F_Ordersv, .int .i64 w_0.Nodes.a0_.Site, .int .i64 w_0.Nodes.a0_.Version, .int .i64 w_0.Nodes.a0_.Serial, .int .i64 w_0.Nodes.a1_.Site, .int .i64 w_0.Nodes.a1_.Version, .int .i64 w_0.Nodes.a1_.Serial, .int .i64 w_0.Nodes.a2_.Site, .int .i64 w_0.Nodes.a2_.Version, .int .i64 w_0.Nodes.a2_.Serial, .int .i64 w_0.Nodes.a3_.Site, .int .i64 w_0.Nodes.a3_.Version, .int .i64 w_0.Nodes.a3_.Serial, w_0_Sentv, w_0_Toldv, .bool w_0.Bad], box b3 [.int .i64 0, .int .i64 0, .int .i64 0, .bool false, .slice none 0 0, .slice none 0 0, .int .i64 0, .int .i64 0, .int .i64 0, .int .i64 0, .int .i64 0, .int .i64 0, .int .i64 0, .int .i64 0, .int .i64 0, .int .i64 0, .int .i64 0, .int .i64 0, .slice none 0 0, .slice none 0 0, .bool false]] _
           refine any_all [0, 2, 9] (by kernel_rfl) rfl ?_
           refine anyo_cons ?_ ?_
           ·
            refine any_t rfl (wn rfl) rfl (t_lit [] Try.runUnderlying63 Try.sizeOf61 Try.zeroValue61 rfl (by decide) (by decide) rfl (by simp [Value.cells, boxP])) ?_
            rintro v261 _ ⟨rfl, _⟩
            refine ⟨(ss (ss (ss (ss (se (ss (sn))))))), ?_⟩
            refine any_turn (retell 6 (g := row v261 3 (([] : List S_api_Node).map S_api_Node.enc)) rfl rfl) ?_
            exact any_weak2 (hK248 v261) [0, 1, 2, 3, 4, 5, 6] (by kernel_rfl) (qv5 rfl rfl rfl rfl rfl) (by decide) rfl
           refine anyo_cons ?_ ?_
           ·
            refine any_ty rfl (wn rfl) rfl (y_load_box 4 Try.isAgg63 rfl rfl rfl) ⟨(ss (ss (ss (ss (se (ss (sn))))))), ?_⟩
            exact any_weak2 (hK250 ()) [0, 1, 2, 3, 4, 5] (by kernel_rfl) (qv4 rfl rfl rfl rfl) (by decide) rfl
           refine anyo_cons ?_ ?_
           ·
            refine any_t rfl (wn rfl) rfl (t_lit [.agg #[.int .i64 x215.Site, .int .i64 x215.Version, .int .i64 x215.Serial]] Try.runUnderlying63 Try.sizeOf61 Try.zeroValue61 rfl (by decide) (by decide) rfl (by simp [Value.cells, boxP])) ?_
            rintro v262 _ ⟨rfl, _⟩
            refine ⟨(ss (ss (ss (ss (se (ss (sn))))))), ?_⟩
            refine any_turn (retell 6 (g := row v262 3 (([x215] : List S_api_Node).map S_api_Node.enc)) rfl rfl) ?_
            exact any_weak2 (hK253 v262) [0, 1, 2, 3, 4, 5, 6] (by kernel_rfl) (qv4 rfl rfl rfl rfl) (by decide) rfl
           exact anyo_nil
          refine any_cut2 #[true, true, false, false, true, true, true, false, false, false, false, false, false] 8 (Value) (fun σ => [(2, boxP b1 0), (4, boxP b3 0), (147, boxP b1 19), (151, .int .i64 ((IntKind.i64.wrap a_1.N).tmod 4)), (152, boxP b1 6), (146, σ)]) (fun σ => [nro w_0_F_Stagesv NC_L_int_35 w_0.F.Stages, ro w_0_F_Ordersv 4 (w_0.F.Orders.map S_api_Order.enc), ro w_0_Sentv 3 (w_0.Sent.map S_api_Node.enc), ro w_0_Toldv 3 (w_0.Told.map S_api_Node.enc), box b1 [.int .i64 w_0.F.Base, .int .i64 w_0.F.Done, .int .i64 w_0.F.Serial, .bool w_0.F.Stopped, w_0_F_Stagesv, w_0_F_Ordersv, .int .i64 w_0.Nodes.a0_.Site, .int .i64 w_0.Nodes.a0_.Version, .int .i64 w_0.Nodes.a0_.Serial, .int .i64 w_0.Nodes.a1_.Site, .int .i64 w_0.Nodes.a1_.Version, .int .i64 w_0.Nodes.a1_.Serial, .int .i64 w_0.Nodes.a2_.Site, .int .i64 w_0.Nodes.a2_.Version, .int .i64 w_0.Nodes.a2_.Serial, .int .i64 w_0.Nodes.a3_.Site, .int .i64 w_0.Nodes.a3_.Version, .int .i64 w_0.Nodes.a3_.Serial, w_0_Sentv, w_0_Toldv, .bool w_0.Bad], box b3 [.int .i64 0, .int .i64 0, .int .i64 0, .bool false, .slice none 0 0, .slice none 0 0, .int .i64 0, .int .i64 0, .int .i64 0, .int .i64 0, .int .i64 0, .int .i64 0, .int .i64 0, .int .i64 0, .int .i64 0, .int .i64 0, .int .i64 0, .int .i64 0, .slice none 0 0, .slice none 0 0, .bool false], row σ 3 (([] : List S_api_Node).map S_api_Node.enc)]) ?_ (fun hK263 => ?_)
          ·rintro v220
           change AnyL _ _ _ _ _ (VF.of [(2, boxP b1 0), (4, boxP b3 0), (147, boxP b1 19), (151, .int .i64 ((IntKind.i64.wrap a_1.N).tmod 4)), (152, boxP b1 6), (146, v220)]) [nro w_0_F_Stagesv NC_L_int_35 w_0.F.Stages, ro w_0_F_Ordersv 4 (w_0.F.Orders.map S_api_Order.enc), ro w_0_Sentv 3 (w_0.Sent.map S_api_Node.enc), ro w_0_Toldv 3 (w_0.Told.map S_api_Node.enc), box b1 [.int .i64 w_0.F.Base, .int .i64 w_0.F.Done, .int .i64 w_0.F.Serial, .bool w_0.F.Stopped, w_0_F_Stagesv, w_0_F_Ordersv, .int .i64 w_0.Nodes.a0_.Site, .int .i64 w_0.Nodes.a0_.Version, .int .i64 w_0.Nodes.a0_.Serial, .int .i64 w_0.Nodes.a1_.Site, .int .i64 w_0.Nodes.a1_.Version, .int .i64 w_0.Nodes.a1_.Serial, .int .i64 w_0.Nodes.a2_.Site, .int .i64 w_0.Nodes.a2_.Version, .int .i64 w_0.Nodes.a2_.Serial, .int .i64 w_0.Nodes.a3_.Site, .int .i64 w_0.Nodes.a3_.Version, .int .i64 w_0.Nodes.a3_.Serial, w_0_Sentv, w_0_Toldv, .bool w_0.Bad], box b3 [.int .i64 0, .int .i64 0, .int .i64 0, .bool false, .slice none 0 0, .slice none 0 0, .int .i64 0, .int .i64 0, .int .i64 0, .int .i64 0, .int .i64 0, .int .i64 0, .int .i64 0, .int .i64 0, .int .i64 0, .int .i64 0, .int .i64 0, .int .i64 0, .slice none 0 0, .slice none 0 0, .bool false], row v220 3 (([] : List S_api_Node).map S_api_Node.enc)] _
           refine any_all [2, 7] (by kernel_rfl) rfl ?_
           refine anyo_cons ?_ ?_
           ·
            refine any_ty rfl (wn rfl) rfl (y_load_box 4 Try.isAgg63 rfl rfl rfl) ⟨(ss (ss (ss (ss (se (ss (sn))))))), ?_⟩
            exact any_weak2 (hK255 v220) [0, 1, 2, 3, 4, 5, 6] (by kernel_rfl) (qv6 rfl rfl rfl rfl rfl rfl) (by decide) rfl
           refine anyo_cons ?_ ?_
           ·
            refine any_ty rfl (wn rfl) rfl (y_indexAddr_boxI (i := ((IntKind.i64.wrap a_1.N).tmod 4)) Try.runUnderlying62 Try.sizeOf61 rfl rfl hi214) ⟨(ss (ss (ss (ss (se (ss (sn))))))), ?_⟩
            exact any_weak2 (hK257 v220) [0, 1, 2, 3, 4, 5, 6] (by kernel_rfl) (qv5 rfl rfl rfl rfl rfl) (by decide) rfl
           exact anyo_nil
          refine any_cut2 #[false, true, true, false, true, true, true, false, false, false, false, false, false] 8 (Unit) (fun σ => [(2, boxP b1 0), (4, boxP b3 0), (151, .int .i64 ((IntKind.i64.wrap a_1.N).tmod 4)), (152, boxP b1 6), (148, w_0_Toldv)]) (fun σ => [nro w_0_F_Stagesv NC_L_int_35 w_0.F.Stages, ro w_0_F_Ordersv 4 (w_0.F.Orders.map S_api_Order.enc), ro w_0_Sentv 3 (w_0.Sent.map S_api_Node.enc), ro w_0_Toldv 3 (w_0.Told.map S_api_Node.enc), box b1 [.int .i64 w_0.F.Base, .int .i64 w_0.F.Done, .int .i64 w_0.F.Serial, .bool w_0.F.Stopped, w_0_F_Stagesv, w_0_F_Ordersv, .int .i64 w_0.Nodes.a0_.Site, .int .i64 w_0.Nodes.a0_.Version, .int .i64 w_0.Nodes.a0_.Serial, .int .i64 w_0.Nodes.a1_.Site, .int .i64 w_0.Nodes.a1_.Version, .int .i64 w_0.Nodes.a1_.Serial, .int .i64 w_0.Nodes.a2_.Site, .int .i64 w_0.Nodes.a2_.Version, .int .i64 w_0.Nodes.a2_.Serial, .int .i64 w_0.Nodes.a3_.Site, .int .i64 w_0.Nodes.a3_.Version, .int .i64 w_0.Nodes.a3_.Serial, w_0_Sentv, w_0_Toldv, .bool w_0.Bad], box b3 [.int .i64 0, .int .i64 0, .int .i64 0, .bool false, .slice none 0 0, .slice none 0 0, .int .i64 0, .int .i64 0, .int .i64 0, .int .i64 0, .int .i64 0, .int .i64 0, .int .i64 0, .int .i64 0, .int .i64 0, .int .i64 0, .int .i64 0, .int .i64 0, .slice none 0 0, .slice none 0 0, .bool false]]) ?_ (fun hK264 => ?_)
          ·rintro _
           change AnyL _ _ _ _ _ (VF.of [(2, boxP b1 0), (4, boxP b3 0), (151, .int .i64 ((IntKind.i64.wrap a_1.N).tmod 4)), (152, boxP b1 6), (148, w_0_Toldv)]) [nro w_0_F_Stagesv NC_L_int_35 w_0.F.Stages, ro w_0_F_Ordersv 4 (w_0.F.Orders.map S_api_Order.enc), ro w_0_Sentv 3 (w_0.Sent.map S_api_Node.enc), ro w_0_Toldv 3 (w_0.Told.map S_api_Node.enc), box b1 [.int .i64 w_0.F.Base, .int .i64 w_0.F.Done, .int .i64 w_0.F.Serial, .bool w_0.F.Stopped, w_0_F_Stagesv, w_0_F_Ordersv, .int .i64 w_0.Nodes.a0_.Site, .int .i64 w_0.Nodes.a0_.Version, .int .i64 w_0.Nodes.a0_.Serial, .int .i64 w_0.Nodes.a1_.Site, .int .i64 w_0.Nodes.a1_.Version, .int .i64 w_0.Nodes.a1_.Serial, .int .i64 w_0.Nodes.a2_.Site, .int .i64 w_0.Nodes.a2_.Version, .int .i64 w_0.Nodes.a2_.Serial, .int .i64 w_0.Nodes.a3_.Site, .int .i64 w_0.Nodes.a3_.Version, .int .i64 w_0.Nodes.a3_.Serial, w_0_Sentv, w_0_Toldv, .bool w_0.Bad], box b3 [.int .i64 0, .int .i64 0, .int .i64 0, .bool false, .slice none 0 0, .slice none 0 0, .int .i64 0, .int .i64 0, .int .i64 0, .int .i64 0, .int .i64 0, .int .i64 0, .int .i64 0, .int .i64 0, .int .i64 0, .int .i64 0, .int .i64 0, .int .i64 0, .slice none 0 0, .slice none 0 0, .bool false]] _
           refine any_all [0, 7] (by kernel_rfl) rfl ?_
           refine anyo_cons ?_ ?_
           ·
            refine any_t rfl (wn rfl) rfl (t_lit [] Try.runUnderlying63 Try.sizeOf61 Try.zeroValue61 rfl (by decide) (by decide) rfl (by simp [Value.cells, boxP])) ?_
            rintro v265 _ ⟨rfl, _⟩
            refine ⟨(ss (ss (ss (ss (se (ss (sn))))))), ?_⟩
            refine any_turn (retell 6 (g := row v265 3 (([] : List S_api_Node).map S_api_Node.enc)) rfl rfl) ?_
            exact any_weak2 (hK255 v265) [0, 1, 2, 3, 4, 5, 6] (by kernel_rfl) (qv6 rfl rfl rfl rfl rfl rfl) (by decide) rfl
           refine anyo_cons ?_ ?_
           ·
            refine any_ty rfl (wn rfl) rfl (y_indexAddr_boxI (i := ((IntKind.i64.wrap a_1.N).tmod 4)) Try.runUnderlying62 Try.sizeOf61 rfl rfl hi214) ⟨(ss (ss (ss (ss (se (ss (sn))))))), ?_⟩
            exact any_weak2 (hK258 ()) [0, 1, 2, 3, 4, 5] (by kernel_rfl) (qv4 rfl rfl rfl rfl) (by decide) rfl
           exact anyo_nil
          refine any_cut2 #[false, true, false, false, true, true, true, true, false, false, false, false, false] 8 (Unit) (fun σ => [(2, boxP b1 0), (4, boxP b3 0), (147, boxP b1 19), (153, boxP b1 (6 + (((IntKind.i64.wrap a_1.N).tmod 4)).toNat * 3))]) (fun σ => [nro w_0_F_Stagesv NC_L_int_35 w_0.F.Stages, ro w_0_F_Ordersv 4 (w_0.F.Orders.map S_api_Order.enc), ro w_0_Sentv 3 (w_0.Sent.map S_api_Node.enc), ro w_0_Toldv 3 (w_0.Told.map S_api_Node.enc), box b1 [.int .i64 w_0.F.Base, .int .i64 w_0.F.Done, .int .i64 w_0.F.Serial, .bool w_0.F.Stopped, w_0_F_Stagesv, w_0_F_Ordersv, .int .i64 w_0.Nodes.a0_.Site, .int .i64 w_0.Nodes.a0_.Version, .int .i64 w_0.Nodes.a0_.Serial, .int .i64 w_0.Nodes.a1_.Site, .int .i64 w_0.Nodes.a1_.Version, .int .i64 w_0.Nodes.a1_.Serial, .int .i64 w_0.Nodes.a2_.Site, .int .i64 w_0.Nodes.a2_.Version, .int .i64 w_0.Nodes.a2_.Serial, .int .i64 w_0.Nodes.a3_.Site, .int .i64 w_0.Nodes.a3_.Version, .int .i64 w_0.Nodes.a3_.Serial, w_0_Sentv, w_0_Toldv, .bool w_0.Bad], box b3 [.int .i64 0, .int .i64 0, .int .i64 0, .bool false, .slice none 0 0, .slice none 0 0, .int .i64 0, .int .i64 0, .int .i64 0, .int .i64 0, .int .i64 0, .int .i64 0, .int .i64 0, .int .i64 0, .int .i64 0, .int .i64 0, .int .i64 0, .int .i64 0, .slice none 0 0, .slice none 0 0, .bool false]]) ?_ (fun hK266 => ?_)
          ·rintro _
           change AnyL _ _ _ _ _ (VF.of [(2, boxP b1 0), (4, boxP b3 0), (147, boxP b1 19), (153, boxP b1 (6 + (((IntKind.i64.wrap a_1.N).tmod 4)).toNat * 3))]) [nro w_0_F_Stagesv NC_L_int_35 w_0.F.Stages, ro w_0_F_Ordersv 4 (w_0.F.Orders.map S_api_Order.enc), ro w_0_Sentv 3 (w_0.Sent.map S_api_Node.enc), ro w_0_Toldv 3 (w_0.Told.map S_api_Node.enc), box b1 [.int .i64 w_0.F.Base, .int .i64 w_0.F.Done, .int .i64 w_0.F.Serial, .bool w_0.F.Stopped, w_0_F_Stagesv, w_0_F_Ordersv, .int .i64 w_0.Nodes.a0_.Site, .int .i64 w_0.Nodes.a0_.Version, .int .i64 w_0.Nodes.a0_.Serial, .int .i64 w_0.Nodes.a1_.Site, .int .i64 w_0.Nodes.a1_.Version, .int .i64 w_0.Nodes.a1_.Serial, .int .i64 w_0.Nodes.a2_.Site, .int .i64 w_0.Nodes.a2_.Version, .int .i64 w_0.Nodes.a2_.Serial, .int .i64 w_0.Nodes.a3_.Site, .int .i64 w_0.Nodes.a3_.Version, .int .i64 w_0.Nodes.a3_.Serial, w_0_Sentv, w_0_Toldv, .bool w_0.Bad], box b3 [.int .i64 0, .int .i64 0, .int .i64 0, .bool false, .slice none 0 0, .slice none 0 0, .int .i64 0, .int .i64 0, .int .i64 0, .int .i64 0, .int .i64 0, .int .i64 0, .int .i64 0, .int .i64 0, .int .i64 0, .int .i64 0, .int .i64 0, .int .i64 0, .slice none 0 0, .slice none 0 0, .bool false]] _
           refine any_all [0, 2, 8] (by kernel_rfl) rfl ?_
           refine anyo_cons ?_ ?_
           ·
            refine any_t rfl (wn rfl) rfl (t_lit [] Try.runUnderlying63 Try.sizeOf61 Try.zeroValue61 rfl (by decide) (by decide) rfl (by simp [Value.cells, boxP])) ?_
            rintro v267 _ ⟨rfl, _⟩
            refine ⟨(ss (ss (ss (ss (se (ss (sn))))))), ?_⟩
            refine any_turn (retell 6 (g := row v267 3 (([] : List S_api_Node).map S_api_Node.enc)) rfl rfl) ?_
            exact any_weak2 (hK257 v267) [0, 1, 2, 3, 4, 5, 6] (by kernel_rfl) (qv5 rfl rfl rfl rfl rfl) (by decide) rfl
           refine anyo_cons ?_ ?_
           ·
            refine any_ty rfl (wn rfl) rfl (y_load_box 4 Try.isAgg63 rfl rfl rfl) ⟨(ss (ss (ss (ss (se (ss (sn))))))), ?_⟩
            exact any_weak2 (hK258 ()) [0, 1, 2, 3, 4, 5] (by kernel_rfl) (qv4 rfl rfl rfl rfl) (by decide) rfl
           refine anyo_cons ?_ ?_
           ·
            refine any_ty rfl (wn rfl) rfl (y_load_boxaggI (c := [.int .i64 x215.Site, .int .i64 x215.Version, .int .i64 x215.Serial]) 4 Try.isAgg61 Try.sizeOf61 rfl rfl rfl (arr_take (F := S_api_Node.enc) (es := 3) (fun x => (S_api_Node.enc_ok x).1) (S_4_api_Node.get_at (p := w_0.Nodes) hi214 hxx215) [.int .i64 w_0.F.Base, .int .i64 w_0.F.Done, .int .i64 w_0.F.Serial, .bool w_0.F.Stopped, w_0_F_Stagesv, w_0_F_Ordersv] [w_0_Sentv, w_0_Toldv, .bool w_0.Bad])) ⟨(ss (ss (ss (ss (se (ss (sn))))))), ?_⟩
            exact any_weak2 (hK260 ()) [0, 1, 2, 3, 4, 5] (by kernel_rfl) (qv4 rfl rfl rfl rfl) (by decide) rfl
           exact anyo_nil
          refine any_all [0, 2, 7] (by kernel_rfl) rfl ?_
          refine anyo_cons ?_ ?_
          ·
           refine any_t rfl (wn rfl) rfl (t_lit [] Try.runUnderlying63 Try.sizeOf61 Try.zeroValue61 rfl (by decide) (by decide) rfl (by simp [Value.cells, boxP])) ?_
           rintro v268 _ ⟨rfl, _⟩
           refine ⟨(ss (ss (ss (ss (se (ss (sn))))))), ?_⟩
           refine any_turn (retell 6 (g := row v268 3 (([] : List S_api_Node).map S_api_Node.enc)) rfl rfl) ?_
           exact any_weak2 (hK263 v268) [0, 1, 2, 3, 4, 5, 6] (by kernel_rfl) (qv6 rfl rfl rfl rfl rfl rfl) (by decide) rfl
          refine anyo_cons ?_ ?_
          ·
           refine any_ty rfl (wn rfl) rfl (y_load_box 4 Try.isAgg63 rfl rfl rfl) ⟨(ss (ss (ss (ss (se (ss (sn))))))), ?_⟩
           exact any_weak2 (hK264 ()) [0, 1, 2, 3, 4, 5] (by kernel_rfl) (qv5 rfl rfl rfl rfl rfl) (by decide) rfl
          refine anyo_cons ?_ ?_
          ·
           refine any_ty rfl (wn rfl) rfl (y_indexAddr_boxI (i := ((IntKind.i64.wrap a_1.N).tmod 4)) Try.runUnderlying62 Try.sizeOf61 rfl rfl hi214) ⟨(ss (ss (ss (ss (se (ss (sn))))))), ?_⟩
           exact any_weak2 (hK266 ()) [0, 1, 2, 3, 4, 5] (by kernel_rfl) (qv4 rfl rfl rfl rfl) (by decide) rfl
          exact anyo_nil
         ·replace h := cond_f h hc210
          refine run_seq ?_
          refine run_weak [(2, boxP b1 0), (4, boxP b3 0), (5, .int .i64 (IntKind.i64.wrap a_1.N)), (27, .int .u8 (a_1.Kind.tmod 9))] [0, 1, 2, 3, 4, 5] [nro w_0_F_Stagesv NC_L_int_35 w_0.F.Stages, ro w_0_F_Ordersv 4 (w_0.F.Orders.map S_api_Order.enc), ro w_0_Sentv 3 (w_0.Sent.map S_api_Node.enc), ro w_0_Toldv 3 (w_0.Told.map S_api_Node.enc), box b1 [.int .i64 w_0.F.Base, .int .i64 w_0.F.Done, .int .i64 w_0.F.Serial, .bool w_0.F.Stopped, w_0_F_Stagesv, w_0_F_Ordersv, .int .i64 w_0.Nodes.a0_.Site, .int .i64 w_0.Nodes.a0_.Version, .int .i64 w_0.Nodes.a0_.Serial, .int .i64 w_0.Nodes.a1_.Site, .int .i64 w_0.Nodes.a1_.Version, .int .i64 w_0.Nodes.a1_.Serial, .int .i64 w_0.Nodes.a2_.Site, .int .i64 w_0.Nodes.a2_.Version, .int .i64 w_0.Nodes.a2_.Serial, .int .i64 w_0.Nodes.a3_.Site, .int .i64 w_0.Nodes.a3_.Version, .int .i64 w_0.Nodes.a3_.Serial, w_0_Sentv, w_0_Toldv, .bool w_0.Bad], box b3 [.int .i64 0, .int .i64 0, .int .i64 0, .bool false, .slice none 0 0, .slice none 0 0, .int .i64 0, .int .i64 0, .int .i64 0, .int .i64 0, .int .i64 0, .int .i64 0, .int .i64 0, .int .i64 0, .int .i64 0, .int .i64 0, .int .i64 0, .int .i64 0, .slice none 0 0, .slice none 0 0, .bool false]] (qv4 rfl rfl rfl rfl) (by decide) rfl ?_
          refine run_region' ?_
          refine oy rfl rfl (y_eql rfl rfl) ?_
          refine oy rfl rfl (y_assign rfl) ?_
          refine ops_nil ?_
          refine goes_code ?_
          refine run_cond (decide ((a_1.Kind.tmod 9) = 8)) rfl (fun hc269 => ?_) (fun hc269 => ?_)
          ·replace h := cond_t h hc269
           refine run_seq ?_
           refine run_region' ?_
           refine oy rfl rfl (y_fieldAddr_box (sz := 0) Try.runUnderlying65 rfl Try.sizeOf63 rfl) ?_
           refine oy rfl rfl (y_load_box 4 Try.isAgg63 rfl rfl rfl) ?_
           refine oy rfl rfl ((y_len 3 rfl Try.runUnderlying63 rfl rfl reads_ro).to (v_len S_api_Node.enc _)) ?_
           refine oy rfl rfl (y_gtr rfl rfl) ?_
           refine ops_nil ?_
           refine goes_code ?_
           refine run_cond (decide (0 < (w_0.Told.length : Int))) rfl (fun hc270 => ?_) (fun hc270 => ?_)
           ·replace h := cond_t h hc270
            refine run_seq ?_
            refine run_drawany [nro w_0_F_Stagesv NC_L_int_35 w_0.F.Stages, ro w_0_F_Ordersv 4 (w_0.F.Orders.map S_api_Order.enc), ro w_0_Sentv 3 (w_0.Sent.map S_api_Node.enc), ro w_0_Toldv 3 (w_0.Told.map S_api_Node.enc), box b1 [.int .i64 w_0.F.Base, .int .i64 w_0.F.Done, .int .i64 w_0.F.Serial, .bool w_0.F.Stopped, w_0_F_Stagesv, w_0_F_Ordersv, .int .i64 w_0.Nodes.a0_.Site, .int .i64 w_0.Nodes.a0_.Version, .int .i64 w_0.Nodes.a0_.Serial, .int .i64 w_0.Nodes.a1_.Site, .int .i64 w_0.Nodes.a1_.Version, .int .i64 w_0.Nodes.a1_.Serial, .int .i64 w_0.Nodes.a2_.Site, .int .i64 w_0.Nodes.a2_.Version, .int .i64 w_0.Nodes.a2_.Serial, .int .i64 w_0.Nodes.a3_.Site, .int .i64 w_0.Nodes.a3_.Version, .int .i64 w_0.Nodes.a3_.Serial, w_0_Sentv, w_0_Toldv, .bool w_0.Bad], box b3 [.int .i64 0, .int .i64 0, .int .i64 0, .bool false, .slice none 0 0, .slice none 0 0, .int .i64 0, .int .i64 0, .int .i64 0, .int .i64 0, .int .i64 0, .int .i64 0, .int .i64 0, .int .i64 0, .int .i64 0, .int .i64 0, .int .i64 0, .int .i64 0, .slice none 0 0, .slice none 0 0, .bool false]] (by kernel_rfl) ?_
            refine any_y 0 rfl (by kernel_rfl) (by kernel_rfl) (by kernel_rfl) (ss (ss (ss (ss (ss (ss (sn))))))) (wn rfl) rfl (y_fieldAddr_box (sz := 0) Try.runUnderlying65 rfl Try.sizeOf63 rfl) ?_
            refine any_y 1 rfl (by kernel_rfl) (by kernel_rfl) (by kernel_rfl) (ss (ss (ss (ss (ss (ss (sn))))))) (wn rfl) rfl (y_load_box 4 Try.isAgg63 rfl rfl rfl) ?_
            refine any_y 2 rfl (by kernel_rfl) (by kernel_rfl) (by kernel_rfl) (ss (ss (ss (ss (ss (ss (sn))))))) (wn rfl) rfl (y_move rfl) ?_
            refine any_y 3 rfl (by kernel_rfl) (by kernel_rfl) (by kernel_rfl) (ss (ss (ss (ss (ss (ss (sn))))))) (wn rfl) rfl (y_fieldAddr_box (sz := 0) Try.runUnderlying65 rfl Try.sizeOf63 rfl) ?_
            refine any_y 4 rfl (by kernel_rfl) (by kernel_rfl) (by kernel_rfl) (ss (ss (ss (ss (ss (ss (sn))))))) (wn rfl) rfl (y_load_box 4 Try.isAgg63 rfl rfl rfl) ?_
            refine any_y 5 rfl (by kernel_rfl) (by kernel_rfl) (by kernel_rfl) (ss (ss (ss (ss (ss (ss (sn))))))) (wn rfl) rfl ((y_len 3 rfl Try.runUnderlying63 rfl rfl reads_ro).to (v_len S_api_Node.enc _)) ?_
            obtain ⟨hd271, h⟩ := need_some h
            refine any_y 6 rfl (by kernel_rfl) (by kernel_rfl) (by kernel_rfl) (ss (ss (ss (ss (ss (ss (sn))))))) (wn rfl) rfl (y_rem rfl rfl hd271) ?_
            obtain ⟨x272, hzx272, hlx272, hxx272, h⟩ := idx_some h
            refine any_y 7 rfl (by kernel_rfl) (by kernel_rfl) (by kernel_rfl) (ss (ss (ss (ss (ss (ss (sn))))))) (wn rfl) rfl (y_indexAddrI (kd := .i64) (i := ((IntKind.i64.wrap a_1.N).tmod (w_0.Told.length : Int))) 3 Try.runUnderlying63 Try.sizeOf61 rfl rfl rfl reads_ro hzx272 (map_lt hlx272)) ?_
            refine any_y 8 rfl (by kernel_rfl) (by kernel_rfl) (by kernel_rfl) (ss (ss (ss (ss (ss (ss (sn))))))) (wn rfl) rfl (y_load_agg (i := (((IntKind.i64.wrap a_1.N).tmod (w_0.Told.length : Int))).toNat) (c := [.int .i64 x272.Site, .int .i64 x272.Version, .int .i64 x272.Serial]) 3 Try.isAgg61 Try.sizeOf61 rfl rfl reads_ro (map_get hxx272)) ?_
            refine any_all [9] (by kernel_rfl) rfl (anyo_cons ?_ anyo_nil)
            refine any_t rfl (wn rfl) rfl (t_alloc Try.zeroValue61) ?_
            rintro _ _ ⟨b273, rfl, rfl⟩
            refine ⟨(ss (ss (ss (ss (ss (ss (sn))))))), ?_⟩
            refine any_all [10] (by kernel_rfl) rfl (anyo_cons ?_ anyo_nil)
            refine any_t rfl (wn rfl) rfl (t_store 6 Try.sizeOf61 rfl rfl rfl rfl (by simp [Value.cells, boxP]) (by simp [Value.cells, Value.oneCell', boxP])) ?_
            rintro _ _ ⟨rfl, rfl⟩
            refine ⟨(ss (ss (ss (ss (ss (ss (sn))))))), ?_⟩
            refine any_turn (retell 6 (g := box b273 [.int .i64 x272.Site, .int .i64 x272.Version, .int .i64 x272.Serial]) rfl rfl) ?_
            refine any_nil (by kernel_rfl) ?_
            refine goes_code ?_
            refine run_seq ?_
            refine run_weak [(2, boxP b1 0), (4, boxP b3 0), (19, boxP b273 0)] [0, 1, 2, 3, 4, 5, 6] [nro w_0_F_Stagesv NC_L_int_35 w_0.F.Stages, ro w_0_F_Ordersv 4 (w_0.F.Orders.map S_api_Order.enc), ro w_0_Sentv 3 (w_0.Sent.map S_api_Node.enc), ro w_0_Toldv 3 (w_0.Told.map S_api_Node.enc), box b1 [.int .i64 w_0.F.Base, .int .i64 w_0.F.Done, .int .i64 w_0.F.Serial, .bool w_0.F.Stopped, w_0_F_Stagesv, w_0_F_Ordersv, .int .i64 w_0.Nodes.a0_.Site, .int .i64 w_0.Nodes.a0_.Version, .int .i64 w_0.Nodes.a0_.Serial, .int .i64 w_0.Nodes.a1_.Site, .int .i64 w_0.Nodes.a1_.Version, .int .i64 w_0.Nodes.a1_.Serial, .int .i64 w_0.Nodes.a2_.Site, .int .i64 w_0.Nodes.a2_.Version, .int .i64 w_0.Nodes.a2_.Serial, .int .i64 w_0.Nodes.a3_.Site, .int .i64 w_0.Nodes.a3_.Version, .int .i64 w_0.Nodes.a3_.Serial, w_0_Sentv, w_0_Toldv, .bool w_0.Bad], box b3 [.int .i64 0, .int .i64 0, .int .i64 0, .bool false, .slice none 0 0, .slice none 0 0, .int .i64 0, .int .i64 0, .int .i64 0, .int .i64 0, .int .i64 0, .int .i64 0, .int .i64 0, .int .i64 0, .int .i64 0, .int .i64 0, .int .i64 0, .int .i64 0, .slice none 0 0, .slice none 0 0, .bool false], box b273 [.int .i64 x272.Site, .int .i64 x272.Version, .int .i64 x272.Serial]] (qv3 rfl rfl rfl) (by decide) rfl ?_
            refine run_region' ?_
            refine oy rfl rfl (y_fieldAddr_box (sz := 5) Try.runUnderlying65 rfl Try.sizeOf59 rfl) ?_
            refine oy rfl rfl (y_load_boxagg (c := [.int .i64 w_0.F.Base, .int .i64 w_0.F.Done, .int .i64 w_0.F.Serial, .bool w_0.F.Stopped, w_0_F_Stagesv, w_0_F_Ordersv]) 4 Try.isAgg59 Try.sizeOf59 rfl rfl rfl) ?_
            refine oy rfl rfl (y_fieldAddr_box (sz := 0) Try.runUnderlying61 rfl Try.sizeOf3 rfl) ?_
            refine oy rfl rfl (y_load_box 6 Try.isAgg3 rfl rfl rfl) ?_
            refine oy rfl rfl (y_fieldAddr_box (sz := 0) Try.runUnderlying61 rfl Try.sizeOf3 rfl) ?_
            refine oy rfl rfl (y_load_box 6 Try.isAgg3 rfl rfl rfl) ?_
            obtain ⟨r274, hr275, h⟩ := obind_some h
            refine ot rfl rfl (t_callx (vs := [.agg #[.int .i64 w_0.F.Base, .int .i64 w_0.F.Done, .int .i64 w_0.F.Serial, .bool w_0.F.Stopped, w_0_F_Stagesv, w_0_F_Ordersv], .int .i64 x272.Site, .int .i64 x272.Serial]) (cs := []) [(0, 0), (1, 0)] rfl Try.call27 rfl (topo_Confirm_ok n w_0.F x272.Site x272.Serial w_0_F_Stagesv w_0_F_Ordersv hr275) (showsX_view 0 rfl views_nro (showsX_view 1 rfl views_ro showsX_nil)) rfl (.inl rfl)) ?_
            rintro _ _ ⟨_, ⟨v276, v277, rfl, rfl⟩, rfl⟩
            refine oy rfl rfl (y_move rfl) ?_
            refine oy rfl rfl (y_extract rfl rfl) ?_
            refine oy rfl rfl (y_extract rfl rfl) ?_
            refine ot rfl rfl (t_alloc Try.zeroValue59) ?_
            rintro _ _ ⟨b278, rfl, rfl⟩
            refine ops_slcN 7 rfl readsN_ro (fun hs279 hs279o => ?_)
            refine ops_slc 8 rfl reads_row (fun hs280 hs280o => ?_)
            refine ot rfl rfl (t_store 9 Try.sizeOf59 rfl rfl rfl rfl (by simp [Value.cells, boxP]) (allL_cons rfl (allL_cons rfl (allL_cons rfl (allL_cons rfl (allL_cons hs279o (allL_cons hs280o (allL_nil)))))))) ?_
            rintro _ _ ⟨rfl, rfl⟩
            refine ops_turn (retell 9 (g := box b278 [.int .i64 r274.1.Base, .int .i64 r274.1.Done, .int .i64 r274.1.Serial, .bool r274.1.Stopped, v276, v277]) rfl rfl) ?_
            refine oy rfl rfl (y_assign rfl) ?_
            refine ops_nil ?_
            refine goes_code ?_
            refine run_seq ?_
            refine run_weak [(2, boxP b1 0), (4, boxP b3 0), (20, boxP b278 0), (21, .int .i64 r274.2)] [0, 1, 2, 3, 4, 5, 7, 8, 9] [nro w_0_F_Stagesv NC_L_int_35 w_0.F.Stages, ro w_0_F_Ordersv 4 (w_0.F.Orders.map S_api_Order.enc), ro w_0_Sentv 3 (w_0.Sent.map S_api_Node.enc), ro w_0_Toldv 3 (w_0.Told.map S_api_Node.enc), box b1 [.int .i64 w_0.F.Base, .int .i64 w_0.F.Done, .int .i64 w_0.F.Serial, .bool w_0.F.Stopped, w_0_F_Stagesv, w_0_F_Ordersv, .int .i64 w_0.Nodes.a0_.Site, .int .i64 w_0.Nodes.a0_.Version, .int .i64 w_0.Nodes.a0_.Serial, .int .i64 w_0.Nodes.a1_.Site, .int .i64 w_0.Nodes.a1_.Version, .int .i64 w_0.Nodes.a1_.Serial, .int .i64 w_0.Nodes.a2_.Site, .int .i64 w_0.Nodes.a2_.Version, .int .i64 w_0.Nodes.a2_.Serial, .int .i64 w_0.Nodes.a3_.Site, .int .i64 w_0.Nodes.a3_.Version, .int .i64 w_0.Nodes.a3_.Serial, w_0_Sentv, w_0_Toldv, .bool w_0.Bad], box b3 [.int .i64 0, .int .i64 0, .int .i64 0, .bool false, .slice none 0 0, .slice none 0 0, .int .i64 0, .int .i64 0, .int .i64 0, .int .i64 0, .int .i64 0, .int .i64 0, .int .i64 0, .int .i64 0, .int .i64 0, .int .i64 0, .int .i64 0, .int .i64 0, .slice none 0 0, .slice none 0 0, .bool false], nro v276 NC_L_int_35 r274.1.Stages, row v277 4 (r274.1.Orders.map S_api_Order.enc), box b278 [.int .i64 r274.1.Base, .int .i64 r274.1.Done, .int .i64 r274.1.Serial, .bool r274.1.Stopped, v276, v277]] (qv4 rfl rfl rfl rfl) (by decide) rfl ?_
            refine run_region' ?_
            refine oy rfl rfl (y_load_boxagg (c := [.int .i64 r274.1.Base, .int .i64 r274.1.Done, .int .i64 r274.1.Serial, .bool r274.1.Stopped, v276, v277]) 8 Try.isAgg59 Try.sizeOf59 rfl rfl rfl) ?_
            refine oy rfl rfl (y_fieldAddr_box (sz := 5) Try.runUnderlying65 rfl Try.sizeOf59 rfl) ?_
            refine ops_slcN 6 rfl readsN_ro (fun hs281 hs281o => ?_)
            refine ops_slc 7 rfl reads_row (fun hs282 hs282o => ?_)
            refine ot rfl rfl (t_store 4 Try.sizeOf59 rfl rfl rfl rfl (by simp [Value.cells, boxP]) (allL_cons rfl (allL_cons rfl (allL_cons rfl (allL_cons rfl (allL_cons hs281o (allL_cons hs282o (allL_nil)))))))) ?_
            rintro _ _ ⟨rfl, rfl⟩
            refine ops_turn (retell 4 (g := box b1 [.int .i64 r274.1.Base, .int .i64 r274.1.Done, .int .i64 r274.1.Serial, .bool r274.1.Stopped, v276, v277, .int .i64 w_0.Nodes.a0_.Site, .int .i64 w_0.Nodes.a0_.Version, .int .i64 w_0.Nodes.a0_.Serial, .int .i64 w_0.Nodes.a1_.Site, .int .i64 w_0.Nodes.a1_.Version, .int .i64 w_0.Nodes.a1_.Serial, .int .i64 w_0.Nodes.a2_.Site, .int .i64 w_0.Nodes.a2_.Version, .int .i64 w_0.Nodes.a2_.Serial, .int .i64 w_0.Nodes.a3_.Site, .int .i64 w_0.Nodes.a3_.Version, .int .i64 w_0.Nodes.a3_.Serial, w_0_Sentv, w_0_Toldv, .bool w_0.Bad]) rfl (by kernel_rfl)) ?_
            refine ops_nil ?_
            refine goes_code ?_
            refine run_region' ?_
            refine oy rfl rfl (y_fieldAddr_box (sz := 0) Try.runUnderlying65 rfl Try.sizeOf4 rfl) ?_
            refine oy rfl rfl (y_load_box 4 Try.isAgg4 rfl rfl rfl) ?_
            refine oy rfl rfl (y_move rfl) ?_
            refine ops_cut 3 (Bool) (fun σ => [(2, boxP b1 0), (4, boxP b3 0), (190, .bool σ)]) (fun σ => [ro w_0_Sentv 3 (w_0.Sent.map S_api_Node.enc), ro w_0_Toldv 3 (w_0.Told.map S_api_Node.enc), box b1 [.int .i64 r274.1.Base, .int .i64 r274.1.Done, .int .i64 r274.1.Serial, .bool r274.1.Stopped, v276, v277, .int .i64 w_0.Nodes.a0_.Site, .int .i64 w_0.Nodes.a0_.Version, .int .i64 w_0.Nodes.a0_.Serial, .int .i64 w_0.Nodes.a1_.Site, .int .i64 w_0.Nodes.a1_.Version, .int .i64 w_0.Nodes.a1_.Serial, .int .i64 w_0.Nodes.a2_.Site, .int .i64 w_0.Nodes.a2_.Version, .int .i64 w_0.Nodes.a2_.Serial, .int .i64 w_0.Nodes.a3_.Site, .int .i64 w_0.Nodes.a3_.Version, .int .i64 w_0.Nodes.a3_.Serial, w_0_Sentv, w_0_Toldv, .bool w_0.Bad], box b3 [.int .i64 0, .int .i64 0, .int .i64 0, .bool false, .slice none 0 0, .slice none 0 0, .int .i64 0, .int .i64 0, .int .i64 0, .int .i64 0, .int .i64 0, .int .i64 0, .int .i64 0, .int .i64 0, .int .i64 0, .int .i64 0, .int .i64 0, .int .i64 0, .slice none 0 0, .slice none 0 0, .bool false], nro v276 NC_L_int_35 r274.1.Stages, row v277 4 (r274.1.Orders.map S_api_Order.enc)]) (fun σ => σ = (w_0.Bad || decide (r274.2 ≠ 0))) (fun L283 hL284 => ?_) ?_
            ·refine ops_split 187 w_0.Bad rfl (fun hg285 => ?_) (fun hg285 => ?_)
             ·skip
              refine ops_no 2 false 187 rfl rfl rfl rfl rfl ?_
              refine ops_no 2 false 187 rfl rfl rfl rfl rfl ?_
              refine oy rfl rfl (y_pick (b := true) rfl rfl) ?_
              refine ops_nil ?_
              exact goes_cut hL284 true [2, 3, 4, 5, 6, 7] (qv3 rfl rfl rfl) (by decide) rfl (by rw [hg285]; simp)
             ·skip
              refine ops_y (wg 2 false 187 rfl rfl rfl rfl) rfl (y_move rfl) ?_
              refine ops_y (wg 2 false 187 rfl rfl rfl rfl) rfl (y_neq rfl rfl) ?_
              refine oy rfl rfl (y_pick (b := false) rfl rfl) ?_
              refine ops_nil ?_
              exact goes_cut hL284 (decide (r274.2 ≠ 0)) [2, 3, 4, 5, 6, 7] (qv3 rfl rfl rfl) (by decide) rfl (by rw [hg285]; simp)
            rintro _ rfl
            refine oy rfl rfl (y_fieldAddr_box (sz := 0) Try.runUnderlying65 rfl Try.sizeOf4 rfl) ?_
            refine ot rfl rfl (t_store 2 Try.sizeOf4 rfl rfl rfl rfl (by simp [Value.cells, boxP]) (by simp [Value.cells, Value.oneCell', boxP])) ?_
            rintro _ _ ⟨rfl, rfl⟩
            refine ops_turn (retell 2 (g := box b1 [.int .i64 r274.1.Base, .int .i64 r274.1.Done, .int .i64 r274.1.Serial, .bool r274.1.Stopped, v276, v277, .int .i64 w_0.Nodes.a0_.Site, .int .i64 w_0.Nodes.a0_.Version, .int .i64 w_0.Nodes.a0_.Serial, .int .i64 w_0.Nodes.a1_.Site, .int .i64 w_0.Nodes.a1_.Version, .int .i64 w_0.Nodes.a1_.Serial, .int .i64 w_0.Nodes.a2_.Site, .int .i64 w_0.Nodes.a2_.Version, .int .i64 w_0.Nodes.a2_.Serial, .int .i64 w_0.Nodes.a3_.Site, .int .i64 w_0.Nodes.a3_.Version, .int .i64 w_0.Nodes.a3_.Serial, w_0_Sentv, w_0_Toldv, .bool (w_0.Bad || decide (r274.2 ≠ 0))]) rfl (by kernel_rfl)) ?_
            refine ops_nil ?_
            refine goes_blk ?_
            refine goes_turn (Go.Abs.freeze 5 rfl) ?_
            obtain rfl := some_eq h
            exact goes_cut hL31 ((r274.1.Base, r274.1.Done, r274.1.Serial, r274.1.Stopped, r274.1.Stages, r274.1.Orders, w_0.Nodes.a0_.Site, w_0.Nodes.a0_.Version, w_0.Nodes.a0_.Serial, w_0.Nodes.a1_.Site, w_0.Nodes.a1_.Version, w_0.Nodes.a1_.Serial, w_0.Nodes.a2_.Site, w_0.Nodes.a2_.Version, w_0.Nodes.a2_.Serial, w_0.Nodes.a3_.Site, w_0.Nodes.a3_.Version, w_0.Nodes.a3_.Serial, w_0.Sent, w_0.Told, (w_0.Bad || decide (r274.2 ≠ 0))), (v276, v277, w_0_Sentv, w_0_Toldv)) [2, 4, 5, 0, 1, 3] (qv2 rfl rfl) (by decide) rfl rfl
           ·replace h := cond_f h hc270
            refine run_skip ?_
            refine goes_blk ?_
            obtain rfl := some_eq h
            exact goes_cut hL31 ((w_0.F.Base, w_0.F.Done, w_0.F.Serial, w_0.F.Stopped, w_0.F.Stages, w_0.F.Orders, w_0.Nodes.a0_.Site, w_0.Nodes.a0_.Version, w_0.Nodes.a0_.Serial, w_0.Nodes.a1_.Site, w_0.Nodes.a1_.Version, w_0.Nodes.a1_.Serial, w_0.Nodes.a2_.Site, w_0.Nodes.a2_.Version, w_0.Nodes.a2_.Serial, w_0.Nodes.a3_.Site, w_0.Nodes.a3_.Version, w_0.Nodes.a3_.Serial, w_0.Sent, w_0.Told, w_0.Bad), (w_0_F_Stagesv, w_0_F_Ordersv, w_0_Sentv, w_0_Toldv)) [4, 0, 1, 2, 3, 5] (qv2 rfl rfl) (by decide) rfl rfl
          ·replace h := cond_f h hc269
           refine run_skip ?_
           refine goes_blk ?_
           obtain rfl := some_eq h
           exact goes_cut hL31 ((w_0.F.Base, w_0.F.Done, w_0.F.Serial, w_0.F.Stopped, w_0.F.Stages, w_0.F.Orders, w_0.Nodes.a0_.Site, w_0.Nodes.a0_.Version, w_0.Nodes.a0_.Serial, w_0.Nodes.a1_.Site, w_0.Nodes.a1_.Version, w_0.Nodes.a1_.Serial, w_0.Nodes.a2_.Site, w_0.Nodes.a2_.Version, w_0.Nodes.a2_.Serial, w_0.Nodes.a3_.Site, w_0.Nodes.a3_.Version, w_0.Nodes.a3_.Serial, w_0.Sent, w_0.Told, w_0.Bad), (w_0_F_Stagesv, w_0_F_Ordersv, w_0_Sentv, w_0_Toldv)) [4, 0, 1, 2, 3, 5] (qv2 rfl rfl) (by decide) rfl rfl
 rintro ⟨⟨x_4, x_5, x_6, x_7, x_8, x_9, x_10, x_11, x_12, x_13, x_14, x_15, x_16, x_17, x_18, x_19, x_20, x_21, x_22, x_23, x_24⟩, ⟨v25, v26, v27, v28⟩⟩ hj
 obtain rfl : o29 = _ := hj
 replace h := after_go ho30
 clear ho30
 change Run _ _ _ (VF.of [(2, boxP b1 0), (4, boxP b3 0)]) [box b1 [.int .i64 x_4, .int .i64 x_5, .int .i64 x_6, .bool x_7, v25, v26, .int .i64 x_10, .int .i64 x_11, .int .i64 x_12, .int .i64 x_13, .int .i64 x_14, .int .i64 x_15, .int .i64 x_16, .int .i64 x_17, .int .i64 x_18, .int .i64 x_19, .int .i64 x_20, .int .i64 x_21, v27, v28, .bool x_24], nro v25 NC_L_int_35 x_8, ro v26 4 (x_9.map S_api_Order.enc), ro v27 3 (x_22.map S_api_Node.enc), ro v28 3 (x_23.map S_api_Node.enc), box b3 [.int .i64 0, .int .i64 0, .int .i64 0, .bool false, .slice none 0 0, .slice none 0 0, .int .i64 0, .int .i64 0, .int .i64 0, .int .i64 0, .int .i64 0, .int .i64 0, .int .i64 0, .int .i64 0, .int .i64 0, .int .i64 0, .int .i64 0, .int .i64 0, .slice none 0 0, .slice none 0 0, .bool false]]
 refine run_seq ?_
 refine run_region' ?_
 refine oy rfl rfl (y_load_boxagg (c := [.int .i64 x_4, .int .i64 x_5, .int .i64 x_6, .bool x_7, v25, v26, .int .i64 x_10, .int .i64 x_11, .int .i64 x_12, .int .i64 x_13, .int .i64 x_14, .int .i64 x_15, .int .i64 x_16, .int .i64 x_17, .int .i64 x_18, .int .i64 x_19, .int .i64 x_20, .int .i64 x_21, v27, v28, .bool x_24]) 0 Try.isAgg65 Try.sizeOf65 rfl rfl rfl) ?_
 refine ops_slcN 1 rfl readsN_ro (fun hs286 hs286o => ?_)
 refine ops_slc 2 rfl reads_ro (fun hs287 hs287o => ?_)
 refine ops_slc 3 rfl reads_ro (fun hs288 hs288o => ?_)
 refine ops_slc 4 rfl reads_ro (fun hs289 hs289o => ?_)
 refine ot rfl rfl (t_store 5 Try.sizeOf65 rfl rfl rfl rfl (by simp [Value.cells, boxP]) (allL_cons rfl (allL_cons rfl (allL_cons rfl (allL_cons rfl (allL_cons hs286o (allL_cons hs287o (allL_cons rfl (allL_cons rfl (allL_cons rfl (allL_cons rfl (allL_cons rfl (allL_cons rfl (allL_cons rfl (allL_cons rfl (allL_cons rfl (allL_cons rfl (allL_cons rfl (allL_cons rfl (allL_cons hs288o (allL_cons hs289o (allL_cons rfl (allL_nil))))))))))))))))))))))) ?_
 rintro _ _ ⟨rfl, rfl⟩
 refine ops_turn (retell 5 (g := box b3 [.int .i64 x_4, .int .i64 x_5, .int .i64 x_6, .bool x_7, v25, v26, .int .i64 x_10, .int .i64 x_11, .int .i64 x_12, .int .i64 x_13, .int .i64 x_14, .int .i64 x_15, .int .i64 x_16, .int .i64 x_17, .int .i64 x_18, .int .i64 x_19, .int .i64 x_20, .int .i64 x_21, v27, v28, .bool x_24]) rfl (by kernel_rfl)) ?_
 refine ops_nil ?_
 refine goes_code ?_
 refine run_ret ?_
 obtain rfl := some_eq h
 refine fin_res [.cell 4 65] [.agg #[.int .i64 x_4, .int .i64 x_5, .int .i64 x_6, .bool x_7, v25, v26, .int .i64 x_10, .int .i64 x_11, .int .i64 x_12, .int .i64 x_13, .int .i64 x_14, .int .i64 x_15, .int .i64 x_16, .int .i64 x_17, .int .i64 x_18, .int .i64 x_19, .int .i64 x_20, .int .i64 x_21, v27, v28, .bool x_24]] [1, 2, 3, 4] [nro v25 NC_L_int_35 x_8, ro v26 4 (x_9.map S_api_Order.enc), ro v27 3 (x_22.map S_api_Node.enc), ro v28 3 (x_23.map S_api_Node.enc)] Try.results22 rfl (rescons (res_box 5 Try.isAgg65 Try.sizeOf65 rfl rfl rfl) resnil) (by decide) rfl ?_
 exact ⟨_, _, _, _, rfl, rfl⟩

end Go.Proofs.Ytigiikkenamneaa
