/-
  The law TopoGoingBackRestores, lifted.
-/
import Derived.Test.YtigiikkenamneaaM8
namespace Go.Proofs.Ytigiikkenamneaa
open Go.Abs
set_option linter.unusedVariables false
set_option linter.unusedSimpArgs false
set_option maxRecDepth 20000
set_option maxHeartbeats 4000000

def law42_TopoGoingBackRestores_L1 (n : Nat) (l_1 : (List S_law42_Act)) : (Int × Int × Int × Int × Bool × (List (List Int)) × (List S_api_Order) × Int × Int × Int × Int × Int × Int × Int × Int × Int × Int × Int × Int × (List S_api_Node) × (List S_api_Node) × Bool) → Option (Lp (Int × Int × Int × Int × Bool × (List (List Int)) × (List S_api_Order) × Int × Int × Int × Int × Int × Int × Int × Int × Int × Int × Int × Int × (List S_api_Node) × (List S_api_Node) × Bool) (Lp (Int × Int × Int × Bool × (List (List Int)) × (List S_api_Order) × Int × Int × Int × Int × Int × Int × Int × Int × Int × Int × Int × Int × (List S_api_Node) × (List S_api_Node) × Bool) (Bool))) :=
 fun (i_44, x_45, x_46, x_47, x_48, x_49, x_50, x_51, x_52, x_53, x_54, x_55, x_56, x_57, x_58, x_59, x_60, x_61, x_62, x_63, x_64, x_65) =>
  cond (decide (i_44 < (l_1.length : Int)))
   (idx l_1 i_44 fun x75 =>
   obind (law42_act n (S_law42_World.mk (S_api_Fleet.mk x_45 x_46 x_47 x_48 x_49 x_50) (S_4_api_Node.mk (S_api_Node.mk x_51 x_52 x_53) (S_api_Node.mk x_54 x_55 x_56) (S_api_Node.mk x_57 x_58 x_59) (S_api_Node.mk x_60 x_61 x_62)) x_63 x_64 x_65) x75) fun r76 =>
   some (.go ((IntKind.i64.wrap (i_44 + 1)), r76.F.Base, r76.F.Done, r76.F.Serial, r76.F.Stopped, r76.F.Stages, r76.F.Orders, r76.Nodes.a0_.Site, r76.Nodes.a0_.Version, r76.Nodes.a0_.Serial, r76.Nodes.a1_.Site, r76.Nodes.a1_.Version, r76.Nodes.a1_.Serial, r76.Nodes.a2_.Site, r76.Nodes.a2_.Version, r76.Nodes.a2_.Serial, r76.Nodes.a3_.Site, r76.Nodes.a3_.Version, r76.Nodes.a3_.Serial, r76.Sent, r76.Told, r76.Bad)))
   (some (.stop (.go (x_45, x_46, x_47, x_48, x_49, x_50, x_51, x_52, x_53, x_54, x_55, x_56, x_57, x_58, x_59, x_60, x_61, x_62, x_63, x_64, x_65))))
def law42_TopoGoingBackRestores_L3 (n : Nat) : (Int × Int × Int × Int × Bool × (List (List Int)) × (List S_api_Order) × Int × Int × Int × Int × Int × Int × Int × Int × Int × Int × Int × Int) → Option (Lp (Int × Int × Int × Int × Bool × (List (List Int)) × (List S_api_Order) × Int × Int × Int × Int × Int × Int × Int × Int × Int × Int × Int × Int) (Lp (Int × Int × Int × Bool × (List (List Int)) × (List S_api_Order) × Int × Int × Int × Int × Int × Int × Int × Int × Int × Int × Int × Int) (Lp (Int × Int × Int × Bool × (List (List Int)) × (List S_api_Order) × Int × Int × Int × Int × Int × Int × Int × Int × Int × Int × Int × Int) (Lp (Int × Int × Int × Int × Bool × (List (List Int)) × (List S_api_Order) × Int × Int × Int × Int × Int × Int × Int × Int × Int × Int × Int × Int) (Lp (Int × Int × Int × Bool × (List (List Int)) × (List S_api_Order) × Int × Int × Int × Int × Int × Int × Int × Int × Int × Int × Int × Int) (Bool)))))) :=
 fun (i_204, x_205, x_206, x_207, x_208, x_209, x_210, x_211, x_212, x_213, x_214, x_215, x_216, x_217, x_218, x_219, x_220, x_221, x_222) =>
  cond (decide (i_204 < 4))
   (obind (topo_OrderOf n (S_api_Fleet.mk x_205 x_206 x_207 x_208 x_209 x_210) i_204) fun r230 =>
   need (0 ≤ i_204 ∧ i_204 < 4) (
   obind (some (S_4_api_Node.get (S_4_api_Node.mk (S_api_Node.mk x_211 x_212 x_213) (S_api_Node.mk x_214 x_215 x_216) (S_api_Node.mk x_217 x_218 x_219) (S_api_Node.mk x_220 x_221 x_222)) i_204)) fun x234 =>
   obind (topo_Apply x234 r230.1) fun r235 =>
   need (0 ≤ i_204 ∧ i_204 < 4) (
   obind (some (S_4_api_Node.put (S_4_api_Node.mk (S_api_Node.mk x_211 x_212 x_213) (S_api_Node.mk x_214 x_215 x_216) (S_api_Node.mk x_217 x_218 x_219) (S_api_Node.mk x_220 x_221 x_222)) i_204 r235)) fun x238 =>
   need (0 ≤ i_204 ∧ i_204 < 4) (
   obind (some (S_4_api_Node.get x238 i_204)) fun x240 =>
   obind (topo_Confirm n (S_api_Fleet.mk x_205 x_206 x_207 x_208 x_209 x_210) i_204 x240.Serial) fun r241 =>
   cond (decide (r230.2 ≠ 0) || decide (r241.2 ≠ 0))
    (some (.stop (.stop (.stop (.stop (.stop false))))))
    (some (.go ((IntKind.i64.wrap (i_204 + 1)), r241.1.Base, r241.1.Done, r241.1.Serial, r241.1.Stopped, r241.1.Stages, r241.1.Orders, x238.a0_.Site, x238.a0_.Version, x238.a0_.Serial, x238.a1_.Site, x238.a1_.Version, x238.a1_.Serial, x238.a2_.Site, x238.a2_.Version, x238.a2_.Serial, x238.a3_.Site, x238.a3_.Version, x238.a3_.Serial)))))))
   (some (.stop (.go (x_205, x_206, x_207, x_208, x_209, x_210, x_211, x_212, x_213, x_214, x_215, x_216, x_217, x_218, x_219, x_220, x_221, x_222))))
def law42_TopoGoingBackRestores_L2 (n : Nat) (back_2 : Bool) : (Int × Int × Int × Int × Bool × (List (List Int)) × (List S_api_Order) × Int × Int × Int × Int × Int × Int × Int × Int × Int × Int × Int × Int) → Option (Lp (Int × Int × Int × Int × Bool × (List (List Int)) × (List S_api_Order) × Int × Int × Int × Int × Int × Int × Int × Int × Int × Int × Int × Int) (Lp (Int × Int × Int × Bool × (List (List Int)) × (List S_api_Order) × Int × Int × Int × Int × Int × Int × Int × Int × Int × Int × Int × Int) (Bool))) :=
 fun (k_130, x_131, x_132, x_133, x_134, x_135, x_136, x_137, x_138, x_139, x_140, x_141, x_142, x_143, x_144, x_145, x_146, x_147, x_148) =>
  cond (decide (k_130 < 10))
   (bindJ (S := Int × Int × Int × Bool × (List (List Int)) × (List S_api_Order) × Int × Int × Int × Int × Int × Int × Int × Int × Int × Int × Int × Int)
    (bindJ (S := Int × Int × Int × Bool × (List (List Int)) × (List S_api_Order) × Int × Int × Int × Int × Int × Int × Int × Int × Int × Int × Int × Int)
     (iter (law42_TopoGoingBackRestores_L3 n) n (0, x_131, x_132, x_133, x_134, x_135, x_136, x_137, x_138, x_139, x_140, x_141, x_142, x_143, x_144, x_145, x_146, x_147, x_148))
    (fun (x_180, x_181, x_182, x_183, x_184, x_185, x_186, x_187, x_188, x_189, x_190, x_191, x_192, x_193, x_194, x_195, x_196, x_197) =>
     obind (topo_Settled n (S_api_Fleet.mk x_180 x_181 x_182 x_183 x_184 x_185)) fun r272 =>
     cond (!r272)
      (some (.stop (.stop (.stop false))))
      (bindJ (S := Int × Int × Int × Bool × (List (List Int)) × (List S_api_Order))
       (cond (back_2 && decide (0 < x_181))
        (obind (topo_Retreat n (S_api_Fleet.mk x_180 x_181 x_182 x_183 x_184 x_185)) fun r291 =>
        cond (decide (r291.2 ≠ 0))
         (some (.stop (.stop (.stop (.stop false)))))
         (some (.go (r291.1.Base, r291.1.Done, r291.1.Serial, r291.1.Stopped, r291.1.Stages, r291.1.Orders))))
        (some (.go (x_180, x_181, x_182, x_183, x_184, x_185))))
      (fun (x_275, x_276, x_277, x_278, x_279, x_280) =>
       cond ((!back_2) && decide (x_276 < (x_279.length : Int)))
        (obind (topo_Forward n (S_api_Fleet.mk x_275 x_276 x_277 x_278 x_279 x_280)) fun r305 =>
        cond (decide (r305.2 ≠ 0))
         (some (.stop (.stop (.stop false))))
         (some (.go (r305.1.Base, r305.1.Done, r305.1.Serial, r305.1.Stopped, r305.1.Stages, r305.1.Orders, x_186, x_187, x_188, x_189, x_190, x_191, x_192, x_193, x_194, x_195, x_196, x_197))))
        (some (.go (x_275, x_276, x_277, x_278, x_279, x_280, x_186, x_187, x_188, x_189, x_190, x_191, x_192, x_193, x_194, x_195, x_196, x_197)))))))
   (fun (x_156, x_157, x_158, x_159, x_160, x_161, x_162, x_163, x_164, x_165, x_166, x_167, x_168, x_169, x_170, x_171, x_172, x_173) =>
    some (.go ((IntKind.i64.wrap (k_130 + 1)), x_156, x_157, x_158, x_159, x_160, x_161, x_162, x_163, x_164, x_165, x_166, x_167, x_168, x_169, x_170, x_171, x_172, x_173))))
   (some (.stop (.go (x_131, x_132, x_133, x_134, x_135, x_136, x_137, x_138, x_139, x_140, x_141, x_142, x_143, x_144, x_145, x_146, x_147, x_148))))
def law42_TopoGoingBackRestores_L4 (want_97 : Int) (x_112 : Int) (x_113 : Int) (x_114 : Int) (x_115 : Int) (x_116 : Int) (x_117 : Int) (x_118 : Int) (x_119 : Int) (x_120 : Int) (x_121 : Int) (x_122 : Int) (x_123 : Int) : (Int) → Option (Lp (Int) (Lp (Unit) (Bool))) :=
 fun i_319 =>
  cond (decide (i_319 < 4))
   (need (0 ≤ i_319 ∧ i_319 < 4) (
   obind (some (S_4_api_Node.get (S_4_api_Node.mk (S_api_Node.mk x_112 x_113 x_114) (S_api_Node.mk x_115 x_116 x_117) (S_api_Node.mk x_118 x_119 x_120) (S_api_Node.mk x_121 x_122 x_123)) i_319)) fun x326 =>
   cond (decide (x326.Version ≠ want_97))
    (some (.stop (.stop false)))
    (some (.go (IntKind.i64.wrap (i_319 + 1))))))
   (some (.stop (.go ())))
def law42_TopoGoingBackRestores (n : Nat) (version_0 : Int) (l_1 : (List S_law42_Act)) (back_2 : Bool) : Option (Bool) :=
 cond (decide (100 < (l_1.length : Int)))
  (obind (law42_sanity n) fun r2 =>
  some r2)
  (obind (law42_begin n (IntKind.i64.wrap version_0)) fun r4 =>
  bindJ (S := Int × Int × Int × Bool × (List (List Int)) × (List S_api_Order) × Int × Int × Int × Int × Int × Int × Int × Int × Int × Int × Int × Int × (List S_api_Node) × (List S_api_Node) × Bool)
   (iter (law42_TopoGoingBackRestores_L1 n l_1) n (0, r4.F.Base, r4.F.Done, r4.F.Serial, r4.F.Stopped, r4.F.Stages, r4.F.Orders, r4.Nodes.a0_.Site, r4.Nodes.a0_.Version, r4.Nodes.a0_.Serial, r4.Nodes.a1_.Site, r4.Nodes.a1_.Version, r4.Nodes.a1_.Serial, r4.Nodes.a2_.Site, r4.Nodes.a2_.Version, r4.Nodes.a2_.Serial, r4.Nodes.a3_.Site, r4.Nodes.a3_.Version, r4.Nodes.a3_.Serial, r4.Sent, r4.Told, r4.Bad))
  (fun (x_15, x_16, x_17, x_18, x_19, x_20, x_21, x_22, x_23, x_24, x_25, x_26, x_27, x_28, x_29, x_30, x_31, x_32, x_33, x_34, x_35) =>
   cond x_35
    (some false)
    (obind (topo_Stop n (S_api_Fleet.mk x_15 x_16 x_17 x_18 x_19 x_20) false) fun r87 =>
    cond (decide (r87.2 ≠ 0))
     (some false)
     (bindJ (S := Int)
      (cond ((!back_2) && decide (0 < (r87.1.Stages.length : Int)))
       (some (.go (IntKind.i64.wrap (x_15 + 1))))
       (some (.go x_15)))
     (fun want_97 =>
      bindJ (S := Int × Int × Int × Bool × (List (List Int)) × (List S_api_Order) × Int × Int × Int × Int × Int × Int × Int × Int × Int × Int × Int × Int)
       (iter (law42_TopoGoingBackRestores_L2 n back_2) n (0, r87.1.Base, r87.1.Done, r87.1.Serial, r87.1.Stopped, r87.1.Stages, r87.1.Orders, x_21, x_22, x_23, x_24, x_25, x_26, x_27, x_28, x_29, x_30, x_31, x_32))
      (fun (x_106, x_107, x_108, x_109, x_110, x_111, x_112, x_113, x_114, x_115, x_116, x_117, x_118, x_119, x_120, x_121, x_122, x_123) =>
       bindJ (S := Unit)
        (iter (law42_TopoGoingBackRestores_L4 want_97 x_112 x_113 x_114 x_115 x_116 x_117 x_118 x_119 x_120 x_121 x_122 x_123) n 0)
       (fun _ =>
        cond (decide ((x_110.length : Int) = 0))
         (obind (law42_sanity n) fun r329 =>
         some r329)
         (obind (topo_End n (S_api_Fleet.mk x_106 x_107 x_108 x_109 x_110 x_111)) fun r331 =>
         obind (law42_sanity n) fun r338 =>
         some (((r338 && decide (r331.2 = 0)) && decide (r331.1.Base = want_97)) && decide ((r331.1.Stages.length : Int) = 0))))))))))
theorem law42_TopoGoingBackRestores_ok (n : Nat) (version_0 : Int) (l_1 : (List S_law42_Act)) (back_2 : Bool) (l_1v : Value) {r : Bool} (h : law42_TopoGoingBackRestores n version_0 l_1 back_2 = some r) :
  Meets Try.prog 6 [.int .u16 version_0, l_1v, .bool back_2] [ro l_1v 2 (l_1.map S_law42_Act.enc)] (fun v G => v = .bool r ∧ G = []) := by
 refine fn_of_run Try.func6 rfl Try.ntmps6 rfl (fun w0 o0 => ?_)
 refine run_seq ?_
 refine run_region' ?_
 refine oy rfl rfl (y_assign rfl) ?_
 refine ops_nil ?_
 refine goes_code ?_
 refine run_seq ?_
 refine run_seq ?_
 refine run_region' ?_
 refine oy rfl rfl (y_move rfl) ?_
 refine oy rfl rfl ((y_len 0 rfl Try.runUnderlying55 rfl rfl reads_ro).to (v_len S_law42_Act.enc _)) ?_
 refine oy rfl rfl (y_gtr rfl rfl) ?_
 refine ops_nil ?_
 refine goes_code ?_
 refine run_cond (decide (100 < (l_1.length : Int))) rfl (fun hc1 => ?_) (fun hc1 => ?_)
 ·replace h := cond_t h hc1
  refine run_seq ?_
  refine run_region' ?_
  obtain ⟨r2, hr3, h⟩ := obind_some h
  refine ot rfl rfl (t_callx (vs := []) (cs := []) [] rfl Try.call8 rfl (law42_sanity_ok n   hr3) showsX_nil rfl (.inl rfl)) ?_
  rintro _ _ ⟨_, ⟨rfl, rfl⟩, rfl⟩
  refine oy rfl rfl (y_assign rfl) ?_
  refine ops_nil ?_
  refine goes_code ?_
  refine run_ret ?_
  obtain rfl := some_eq h
  refine fin_slots [6] [.bool r2] [] [] Try.results6 rfl (by decide) rfl ?_
  exact ⟨rfl, rfl⟩
 ·replace h := cond_f h hc1
  refine run_skip ?_
  refine goes_code ?_
  refine run_seq ?_
  refine run_region' ?_
  refine oy rfl rfl (y_move rfl) ?_
  refine oy rfl rfl (y_conv Try.runUnderlying54 Try.runUnderlying3 rfl) ?_
  obtain ⟨r4, hr5, h⟩ := obind_some h
  refine ot rfl rfl (t_callx (vs := [.int .i64 (IntKind.i64.wrap version_0)]) (cs := []) [] rfl Try.call21 rfl (law42_begin_ok n (IntKind.i64.wrap version_0)  hr5) showsX_nil rfl (.inl rfl)) ?_
  rintro _ _ ⟨_, ⟨v6, v7, v8, v9, rfl, rfl⟩, rfl⟩
  refine ot rfl rfl (t_alloc Try.zeroValue65) ?_
  rintro _ _ ⟨b10, rfl, rfl⟩
  refine ops_slcN 1 rfl readsN_ro (fun hs11 hs11o => ?_)
  refine ops_slc 2 rfl reads_row (fun hs12 hs12o => ?_)
  refine ops_slc 3 rfl reads_row (fun hs13 hs13o => ?_)
  refine ops_slc 4 rfl reads_row (fun hs14 hs14o => ?_)
  refine ot rfl rfl (t_store 5 Try.sizeOf65 rfl rfl rfl rfl (by simp [Value.cells, boxP]) (allL_cons rfl (allL_cons rfl (allL_cons rfl (allL_cons rfl (allL_cons hs11o (allL_cons hs12o (allL_cons rfl (allL_cons rfl (allL_cons rfl (allL_cons rfl (allL_cons rfl (allL_cons rfl (allL_cons rfl (allL_cons rfl (allL_cons rfl (allL_cons rfl (allL_cons rfl (allL_cons rfl (allL_cons hs13o (allL_cons hs14o (allL_cons rfl (allL_nil))))))))))))))))))))))) ?_
  rintro _ _ ⟨rfl, rfl⟩
  refine ops_turn (retell 5 (g := box b10 [.int .i64 r4.F.Base, .int .i64 r4.F.Done, .int .i64 r4.F.Serial, .bool r4.F.Stopped, v6, v7, .int .i64 r4.Nodes.a0_.Site, .int .i64 r4.Nodes.a0_.Version, .int .i64 r4.Nodes.a0_.Serial, .int .i64 r4.Nodes.a1_.Site, .int .i64 r4.Nodes.a1_.Version, .int .i64 r4.Nodes.a1_.Serial, .int .i64 r4.Nodes.a2_.Site, .int .i64 r4.Nodes.a2_.Version, .int .i64 r4.Nodes.a2_.Serial, .int .i64 r4.Nodes.a3_.Site, .int .i64 r4.Nodes.a3_.Version, .int .i64 r4.Nodes.a3_.Serial, v8, v9, .bool r4.Bad]) rfl (by kernel_rfl)) ?_
  refine ops_nil ?_
  refine goes_code ?_
  obtain ⟨o40, h, ho41⟩ := bindJ_some h
  refine run_cut ((Int × Int × Int × Bool × (List (List Int)) × (List S_api_Order) × Int × Int × Int × Int × Int × Int × Int × Int × Int × Int × Int × Int × (List S_api_Node) × (List S_api_Node) × Bool) × (Value × Value × Value × Value)) (fun σ => [(2, .bool back_2), (7, boxP b10 0)]) (fun σ => [box b10 [.int .i64 σ.1.1, .int .i64 σ.1.2.1, .int .i64 σ.1.2.2.1, .bool σ.1.2.2.2.1, σ.2.1, σ.2.2.1, .int .i64 σ.1.2.2.2.2.2.2.1, .int .i64 σ.1.2.2.2.2.2.2.2.1, .int .i64 σ.1.2.2.2.2.2.2.2.2.1, .int .i64 σ.1.2.2.2.2.2.2.2.2.2.1, .int .i64 σ.1.2.2.2.2.2.2.2.2.2.2.1, .int .i64 σ.1.2.2.2.2.2.2.2.2.2.2.2.1, .int .i64 σ.1.2.2.2.2.2.2.2.2.2.2.2.2.1, .int .i64 σ.1.2.2.2.2.2.2.2.2.2.2.2.2.2.1, .int .i64 σ.1.2.2.2.2.2.2.2.2.2.2.2.2.2.2.1, .int .i64 σ.1.2.2.2.2.2.2.2.2.2.2.2.2.2.2.2.1, .int .i64 σ.1.2.2.2.2.2.2.2.2.2.2.2.2.2.2.2.2.1, .int .i64 σ.1.2.2.2.2.2.2.2.2.2.2.2.2.2.2.2.2.2.1, σ.2.2.2.1, σ.2.2.2.2, .bool σ.1.2.2.2.2.2.2.2.2.2.2.2.2.2.2.2.2.2.2.2.2], nro σ.2.1 NC_L_int_35 σ.1.2.2.2.2.1, ro σ.2.2.1 4 (σ.1.2.2.2.2.2.1.map S_api_Order.enc), ro σ.2.2.2.1 3 (σ.1.2.2.2.2.2.2.2.2.2.2.2.2.2.2.2.2.2.2.1.map S_api_Node.enc), ro σ.2.2.2.2 3 (σ.1.2.2.2.2.2.2.2.2.2.2.2.2.2.2.2.2.2.2.2.1.map S_api_Node.enc)]) (fun σ => o40 = .go σ.1) (fun L43 hL42 => ?_) ?_
  ·
   refine run_seq ?_
   refine run_weak [(1, l_1v), (2, .bool back_2), (7, boxP b10 0)] [0, 1, 2, 3, 4, 5] [ro l_1v 2 (l_1.map S_law42_Act.enc), nro v6 NC_L_int_35 r4.F.Stages, row v7 4 (r4.F.Orders.map S_api_Order.enc), row v8 3 (r4.Sent.map S_api_Node.enc), row v9 3 (r4.Told.map S_api_Node.enc), box b10 [.int .i64 r4.F.Base, .int .i64 r4.F.Done, .int .i64 r4.F.Serial, .bool r4.F.Stopped, v6, v7, .int .i64 r4.Nodes.a0_.Site, .int .i64 r4.Nodes.a0_.Version, .int .i64 r4.Nodes.a0_.Serial, .int .i64 r4.Nodes.a1_.Site, .int .i64 r4.Nodes.a1_.Version, .int .i64 r4.Nodes.a1_.Serial, .int .i64 r4.Nodes.a2_.Site, .int .i64 r4.Nodes.a2_.Version, .int .i64 r4.Nodes.a2_.Serial, .int .i64 r4.Nodes.a3_.Site, .int .i64 r4.Nodes.a3_.Version, .int .i64 r4.Nodes.a3_.Serial, v8, v9, .bool r4.Bad]] (qv3 rfl rfl rfl) (by decide) rfl ?_
   refine run_region' ?_
   refine oy rfl rfl (y_assign rfl) ?_
   refine ops_nil ?_
   refine goes_code ?_
   refine run_block ?_
   refine run_turn (Go.Abs.freeze 2 rfl) ?_
   refine run_turn (Go.Abs.freeze 3 rfl) ?_
   refine run_turn (Go.Abs.freeze 4 rfl) ?_
   refine run_iter (step := law42_TopoGoingBackRestores_L1 n l_1) (n := n) (s0 := (0, r4.F.Base, r4.F.Done, r4.F.Serial, r4.F.Stopped, r4.F.Stages, r4.F.Orders, r4.Nodes.a0_.Site, r4.Nodes.a0_.Version, r4.Nodes.a0_.Serial, r4.Nodes.a1_.Site, r4.Nodes.a1_.Version, r4.Nodes.a1_.Serial, r4.Nodes.a2_.Site, r4.Nodes.a2_.Version, r4.Nodes.a2_.Serial, r4.Nodes.a3_.Site, r4.Nodes.a3_.Version, r4.Nodes.a3_.Serial, r4.Sent, r4.Told, r4.Bad)) h (G := Value × Value × Value × Value) (v6, v7, v8, v9) (fun σ γ => [(1, l_1v), (2, .bool back_2), (7, boxP b10 0), (8, .int .i64 σ.1)]) (fun σ γ => [ro l_1v 2 (l_1.map S_law42_Act.enc), box b10 [.int .i64 σ.2.1, .int .i64 σ.2.2.1, .int .i64 σ.2.2.2.1, .bool σ.2.2.2.2.1, γ.1, γ.2.1, .int .i64 σ.2.2.2.2.2.2.2.1, .int .i64 σ.2.2.2.2.2.2.2.2.1, .int .i64 σ.2.2.2.2.2.2.2.2.2.1, .int .i64 σ.2.2.2.2.2.2.2.2.2.2.1, .int .i64 σ.2.2.2.2.2.2.2.2.2.2.2.1, .int .i64 σ.2.2.2.2.2.2.2.2.2.2.2.2.1, .int .i64 σ.2.2.2.2.2.2.2.2.2.2.2.2.2.1, .int .i64 σ.2.2.2.2.2.2.2.2.2.2.2.2.2.2.1, .int .i64 σ.2.2.2.2.2.2.2.2.2.2.2.2.2.2.2.1, .int .i64 σ.2.2.2.2.2.2.2.2.2.2.2.2.2.2.2.2.1, .int .i64 σ.2.2.2.2.2.2.2.2.2.2.2.2.2.2.2.2.2.1, .int .i64 σ.2.2.2.2.2.2.2.2.2.2.2.2.2.2.2.2.2.2.1, γ.2.2.1, γ.2.2.2, .bool σ.2.2.2.2.2.2.2.2.2.2.2.2.2.2.2.2.2.2.2.2.2], nro γ.1 NC_L_int_35 σ.2.2.2.2.2.1, ro γ.2.1 4 (σ.2.2.2.2.2.2.1.map S_api_Order.enc), ro γ.2.2.1 3 (σ.2.2.2.2.2.2.2.2.2.2.2.2.2.2.2.2.2.2.2.1.map S_api_Node.enc), ro γ.2.2.2 3 (σ.2.2.2.2.2.2.2.2.2.2.2.2.2.2.2.2.2.2.2.2.1.map S_api_Node.enc)]) [0, 5, 1, 2, 3, 4] (qv4 rfl rfl rfl rfl) (by decide) rfl ?_
   rintro ⟨i_44, x_45, x_46, x_47, x_48, x_49, x_50, x_51, x_52, x_53, x_54, x_55, x_56, x_57, x_58, x_59, x_60, x_61, x_62, x_63, x_64, x_65⟩ ⟨v66, v67, v68, v69⟩ o70 h L73 hgo71 hstop72
   change Run _ _ _ (VF.of [(1, l_1v), (2, .bool back_2), (7, boxP b10 0), (8, .int .i64 i_44)]) [ro l_1v 2 (l_1.map S_law42_Act.enc), box b10 [.int .i64 x_45, .int .i64 x_46, .int .i64 x_47, .bool x_48, v66, v67, .int .i64 x_51, .int .i64 x_52, .int .i64 x_53, .int .i64 x_54, .int .i64 x_55, .int .i64 x_56, .int .i64 x_57, .int .i64 x_58, .int .i64 x_59, .int .i64 x_60, .int .i64 x_61, .int .i64 x_62, v68, v69, .bool x_65], nro v66 NC_L_int_35 x_49, ro v67 4 (x_50.map S_api_Order.enc), ro v68 3 (x_63.map S_api_Node.enc), ro v69 3 (x_64.map S_api_Node.enc)]
   refine run_seq ?_
   refine run_seq ?_
   refine run_region' ?_
   refine oy rfl rfl (y_move rfl) ?_
   refine oy rfl rfl (y_move rfl) ?_
   refine oy rfl rfl ((y_len 0 rfl Try.runUnderlying55 rfl rfl reads_ro).to (v_len S_law42_Act.enc _)) ?_
   refine oy rfl rfl (y_lss rfl rfl) ?_
   refine ops_nil ?_
   refine goes_code ?_
   refine run_cond (decide (i_44 < (l_1.length : Int))) rfl (fun hc74 => ?_) (fun hc74 => ?_)
   ·replace h := cond_t h hc74
    refine run_skip ?_
    refine goes_code ?_
    refine run_seq ?_
    refine run_block ?_
    refine run_drawany [ro l_1v 2 (l_1.map S_law42_Act.enc), HA.emp, nro v66 NC_L_int_35 x_49, ro v67 4 (x_50.map S_api_Order.enc), ro v68 3 (x_63.map S_api_Node.enc), ro v69 3 (x_64.map S_api_Node.enc)] (by kernel_rfl) ?_
    refine any_y 1 rfl (by kernel_rfl) (by kernel_rfl) (by kernel_rfl) (ss (se (ss (ss (ss (ss (sn))))))) (wn rfl) rfl (y_move rfl) ?_
    refine any_y 2 rfl (by kernel_rfl) (by kernel_rfl) (by kernel_rfl) (ss (se (ss (ss (ss (ss (sn))))))) (wn rfl) rfl (y_move rfl) ?_
    obtain ⟨x75, hzx75, hlx75, hxx75, h⟩ := idx_some h
    refine any_y 3 rfl (by kernel_rfl) (by kernel_rfl) (by kernel_rfl) (ss (se (ss (ss (ss (ss (sn))))))) (wn rfl) rfl (y_indexAddrI (kd := .i64) (i := i_44) 0 Try.runUnderlying55 Try.sizeOf69 rfl rfl rfl reads_ro hzx75 (map_lt hlx75)) ?_
    refine any_y 4 rfl (by kernel_rfl) (by kernel_rfl) (by kernel_rfl) (ss (se (ss (ss (ss (ss (sn))))))) (wn rfl) rfl (y_load_agg (i := i_44.toNat) (c := [.int .u8 x75.Kind, .int .u8 x75.N]) 0 Try.isAgg69 Try.sizeOf69 rfl rfl reads_ro (map_get hxx75)) ?_
    refine any_all [0] (by kernel_rfl) rfl (anyo_cons ?_ anyo_nil)
    refine any_ty rfl (wn rfl) rfl (y_load_boxagg (c := [.int .i64 x_45, .int .i64 x_46, .int .i64 x_47, .bool x_48, v66, v67, .int .i64 x_51, .int .i64 x_52, .int .i64 x_53, .int .i64 x_54, .int .i64 x_55, .int .i64 x_56, .int .i64 x_57, .int .i64 x_58, .int .i64 x_59, .int .i64 x_60, .int .i64 x_61, .int .i64 x_62, v68, v69, .bool x_65]) 1 Try.isAgg65 Try.sizeOf65 rfl rfl rfl) ⟨(ss (se (ss (ss (ss (ss (sn))))))), ?_⟩
    refine any_all [5] (by kernel_rfl) rfl (anyo_cons ?_ anyo_nil)
    obtain ⟨r76, hr77, h⟩ := obind_some h
    refine any_t rfl (wn rfl) rfl (t_callx (vs := [.agg #[.int .i64 x_45, .int .i64 x_46, .int .i64 x_47, .bool x_48, v66, v67, .int .i64 x_51, .int .i64 x_52, .int .i64 x_53, .int .i64 x_54, .int .i64 x_55, .int .i64 x_56, .int .i64 x_57, .int .i64 x_58, .int .i64 x_59, .int .i64 x_60, .int .i64 x_61, .int .i64 x_62, v68, v69, .bool x_65], .agg #[.int .u8 x75.Kind, .int .u8 x75.N]]) (cs := []) [(2, 0), (3, 0), (4, 0), (5, 0)] rfl Try.call22 rfl (law42_act_ok n (S_law42_World.mk (S_api_Fleet.mk x_45 x_46 x_47 x_48 x_49 x_50) (S_4_api_Node.mk (S_api_Node.mk x_51 x_52 x_53) (S_api_Node.mk x_54 x_55 x_56) (S_api_Node.mk x_57 x_58 x_59) (S_api_Node.mk x_60 x_61 x_62)) x_63 x_64 x_65) x75 v66 v67 v68 v69 hr77) (showsX_view 2 rfl views_nro (showsX_view 3 rfl views_ro (showsX_view 4 rfl views_ro (showsX_view 5 rfl views_ro showsX_nil)))) rfl (.inl rfl)) ?_
    rintro _ _ ⟨_, ⟨v78, v79, v80, v81, rfl, rfl⟩, rfl⟩
    refine ⟨(ss (se (ss (ss (ss (ss (sn))))))), ?_⟩
    refine any_all [6] (by kernel_rfl) rfl (anyo_cons ?_ anyo_nil)
    refine anyo_slcN 6 rfl readsN_ro (fun hs82 hs82o => ?_)
    refine anyo_slc 7 rfl reads_ro (fun hs83 hs83o => ?_)
    refine anyo_slc 8 rfl reads_ro (fun hs84 hs84o => ?_)
    refine anyo_slc 9 rfl reads_ro (fun hs85 hs85o => ?_)
    refine any_t rfl (wn rfl) rfl (t_store 1 Try.sizeOf65 rfl rfl rfl rfl (by simp [Value.cells, boxP]) (allL_cons rfl (allL_cons rfl (allL_cons rfl (allL_cons rfl (allL_cons hs82o (allL_cons hs83o (allL_cons rfl (allL_cons rfl (allL_cons rfl (allL_cons rfl (allL_cons rfl (allL_cons rfl (allL_cons rfl (allL_cons rfl (allL_cons rfl (allL_cons rfl (allL_cons rfl (allL_cons rfl (allL_cons hs84o (allL_cons hs85o (allL_cons rfl (allL_nil))))))))))))))))))))))) ?_
    rintro _ _ ⟨rfl, rfl⟩
    refine ⟨(ss (se (ss (ss (ss (ss (sn))))))), ?_⟩
    refine any_turn (retell 1 (g := box b10 [.int .i64 r76.F.Base, .int .i64 r76.F.Done, .int .i64 r76.F.Serial, .bool r76.F.Stopped, v78, v79, .int .i64 r76.Nodes.a0_.Site, .int .i64 r76.Nodes.a0_.Version, .int .i64 r76.Nodes.a0_.Serial, .int .i64 r76.Nodes.a1_.Site, .int .i64 r76.Nodes.a1_.Version, .int .i64 r76.Nodes.a1_.Serial, .int .i64 r76.Nodes.a2_.Site, .int .i64 r76.Nodes.a2_.Version, .int .i64 r76.Nodes.a2_.Serial, .int .i64 r76.Nodes.a3_.Site, .int .i64 r76.Nodes.a3_.Version, .int .i64 r76.Nodes.a3_.Serial, v80, v81, .bool r76.Bad]) rfl (by kernel_rfl)) ?_
    refine any_nil (by kernel_rfl) ?_
    refine goes_blk ?_
    refine goes_code ?_
    refine run_weak [(1, l_1v), (2, .bool back_2), (7, boxP b10 0), (8, .int .i64 i_44)] [0, 1, 6, 7, 8, 9] [ro l_1v 2 (l_1.map S_law42_Act.enc), box b10 [.int .i64 r76.F.Base, .int .i64 r76.F.Done, .int .i64 r76.F.Serial, .bool r76.F.Stopped, v78, v79, .int .i64 r76.Nodes.a0_.Site, .int .i64 r76.Nodes.a0_.Version, .int .i64 r76.Nodes.a0_.Serial, .int .i64 r76.Nodes.a1_.Site, .int .i64 r76.Nodes.a1_.Version, .int .i64 r76.Nodes.a1_.Serial, .int .i64 r76.Nodes.a2_.Site, .int .i64 r76.Nodes.a2_.Version, .int .i64 r76.Nodes.a2_.Serial, .int .i64 r76.Nodes.a3_.Site, .int .i64 r76.Nodes.a3_.Version, .int .i64 r76.Nodes.a3_.Serial, v80, v81, .bool r76.Bad], nro v78 NC_L_int_35 r76.F.Stages, ro v79 4 (r76.F.Orders.map S_api_Order.enc), ro v80 3 (r76.Sent.map S_api_Node.enc), ro v81 3 (r76.Told.map S_api_Node.enc)] (qv4 rfl rfl rfl rfl) (by decide) rfl ?_
    refine run_region' ?_
    refine oy rfl rfl (y_move rfl) ?_
    refine oy rfl rfl (y_add rfl rfl) ?_
    refine oy rfl rfl (y_assign rfl) ?_
    refine ops_nil ?_
    obtain rfl := some_eq h
    exact goes_iter hgo71 ((IntKind.i64.wrap (i_44 + 1)), r76.F.Base, r76.F.Done, r76.F.Serial, r76.F.Stopped, r76.F.Stages, r76.F.Orders, r76.Nodes.a0_.Site, r76.Nodes.a0_.Version, r76.Nodes.a0_.Serial, r76.Nodes.a1_.Site, r76.Nodes.a1_.Version, r76.Nodes.a1_.Serial, r76.Nodes.a2_.Site, r76.Nodes.a2_.Version, r76.Nodes.a2_.Serial, r76.Nodes.a3_.Site, r76.Nodes.a3_.Version, r76.Nodes.a3_.Serial, r76.Sent, r76.Told, r76.Bad) (v78, v79, v80, v81) [0, 1, 2, 3, 4, 5] rfl (qv4 rfl rfl rfl rfl) (by decide) rfl
   ·replace h := cond_f h hc74
    refine run_exit _ rfl ?_
    obtain rfl := some_eq h
    obtain rfl := hstop72 _ rfl
    exact goes_cut hL42 ((x_45, x_46, x_47, x_48, x_49, x_50, x_51, x_52, x_53, x_54, x_55, x_56, x_57, x_58, x_59, x_60, x_61, x_62, x_63, x_64, x_65), (v66, v67, v68, v69)) [1, 2, 3, 4, 5] (qv2 rfl rfl) (by decide) rfl rfl
  rintro ⟨⟨x_15, x_16, x_17, x_18, x_19, x_20, x_21, x_22, x_23, x_24, x_25, x_26, x_27, x_28, x_29, x_30, x_31, x_32, x_33, x_34, x_35⟩, ⟨v36, v37, v38, v39⟩⟩ hj
  obtain rfl : o40 = _ := hj
  replace h := after_go ho41
  clear ho41
  change Run _ _ _ (VF.of [(2, .bool back_2), (7, boxP b10 0)]) [box b10 [.int .i64 x_15, .int .i64 x_16, .int .i64 x_17, .bool x_18, v36, v37, .int .i64 x_21, .int .i64 x_22, .int .i64 x_23, .int .i64 x_24, .int .i64 x_25, .int .i64 x_26, .int .i64 x_27, .int .i64 x_28, .int .i64 x_29, .int .i64 x_30, .int .i64 x_31, .int .i64 x_32, v38, v39, .bool x_35], nro v36 NC_L_int_35 x_19, ro v37 4 (x_20.map S_api_Order.enc), ro v38 3 (x_33.map S_api_Node.enc), ro v39 3 (x_34.map S_api_Node.enc)]
  refine run_seq ?_
  refine run_seq ?_
  refine run_region' ?_
  refine oy rfl rfl (y_fieldAddr_box (sz := 0) Try.runUnderlying65 rfl Try.sizeOf4 rfl) ?_
  refine oy rfl rfl (y_load_box 0 Try.isAgg4 rfl rfl rfl) ?_
  refine ops_nil ?_
  refine goes_code ?_
  refine run_cond x_35 rfl (fun hc86 => ?_) (fun hc86 => ?_)
  ·replace h := cond_t h hc86
   refine run_seq ?_
   refine run_region' ?_
   refine oy rfl rfl (y_assign rfl) ?_
   refine ops_nil ?_
   refine goes_code ?_
   refine run_ret ?_
   obtain rfl := some_eq h
   refine fin_slots [6] [.bool false] [] [] Try.results6 rfl (by decide) rfl ?_
   exact ⟨rfl, rfl⟩
  ·replace h := cond_f h hc86
   refine run_skip ?_
   refine goes_code ?_
   refine run_seq ?_
   refine run_region' ?_
   refine oy rfl rfl (y_fieldAddr_box (sz := 5) Try.runUnderlying65 rfl Try.sizeOf59 rfl) ?_
   refine oy rfl rfl (y_fieldAddr_box (sz := 0) Try.runUnderlying59 rfl Try.sizeOf3 rfl) ?_
   refine oy rfl rfl (y_load_box 0 Try.isAgg3 rfl rfl rfl) ?_
   refine oy rfl rfl (y_assign rfl) ?_
   refine ops_nil ?_
   refine goes_code ?_
   refine run_seq ?_
   refine run_region' ?_
   refine oy rfl rfl (y_fieldAddr_box (sz := 5) Try.runUnderlying65 rfl Try.sizeOf59 rfl) ?_
   refine oy rfl rfl (y_load_boxagg (c := [.int .i64 x_15, .int .i64 x_16, .int .i64 x_17, .bool x_18, v36, v37]) 0 Try.isAgg59 Try.sizeOf59 rfl rfl rfl) ?_
   obtain ⟨r87, hr88, h⟩ := obind_some h
   refine ot rfl rfl (t_callx (vs := [.agg #[.int .i64 x_15, .int .i64 x_16, .int .i64 x_17, .bool x_18, v36, v37], .bool false]) (cs := []) [(1, 0), (2, 0)] rfl Try.call24 rfl (topo_Stop_ok n (S_api_Fleet.mk x_15 x_16 x_17 x_18 x_19 x_20) false v36 v37 hr88) (showsX_view 1 rfl views_nro (showsX_view 2 rfl views_ro showsX_nil)) rfl (.inl rfl)) ?_
   rintro _ _ ⟨_, ⟨v89, v90, rfl, rfl⟩, rfl⟩
   refine oy rfl rfl (y_move rfl) ?_
   refine oy rfl rfl (y_extract rfl rfl) ?_
   refine oy rfl rfl (y_extract rfl rfl) ?_
   refine ot rfl rfl (t_alloc Try.zeroValue59) ?_
   rintro _ _ ⟨b91, rfl, rfl⟩
   refine ops_slcN 5 rfl readsN_ro (fun hs92 hs92o => ?_)
   refine ops_slc 6 rfl reads_row (fun hs93 hs93o => ?_)
   refine ot rfl rfl (t_store 7 Try.sizeOf59 rfl rfl rfl rfl (by simp [Value.cells, boxP]) (allL_cons rfl (allL_cons rfl (allL_cons rfl (allL_cons rfl (allL_cons hs92o (allL_cons hs93o (allL_nil)))))))) ?_
   rintro _ _ ⟨rfl, rfl⟩
   refine ops_turn (retell 7 (g := box b91 [.int .i64 r87.1.Base, .int .i64 r87.1.Done, .int .i64 r87.1.Serial, .bool r87.1.Stopped, v89, v90]) rfl rfl) ?_
   refine oy rfl rfl (y_assign rfl) ?_
   refine ops_nil ?_
   refine goes_code ?_
   refine run_seq ?_
   refine run_seq ?_
   refine run_weak [(2, .bool back_2), (7, boxP b10 0), (9, .int .i64 x_15), (10, boxP b91 0), (11, .int .i64 r87.2)] [0, 1, 2, 3, 4, 5, 6, 7] [box b10 [.int .i64 x_15, .int .i64 x_16, .int .i64 x_17, .bool x_18, v36, v37, .int .i64 x_21, .int .i64 x_22, .int .i64 x_23, .int .i64 x_24, .int .i64 x_25, .int .i64 x_26, .int .i64 x_27, .int .i64 x_28, .int .i64 x_29, .int .i64 x_30, .int .i64 x_31, .int .i64 x_32, v38, v39, .bool x_35], nro v36 NC_L_int_35 x_19, ro v37 4 (x_20.map S_api_Order.enc), ro v38 3 (x_33.map S_api_Node.enc), ro v39 3 (x_34.map S_api_Node.enc), nro v89 NC_L_int_35 r87.1.Stages, row v90 4 (r87.1.Orders.map S_api_Order.enc), box b91 [.int .i64 r87.1.Base, .int .i64 r87.1.Done, .int .i64 r87.1.Serial, .bool r87.1.Stopped, v89, v90]] (qv5 rfl rfl rfl rfl rfl) (by decide) rfl ?_
   refine run_region' ?_
   refine oy rfl rfl (y_move rfl) ?_
   refine oy rfl rfl (y_neq rfl rfl) ?_
   refine ops_nil ?_
   refine goes_code ?_
   refine run_cond (decide (r87.2 ≠ 0)) rfl (fun hc94 => ?_) (fun hc94 => ?_)
   ·replace h := cond_t h hc94
    refine run_seq ?_
    refine run_region' ?_
    refine oy rfl rfl (y_assign rfl) ?_
    refine ops_nil ?_
    refine goes_code ?_
    refine run_ret ?_
    obtain rfl := some_eq h
    refine fin_slots [6] [.bool false] [] [] Try.results6 rfl (by decide) rfl ?_
    exact ⟨rfl, rfl⟩
   ·replace h := cond_f h hc94
    refine run_skip ?_
    refine goes_code ?_
    refine run_seq ?_
    refine run_region' ?_
    refine oy rfl rfl (y_load_boxagg (c := [.int .i64 r87.1.Base, .int .i64 r87.1.Done, .int .i64 r87.1.Serial, .bool r87.1.Stopped, v89, v90]) 7 Try.isAgg59 Try.sizeOf59 rfl rfl rfl) ?_
    refine oy rfl rfl (y_fieldAddr_box (sz := 5) Try.runUnderlying65 rfl Try.sizeOf59 rfl) ?_
    refine ops_slcN 5 rfl readsN_ro (fun hs95 hs95o => ?_)
    refine ops_slc 6 rfl reads_row (fun hs96 hs96o => ?_)
    refine ot rfl rfl (t_store 0 Try.sizeOf59 rfl rfl rfl rfl (by simp [Value.cells, boxP]) (allL_cons rfl (allL_cons rfl (allL_cons rfl (allL_cons rfl (allL_cons hs95o (allL_cons hs96o (allL_nil)))))))) ?_
    rintro _ _ ⟨rfl, rfl⟩
    refine ops_turn (retell 0 (g := box b10 [.int .i64 r87.1.Base, .int .i64 r87.1.Done, .int .i64 r87.1.Serial, .bool r87.1.Stopped, v89, v90, .int .i64 x_21, .int .i64 x_22, .int .i64 x_23, .int .i64 x_24, .int .i64 x_25, .int .i64 x_26, .int .i64 x_27, .int .i64 x_28, .int .i64 x_29, .int .i64 x_30, .int .i64 x_31, .int .i64 x_32, v38, v39, .bool x_35]) rfl (by kernel_rfl)) ?_
    refine ops_nil ?_
    refine goes_code ?_
    obtain ⟨o98, h, ho99⟩ := bindJ_some h
    refine run_cut ((Int) × (Unit)) (fun σ => [(2, .bool back_2), (7, boxP b10 0), (9, .int .i64 σ.1)]) (fun σ => [box b10 [.int .i64 r87.1.Base, .int .i64 r87.1.Done, .int .i64 r87.1.Serial, .bool r87.1.Stopped, v89, v90, .int .i64 x_21, .int .i64 x_22, .int .i64 x_23, .int .i64 x_24, .int .i64 x_25, .int .i64 x_26, .int .i64 x_27, .int .i64 x_28, .int .i64 x_29, .int .i64 x_30, .int .i64 x_31, .int .i64 x_32, v38, v39, .bool x_35], nro v89 NC_L_int_35 r87.1.Stages, row v90 4 (r87.1.Orders.map S_api_Order.enc), ro v38 3 (x_33.map S_api_Node.enc), ro v39 3 (x_34.map S_api_Node.enc)]) (fun σ => o98 = .go σ.1) (fun L101 hL100 => ?_) ?_
    ·
     refine run_seq ?_
     refine run_region' ?_
     refine oy rfl rfl (y_move rfl) ?_
     refine oy rfl rfl (y_not rfl) ?_
     refine oy rfl rfl (y_move rfl) ?_
     refine ops_cut 6 (Bool) (fun σ => [(2, .bool back_2), (7, boxP b10 0), (9, .int .i64 x_15), (67, .bool σ)]) (fun σ => [box b10 [.int .i64 r87.1.Base, .int .i64 r87.1.Done, .int .i64 r87.1.Serial, .bool r87.1.Stopped, v89, v90, .int .i64 x_21, .int .i64 x_22, .int .i64 x_23, .int .i64 x_24, .int .i64 x_25, .int .i64 x_26, .int .i64 x_27, .int .i64 x_28, .int .i64 x_29, .int .i64 x_30, .int .i64 x_31, .int .i64 x_32, v38, v39, .bool x_35], ro v38 3 (x_33.map S_api_Node.enc), ro v39 3 (x_34.map S_api_Node.enc), nro v89 NC_L_int_35 r87.1.Stages, row v90 4 (r87.1.Orders.map S_api_Order.enc)]) (fun σ => σ = ((!back_2) && decide (0 < (r87.1.Stages.length : Int)))) (fun L102 hL103 => ?_) ?_
     ·refine ops_split 61 (!back_2) rfl (fun hg104 => ?_) (fun hg104 => ?_)
      ·skip
       refine ops_y (wg 2 true 61 rfl rfl rfl rfl) rfl (y_fieldAddr_box (sz := 5) Try.runUnderlying65 rfl Try.sizeOf59 rfl) ?_
       refine ops_y (wg 2 true 61 rfl rfl rfl rfl) rfl (y_fieldAddr_box (sz := 0) Try.runUnderlying59 rfl Try.sizeOf56 rfl) ?_
       refine ops_y (wg 2 true 61 rfl rfl rfl rfl) rfl (y_load_box 0 Try.isAgg56 rfl rfl rfl) ?_
       refine ops_y (wg 2 true 61 rfl rfl rfl rfl) rfl (y_lenN 5 rfl Try.runUnderlying56 rfl rfl readsN_ro) ?_
       refine ops_y (wg 2 true 61 rfl rfl rfl rfl) rfl (y_gtr rfl rfl) ?_
       refine oy rfl rfl (y_pick (b := true) rfl rfl) ?_
       refine ops_nil ?_
       exact goes_cut hL103 (decide (0 < (r87.1.Stages.length : Int))) [0, 3, 4, 5, 6] (qv4 rfl rfl rfl rfl) (by decide) rfl (by rw [hg104]; simp)
      ·skip
       refine ops_no 2 true 61 rfl rfl rfl rfl rfl ?_
       refine ops_no 2 true 61 rfl rfl rfl rfl rfl ?_
       refine ops_no 2 true 61 rfl rfl rfl rfl rfl ?_
       refine ops_no 2 true 61 rfl rfl rfl rfl rfl ?_
       refine ops_no 2 true 61 rfl rfl rfl rfl rfl ?_
       refine oy rfl rfl (y_pick (b := false) rfl rfl) ?_
       refine ops_nil ?_
       exact goes_cut hL103 false [0, 3, 4, 5, 6] (qv4 rfl rfl rfl rfl) (by decide) rfl (by rw [hg104]; simp)
     rintro _ rfl
     refine ops_nil ?_
     refine goes_code ?_
     refine run_cond ((!back_2) && decide (0 < (r87.1.Stages.length : Int))) rfl (fun hc105 => ?_) (fun hc105 => ?_)
     ·replace h := cond_t h hc105
      refine run_region' ?_
      refine oy rfl rfl (y_move rfl) ?_
      refine oy rfl rfl (y_add rfl rfl) ?_
      refine oy rfl rfl (y_assign rfl) ?_
      refine ops_nil ?_
      obtain rfl := some_eq h
      exact goes_cut hL100 ((IntKind.i64.wrap (x_15 + 1)), ()) [0, 3, 4, 1, 2] (qv3 rfl rfl rfl) (by decide) rfl rfl
     ·replace h := cond_f h hc105
      refine run_skip ?_
      obtain rfl := some_eq h
      exact goes_cut hL100 (x_15, ()) [0, 3, 4, 1, 2] (qv3 rfl rfl rfl) (by decide) rfl rfl
    rintro ⟨want_97, _⟩ hj
    obtain rfl : o98 = _ := hj
    replace h := after_go ho99
    clear ho99
    change Run _ _ _ (VF.of [(2, .bool back_2), (7, boxP b10 0), (9, .int .i64 want_97)]) [box b10 [.int .i64 r87.1.Base, .int .i64 r87.1.Done, .int .i64 r87.1.Serial, .bool r87.1.Stopped, v89, v90, .int .i64 x_21, .int .i64 x_22, .int .i64 x_23, .int .i64 x_24, .int .i64 x_25, .int .i64 x_26, .int .i64 x_27, .int .i64 x_28, .int .i64 x_29, .int .i64 x_30, .int .i64 x_31, .int .i64 x_32, v38, v39, .bool x_35], nro v89 NC_L_int_35 r87.1.Stages, row v90 4 (r87.1.Orders.map S_api_Order.enc), ro v38 3 (x_33.map S_api_Node.enc), ro v39 3 (x_34.map S_api_Node.enc)]
    obtain ⟨o126, h, ho127⟩ := bindJ_some h
    refine run_cut ((Int × Int × Int × Bool × (List (List Int)) × (List S_api_Order) × Int × Int × Int × Int × Int × Int × Int × Int × Int × Int × Int × Int) × (Value × Value)) (fun σ => [(7, boxP b10 0), (9, .int .i64 want_97)]) (fun σ => [box b10 [.int .i64 σ.1.1, .int .i64 σ.1.2.1, .int .i64 σ.1.2.2.1, .bool σ.1.2.2.2.1, σ.2.1, σ.2.2, .int .i64 σ.1.2.2.2.2.2.2.1, .int .i64 σ.1.2.2.2.2.2.2.2.1, .int .i64 σ.1.2.2.2.2.2.2.2.2.1, .int .i64 σ.1.2.2.2.2.2.2.2.2.2.1, .int .i64 σ.1.2.2.2.2.2.2.2.2.2.2.1, .int .i64 σ.1.2.2.2.2.2.2.2.2.2.2.2.1, .int .i64 σ.1.2.2.2.2.2.2.2.2.2.2.2.2.1, .int .i64 σ.1.2.2.2.2.2.2.2.2.2.2.2.2.2.1, .int .i64 σ.1.2.2.2.2.2.2.2.2.2.2.2.2.2.2.1, .int .i64 σ.1.2.2.2.2.2.2.2.2.2.2.2.2.2.2.2.1, .int .i64 σ.1.2.2.2.2.2.2.2.2.2.2.2.2.2.2.2.2.1, .int .i64 σ.1.2.2.2.2.2.2.2.2.2.2.2.2.2.2.2.2.2, v38, v39, .bool x_35], nro σ.2.1 NC_L_int_35 σ.1.2.2.2.2.1, row σ.2.2 4 (σ.1.2.2.2.2.2.1.map S_api_Order.enc), ro v38 3 (x_33.map S_api_Node.enc), ro v39 3 (x_34.map S_api_Node.enc)]) (fun σ => o126 = .go σ.1) (fun L129 hL128 => ?_) ?_
    ·
     refine run_seq ?_
     refine run_region' ?_
     refine oy rfl rfl (y_assign rfl) ?_
     refine ops_nil ?_
     refine goes_code ?_
     refine run_block ?_
     refine run_iter (step := law42_TopoGoingBackRestores_L2 n back_2) (n := n) (s0 := (0, r87.1.Base, r87.1.Done, r87.1.Serial, r87.1.Stopped, r87.1.Stages, r87.1.Orders, x_21, x_22, x_23, x_24, x_25, x_26, x_27, x_28, x_29, x_30, x_31, x_32)) h (G := Value × Value) (v89, v90) (fun σ γ => [(2, .bool back_2), (7, boxP b10 0), (9, .int .i64 want_97), (12, .int .i64 σ.1)]) (fun σ γ => [box b10 [.int .i64 σ.2.1, .int .i64 σ.2.2.1, .int .i64 σ.2.2.2.1, .bool σ.2.2.2.2.1, γ.1, γ.2, .int .i64 σ.2.2.2.2.2.2.2.1, .int .i64 σ.2.2.2.2.2.2.2.2.1, .int .i64 σ.2.2.2.2.2.2.2.2.2.1, .int .i64 σ.2.2.2.2.2.2.2.2.2.2.1, .int .i64 σ.2.2.2.2.2.2.2.2.2.2.2.1, .int .i64 σ.2.2.2.2.2.2.2.2.2.2.2.2.1, .int .i64 σ.2.2.2.2.2.2.2.2.2.2.2.2.2.1, .int .i64 σ.2.2.2.2.2.2.2.2.2.2.2.2.2.2.1, .int .i64 σ.2.2.2.2.2.2.2.2.2.2.2.2.2.2.2.1, .int .i64 σ.2.2.2.2.2.2.2.2.2.2.2.2.2.2.2.2.1, .int .i64 σ.2.2.2.2.2.2.2.2.2.2.2.2.2.2.2.2.2.1, .int .i64 σ.2.2.2.2.2.2.2.2.2.2.2.2.2.2.2.2.2.2, v38, v39, .bool x_35], nro γ.1 NC_L_int_35 σ.2.2.2.2.2.1, row γ.2 4 (σ.2.2.2.2.2.2.1.map S_api_Order.enc), ro v38 3 (x_33.map S_api_Node.enc), ro v39 3 (x_34.map S_api_Node.enc)]) [0, 1, 2, 3, 4] (qv4 rfl rfl rfl rfl) (by decide) rfl ?_
     rintro ⟨k_130, x_131, x_132, x_133, x_134, x_135, x_136, x_137, x_138, x_139, x_140, x_141, x_142, x_143, x_144, x_145, x_146, x_147, x_148⟩ ⟨v149, v150⟩ o151 h L154 hgo152 hstop153
     change Run _ _ _ (VF.of [(2, .bool back_2), (7, boxP b10 0), (9, .int .i64 want_97), (12, .int .i64 k_130)]) [box b10 [.int .i64 x_131, .int .i64 x_132, .int .i64 x_133, .bool x_134, v149, v150, .int .i64 x_137, .int .i64 x_138, .int .i64 x_139, .int .i64 x_140, .int .i64 x_141, .int .i64 x_142, .int .i64 x_143, .int .i64 x_144, .int .i64 x_145, .int .i64 x_146, .int .i64 x_147, .int .i64 x_148, v38, v39, .bool x_35], nro v149 NC_L_int_35 x_135, row v150 4 (x_136.map S_api_Order.enc), ro v38 3 (x_33.map S_api_Node.enc), ro v39 3 (x_34.map S_api_Node.enc)]
     refine run_seq ?_
     refine run_seq ?_
     refine run_region' ?_
     refine oy rfl rfl (y_move rfl) ?_
     refine oy rfl rfl (y_lss rfl rfl) ?_
     refine ops_nil ?_
     refine goes_code ?_
     refine run_cond (decide (k_130 < 10)) rfl (fun hc155 => ?_) (fun hc155 => ?_)
     ·replace h := cond_t h hc155
      refine run_skip ?_
      refine goes_code ?_
      obtain ⟨o176, h, ho177⟩ := bindJ_some h
      refine run_cut ((Int × Int × Int × Bool × (List (List Int)) × (List S_api_Order) × Int × Int × Int × Int × Int × Int × Int × Int × Int × Int × Int × Int) × (Value × Value)) (fun σ => [(2, .bool back_2), (7, boxP b10 0), (9, .int .i64 want_97), (12, .int .i64 k_130)]) (fun σ => [box b10 [.int .i64 σ.1.1, .int .i64 σ.1.2.1, .int .i64 σ.1.2.2.1, .bool σ.1.2.2.2.1, σ.2.1, σ.2.2, .int .i64 σ.1.2.2.2.2.2.2.1, .int .i64 σ.1.2.2.2.2.2.2.2.1, .int .i64 σ.1.2.2.2.2.2.2.2.2.1, .int .i64 σ.1.2.2.2.2.2.2.2.2.2.1, .int .i64 σ.1.2.2.2.2.2.2.2.2.2.2.1, .int .i64 σ.1.2.2.2.2.2.2.2.2.2.2.2.1, .int .i64 σ.1.2.2.2.2.2.2.2.2.2.2.2.2.1, .int .i64 σ.1.2.2.2.2.2.2.2.2.2.2.2.2.2.1, .int .i64 σ.1.2.2.2.2.2.2.2.2.2.2.2.2.2.2.1, .int .i64 σ.1.2.2.2.2.2.2.2.2.2.2.2.2.2.2.2.1, .int .i64 σ.1.2.2.2.2.2.2.2.2.2.2.2.2.2.2.2.2.1, .int .i64 σ.1.2.2.2.2.2.2.2.2.2.2.2.2.2.2.2.2.2, v38, v39, .bool x_35], nro σ.2.1 NC_L_int_35 σ.1.2.2.2.2.1, row σ.2.2 4 (σ.1.2.2.2.2.2.1.map S_api_Order.enc), ro v38 3 (x_33.map S_api_Node.enc), ro v39 3 (x_34.map S_api_Node.enc)]) (fun σ => o176 = .go σ.1) (fun L179 hL178 => ?_) ?_
      ·
       refine run_block ?_
       obtain ⟨o200, h, ho201⟩ := bindJ_some h
       refine run_cut ((Int × Int × Int × Bool × (List (List Int)) × (List S_api_Order) × Int × Int × Int × Int × Int × Int × Int × Int × Int × Int × Int × Int) × (Value × Value)) (fun σ => [(2, .bool back_2), (7, boxP b10 0), (9, .int .i64 want_97), (12, .int .i64 k_130)]) (fun σ => [box b10 [.int .i64 σ.1.1, .int .i64 σ.1.2.1, .int .i64 σ.1.2.2.1, .bool σ.1.2.2.2.1, σ.2.1, σ.2.2, .int .i64 σ.1.2.2.2.2.2.2.1, .int .i64 σ.1.2.2.2.2.2.2.2.1, .int .i64 σ.1.2.2.2.2.2.2.2.2.1, .int .i64 σ.1.2.2.2.2.2.2.2.2.2.1, .int .i64 σ.1.2.2.2.2.2.2.2.2.2.2.1, .int .i64 σ.1.2.2.2.2.2.2.2.2.2.2.2.1, .int .i64 σ.1.2.2.2.2.2.2.2.2.2.2.2.2.1, .int .i64 σ.1.2.2.2.2.2.2.2.2.2.2.2.2.2.1, .int .i64 σ.1.2.2.2.2.2.2.2.2.2.2.2.2.2.2.1, .int .i64 σ.1.2.2.2.2.2.2.2.2.2.2.2.2.2.2.2.1, .int .i64 σ.1.2.2.2.2.2.2.2.2.2.2.2.2.2.2.2.2.1, .int .i64 σ.1.2.2.2.2.2.2.2.2.2.2.2.2.2.2.2.2.2, v38, v39, .bool x_35], nro σ.2.1 NC_L_int_35 σ.1.2.2.2.2.1, row σ.2.2 4 (σ.1.2.2.2.2.2.1.map S_api_Order.enc), ro v38 3 (x_33.map S_api_Node.enc), ro v39 3 (x_34.map S_api_Node.enc)]) (fun σ => o200 = .go σ.1) (fun L203 hL202 => ?_) ?_
       ·
        refine run_seq ?_
        refine run_region' ?_
        refine oy rfl rfl (y_assign rfl) ?_
        refine ops_nil ?_
        refine goes_code ?_
        refine run_block ?_
        refine run_iter (step := law42_TopoGoingBackRestores_L3 n) (n := n) (s0 := (0, x_131, x_132, x_133, x_134, x_135, x_136, x_137, x_138, x_139, x_140, x_141, x_142, x_143, x_144, x_145, x_146, x_147, x_148)) h (G := Value × Value) (v149, v150) (fun σ γ => [(2, .bool back_2), (7, boxP b10 0), (9, .int .i64 want_97), (12, .int .i64 k_130), (13, .int .i64 σ.1)]) (fun σ γ => [box b10 [.int .i64 σ.2.1, .int .i64 σ.2.2.1, .int .i64 σ.2.2.2.1, .bool σ.2.2.2.2.1, γ.1, γ.2, .int .i64 σ.2.2.2.2.2.2.2.1, .int .i64 σ.2.2.2.2.2.2.2.2.1, .int .i64 σ.2.2.2.2.2.2.2.2.2.1, .int .i64 σ.2.2.2.2.2.2.2.2.2.2.1, .int .i64 σ.2.2.2.2.2.2.2.2.2.2.2.1, .int .i64 σ.2.2.2.2.2.2.2.2.2.2.2.2.1, .int .i64 σ.2.2.2.2.2.2.2.2.2.2.2.2.2.1, .int .i64 σ.2.2.2.2.2.2.2.2.2.2.2.2.2.2.1, .int .i64 σ.2.2.2.2.2.2.2.2.2.2.2.2.2.2.2.1, .int .i64 σ.2.2.2.2.2.2.2.2.2.2.2.2.2.2.2.2.1, .int .i64 σ.2.2.2.2.2.2.2.2.2.2.2.2.2.2.2.2.2.1, .int .i64 σ.2.2.2.2.2.2.2.2.2.2.2.2.2.2.2.2.2.2, v38, v39, .bool x_35], nro γ.1 NC_L_int_35 σ.2.2.2.2.2.1, row γ.2 4 (σ.2.2.2.2.2.2.1.map S_api_Order.enc), ro v38 3 (x_33.map S_api_Node.enc), ro v39 3 (x_34.map S_api_Node.enc)]) [0, 1, 2, 3, 4] (qv5 rfl rfl rfl rfl rfl) (by decide) rfl ?_
        rintro ⟨i_204, x_205, x_206, x_207, x_208, x_209, x_210, x_211, x_212, x_213, x_214, x_215, x_216, x_217, x_218, x_219, x_220, x_221, x_222⟩ ⟨v223, v224⟩ o225 h L228 hgo226 hstop227
        change Run _ _ _ (VF.of [(2, .bool back_2), (7, boxP b10 0), (9, .int .i64 want_97), (12, .int .i64 k_130), (13, .int .i64 i_204)]) [box b10 [.int .i64 x_205, .int .i64 x_206, .int .i64 x_207, .bool x_208, v223, v224, .int .i64 x_211, .int .i64 x_212, .int .i64 x_213, .int .i64 x_214, .int .i64 x_215, .int .i64 x_216, .int .i64 x_217, .int .i64 x_218, .int .i64 x_219, .int .i64 x_220, .int .i64 x_221, .int .i64 x_222, v38, v39, .bool x_35], nro v223 NC_L_int_35 x_209, row v224 4 (x_210.map S_api_Order.enc), ro v38 3 (x_33.map S_api_Node.enc), ro v39 3 (x_34.map S_api_Node.enc)]
        refine run_seq ?_
        refine run_seq ?_
        refine run_region' ?_
        refine oy rfl rfl (y_move rfl) ?_
        refine oy rfl rfl (y_lss rfl rfl) ?_
        refine ops_nil ?_
        refine goes_code ?_
        refine run_cond (decide (i_204 < 4)) rfl (fun hc229 => ?_) (fun hc229 => ?_)
        ·replace h := cond_t h hc229
         refine run_skip ?_
         refine goes_code ?_
         refine run_seq ?_
         refine run_block ?_
         refine run_seq ?_
         refine run_region' ?_
         refine oy rfl rfl (y_fieldAddr_box (sz := 5) Try.runUnderlying65 rfl Try.sizeOf59 rfl) ?_
         refine oy rfl rfl (y_load_boxagg (c := [.int .i64 x_205, .int .i64 x_206, .int .i64 x_207, .bool x_208, v223, v224]) 0 Try.isAgg59 Try.sizeOf59 rfl rfl rfl) ?_
         refine oy rfl rfl (y_move rfl) ?_
         obtain ⟨r230, hr231, h⟩ := obind_some h
         refine ot rfl rfl (t_callx (vs := [.agg #[.int .i64 x_205, .int .i64 x_206, .int .i64 x_207, .bool x_208, v223, v224], .int .i64 i_204]) (cs := []) [(1, 0), (2, 1)] rfl Try.call25 rfl (topo_OrderOf_ok n (S_api_Fleet.mk x_205 x_206 x_207 x_208 x_209 x_210) i_204 v223 v224 hr231) (showsX_view 1 rfl views_nro (showsX_look 2 rfl views_row showsX_nil)) rfl (.inr (by rintro _ _ ⟨rfl, rfl⟩ g hg; first | (cases hg; done) | (simp only [List.mem_cons, List.not_mem_nil, or_false] at hg; first | (subst hg; first | exact strict_row | exact strict_box) | (rcases hg with rfl | rfl <;> first | exact strict_row | exact strict_box) | (rcases hg with rfl | rfl | rfl <;> first | exact strict_row | exact strict_box))))) ?_
         rintro _ _ ⟨_, ⟨rfl, rfl⟩, rfl⟩
         refine oy rfl rfl (y_move rfl) ?_
         refine oy rfl rfl (y_extract rfl rfl) ?_
         refine oy rfl rfl (y_extract rfl rfl) ?_
         refine ot rfl rfl (t_alloc Try.zeroValue61) ?_
         rintro _ _ ⟨b232, rfl, rfl⟩
         refine ot rfl rfl (t_store 5 Try.sizeOf61 rfl rfl rfl rfl (by simp [Value.cells, boxP]) (by simp [Value.cells, Value.oneCell', boxP])) ?_
         rintro _ _ ⟨rfl, rfl⟩
         refine ops_turn (retell 5 (g := box b232 [.int .i64 r230.1.Site, .int .i64 r230.1.Version, .int .i64 r230.1.Serial]) rfl rfl) ?_
         refine oy rfl rfl (y_assign rfl) ?_
         refine ops_nil ?_
         refine goes_code ?_
         refine run_seq ?_
         refine run_weak [(2, .bool back_2), (7, boxP b10 0), (9, .int .i64 want_97), (12, .int .i64 k_130), (13, .int .i64 i_204), (14, boxP b232 0), (15, .int .i64 r230.2)] [0, 1, 2, 3, 4, 5] [box b10 [.int .i64 x_205, .int .i64 x_206, .int .i64 x_207, .bool x_208, v223, v224, .int .i64 x_211, .int .i64 x_212, .int .i64 x_213, .int .i64 x_214, .int .i64 x_215, .int .i64 x_216, .int .i64 x_217, .int .i64 x_218, .int .i64 x_219, .int .i64 x_220, .int .i64 x_221, .int .i64 x_222, v38, v39, .bool x_35], nro v223 NC_L_int_35 x_209, row v224 4 (x_210.map S_api_Order.enc), ro v38 3 (x_33.map S_api_Node.enc), ro v39 3 (x_34.map S_api_Node.enc), box b232 [.int .i64 r230.1.Site, .int .i64 r230.1.Version, .int .i64 r230.1.Serial]] (qv7 rfl rfl rfl rfl rfl rfl rfl) (by decide) rfl ?_
         refine run_drawany [HA.emp, nro v223 NC_L_int_35 x_209, row v224 4 (x_210.map S_api_Order.enc), ro v38 3 (x_33.map S_api_Node.enc), ro v39 3 (x_34.map S_api_Node.enc), box b232 [.int .i64 r230.1.Site, .int .i64 r230.1.Version, .int .i64 r230.1.Serial]] (by kernel_rfl) ?_
         refine any_y 0 rfl (by kernel_rfl) (by kernel_rfl) (by kernel_rfl) (se (ss (ss (ss (ss (ss (sn))))))) (wn rfl) rfl (y_move rfl) ?_
         refine any_y 1 rfl (by kernel_rfl) (by kernel_rfl) (by kernel_rfl) (se (ss (ss (ss (ss (ss (sn))))))) (wn rfl) rfl (y_move rfl) ?_
         refine any_y 2 rfl (by kernel_rfl) (by kernel_rfl) (by kernel_rfl) (se (ss (ss (ss (ss (ss (sn))))))) (wn rfl) rfl (y_fieldAddr_box (sz := 11) Try.runUnderlying65 rfl Try.sizeOf62 rfl) ?_
         refine any_y 5 rfl (by kernel_rfl) (by kernel_rfl) (by kernel_rfl) (se (ss (ss (ss (ss (ss (sn))))))) (wn rfl) rfl (y_load_boxagg (c := [.int .i64 r230.1.Site, .int .i64 r230.1.Version, .int .i64 r230.1.Serial]) 5 Try.isAgg61 Try.sizeOf61 rfl rfl rfl) ?_
         refine any_y 7 rfl (by kernel_rfl) (by kernel_rfl) (by kernel_rfl) (se (ss (ss (ss (ss (ss (sn))))))) (wn rfl) rfl (y_fieldAddr_box (sz := 11) Try.runUnderlying65 rfl Try.sizeOf62 rfl) ?_
         refine any_all [3] (by kernel_rfl) rfl (anyo_cons ?_ anyo_nil)
         obtain ⟨hi233, h⟩ := need_some h
         refine any_ty rfl (wn rfl) rfl (y_indexAddr_boxI (i := i_204) Try.runUnderlying62 Try.sizeOf61 rfl rfl hi233) ⟨(se (ss (ss (ss (ss (ss (sn))))))), ?_⟩
         refine any_all [4] (by kernel_rfl) rfl (anyo_cons ?_ anyo_nil)
         obtain ⟨x234, hxx234, h⟩ := obind_some h
         refine any_ty rfl (wn rfl) rfl (y_load_boxaggI (c := [.int .i64 x234.Site, .int .i64 x234.Version, .int .i64 x234.Serial]) 0 Try.isAgg61 Try.sizeOf61 rfl rfl rfl (arr_take (F := S_api_Node.enc) (es := 3) (fun x => (S_api_Node.enc_ok x).1) (S_4_api_Node.get_at (p := (S_4_api_Node.mk (S_api_Node.mk x_211 x_212 x_213) (S_api_Node.mk x_214 x_215 x_216) (S_api_Node.mk x_217 x_218 x_219) (S_api_Node.mk x_220 x_221 x_222))) hi233 hxx234) [.int .i64 x_205, .int .i64 x_206, .int .i64 x_207, .bool x_208, v223, v224] [v38, v39, .bool x_35])) ⟨(se (ss (ss (ss (ss (ss (sn))))))), ?_⟩
         refine any_all [6] (by kernel_rfl) rfl (anyo_cons ?_ anyo_nil)
         obtain ⟨r235, hr236, h⟩ := obind_some h
         refine any_t rfl (wn rfl) rfl (t_callx (vs := [.agg #[.int .i64 x234.Site, .int .i64 x234.Version, .int .i64 x234.Serial], .agg #[.int .i64 r230.1.Site, .int .i64 r230.1.Version, .int .i64 r230.1.Serial]]) (cs := []) [] rfl Try.call26 rfl (topo_Apply_ok x234 r230.1  hr236) showsX_nil rfl (.inl rfl)) ?_
         rintro _ _ ⟨_, ⟨rfl, rfl⟩, rfl⟩
         refine ⟨(se (ss (ss (ss (ss (ss (sn))))))), ?_⟩
         refine any_all [8] (by kernel_rfl) rfl (anyo_cons ?_ anyo_nil)
         obtain ⟨hi237, h⟩ := need_some h
         refine any_ty rfl (wn rfl) rfl (y_indexAddr_boxI (i := i_204) Try.runUnderlying62 Try.sizeOf61 rfl rfl hi237) ⟨(se (ss (ss (ss (ss (ss (sn))))))), ?_⟩
         refine any_all [9] (by kernel_rfl) rfl (anyo_cons ?_ anyo_nil)
         obtain ⟨x238, hxx238, h⟩ := obind_some h
         refine any_t rfl (wn rfl) rfl (t_store_arr (F := S_api_Node.enc) (es := 3) (i := i_204.toNat) (l := S_4_api_Node.toL (S_4_api_Node.mk (S_api_Node.mk x_211 x_212 x_213) (S_api_Node.mk x_214 x_215 x_216) (S_api_Node.mk x_217 x_218 x_219) (S_api_Node.mk x_220 x_221 x_222))) (v := r235) 0 [.int .i64 x_205, .int .i64 x_206, .int .i64 x_207, .bool x_208, v223, v224] [v38, v39, .bool x_35] (fun x => (S_api_Node.enc_ok x).1) Try.sizeOf61 rfl rfl rfl rfl (by rw [S_4_api_Node.toL_len]; omega) rfl (by simp [Value.cells, Value.oneCell', boxP])) ?_
         rintro _ _ ⟨rfl, rfl⟩
         refine ⟨(se (ss (ss (ss (ss (ss (sn))))))), ?_⟩
         refine any_turn (retell 0 (g := box b10 [.int .i64 x_205, .int .i64 x_206, .int .i64 x_207, .bool x_208, v223, v224, .int .i64 x238.a0_.Site, .int .i64 x238.a0_.Version, .int .i64 x238.a0_.Serial, .int .i64 x238.a1_.Site, .int .i64 x238.a1_.Version, .int .i64 x238.a1_.Serial, .int .i64 x238.a2_.Site, .int .i64 x238.a2_.Version, .int .i64 x238.a2_.Serial, .int .i64 x238.a3_.Site, .int .i64 x238.a3_.Version, .int .i64 x238.a3_.Serial, v38, v39, .bool x_35]) rfl (congrArg (fun q => box b10 ([.int .i64 x_205, .int .i64 x_206, .int .i64 x_207, .bool x_208, v223, v224] ++ (q.flatMap S_api_Node.enc ++ [v38, v39, .bool x_35]))) (S_4_api_Node.put_at hxx238).symm)) ?_
         refine any_nil (by kernel_rfl) ?_
         refine goes_code ?_
         refine run_seq ?_
         refine run_weak [(2, .bool back_2), (7, boxP b10 0), (9, .int .i64 want_97), (12, .int .i64 k_130), (13, .int .i64 i_204), (15, .int .i64 r230.2)] [0, 1, 2, 3, 4] [box b10 [.int .i64 x_205, .int .i64 x_206, .int .i64 x_207, .bool x_208, v223, v224, .int .i64 x238.a0_.Site, .int .i64 x238.a0_.Version, .int .i64 x238.a0_.Serial, .int .i64 x238.a1_.Site, .int .i64 x238.a1_.Version, .int .i64 x238.a1_.Serial, .int .i64 x238.a2_.Site, .int .i64 x238.a2_.Version, .int .i64 x238.a2_.Serial, .int .i64 x238.a3_.Site, .int .i64 x238.a3_.Version, .int .i64 x238.a3_.Serial, v38, v39, .bool x_35], nro v223 NC_L_int_35 x_209, row v224 4 (x_210.map S_api_Order.enc), ro v38 3 (x_33.map S_api_Node.enc), ro v39 3 (x_34.map S_api_Node.enc)] (qv6 rfl rfl rfl rfl rfl rfl) (by decide) rfl ?_
         obtain ⟨hi239, h⟩ := need_some h
         obtain ⟨x240, hxx240, h⟩ := obind_some h
         obtain ⟨r241, hr242, h⟩ := obind_some h
         refine run_drawany [box b10 [.int .i64 x_205, .int .i64 x_206, .int .i64 x_207, .bool x_208, v223, v224, .int .i64 x238.a0_.Site, .int .i64 x238.a0_.Version, .int .i64 x238.a0_.Serial, .int .i64 x238.a1_.Site, .int .i64 x238.a1_.Version, .int .i64 x238.a1_.Serial, .int .i64 x238.a2_.Site, .int .i64 x238.a2_.Version, .int .i64 x238.a2_.Serial, .int .i64 x238.a3_.Site, .int .i64 x238.a3_.Version, .int .i64 x238.a3_.Serial, v38, v39, .bool x_35], nro v223 NC_L_int_35 x_209, HA.emp, ro v38 3 (x_33.map S_api_Node.enc), ro v39 3 (x_34.map S_api_Node.enc)] (by kernel_rfl) ?_
         refine any_y 0 rfl (by kernel_rfl) (by kernel_rfl) (by kernel_rfl) (ss (ss (se (ss (ss (sn)))))) (wn rfl) rfl (y_fieldAddr_box (sz := 5) Try.runUnderlying65 rfl Try.sizeOf59 rfl) ?_
         refine any_y 1 rfl (by kernel_rfl) (by kernel_rfl) (by kernel_rfl) (ss (ss (se (ss (ss (sn)))))) (wn rfl) rfl (y_load_boxagg (c := [.int .i64 x_205, .int .i64 x_206, .int .i64 x_207, .bool x_208, v223, v224]) 0 Try.isAgg59 Try.sizeOf59 rfl rfl rfl) ?_
         refine any_y 2 rfl (by kernel_rfl) (by kernel_rfl) (by kernel_rfl) (ss (ss (se (ss (ss (sn)))))) (wn rfl) rfl (y_move rfl) ?_
         refine any_y 3 rfl (by kernel_rfl) (by kernel_rfl) (by kernel_rfl) (ss (ss (se (ss (ss (sn)))))) (wn rfl) rfl (y_move rfl) ?_
         refine any_y 4 rfl (by kernel_rfl) (by kernel_rfl) (by kernel_rfl) (ss (ss (se (ss (ss (sn)))))) (wn rfl) rfl (y_fieldAddr_box (sz := 11) Try.runUnderlying65 rfl Try.sizeOf62 rfl) ?_
         refine any_y 5 rfl (by kernel_rfl) (by kernel_rfl) (by kernel_rfl) (ss (ss (se (ss (ss (sn)))))) (wn rfl) rfl (y_indexAddr_boxI (i := i_204) Try.runUnderlying62 Try.sizeOf61 rfl rfl hi239) ?_
         refine any_y 6 rfl (by kernel_rfl) (by kernel_rfl) (by kernel_rfl) (ss (ss (se (ss (ss (sn)))))) (wn rfl) rfl (y_fieldAddr_box (sz := 0) Try.runUnderlying61 rfl Try.sizeOf3 rfl) ?_
         refine any_y 7 rfl (by kernel_rfl) (by kernel_rfl) (by kernel_rfl) (ss (ss (se (ss (ss (sn)))))) (wn rfl) rfl (y_load_box 0 Try.isAgg3 rfl rfl (arr_get (F := S_api_Node.enc) (es := 3) (j := 2) (fun x => (S_api_Node.enc_ok x).1) (S_4_api_Node.get_at (p := x238) hi239 hxx240) rfl [.int .i64 x_205, .int .i64 x_206, .int .i64 x_207, .bool x_208, v223, v224] [v38, v39, .bool x_35])) ?_
         refine any_cut2 #[true, true, true, true, true, true, true, true, true, true, true, true, true, true, true] 0 (Nat × Value × Value) (fun σ => [(2, .bool back_2), (7, boxP b10 0), (9, .int .i64 want_97), (12, .int .i64 k_130), (13, .int .i64 i_204), (15, .int .i64 r230.2), (16, boxP σ.1 0), (17, .int .i64 r241.2)]) (fun σ => [box b10 [.int .i64 x_205, .int .i64 x_206, .int .i64 x_207, .bool x_208, v223, v224, .int .i64 x238.a0_.Site, .int .i64 x238.a0_.Version, .int .i64 x238.a0_.Serial, .int .i64 x238.a1_.Site, .int .i64 x238.a1_.Version, .int .i64 x238.a1_.Serial, .int .i64 x238.a2_.Site, .int .i64 x238.a2_.Version, .int .i64 x238.a2_.Serial, .int .i64 x238.a3_.Site, .int .i64 x238.a3_.Version, .int .i64 x238.a3_.Serial, v38, v39, .bool x_35], nro v223 NC_L_int_35 x_209, ro v224 4 (x_210.map S_api_Order.enc), ro v38 3 (x_33.map S_api_Node.enc), ro v39 3 (x_34.map S_api_Node.enc), nro σ.2.1 NC_L_int_35 r241.1.Stages, row σ.2.2 4 (r241.1.Orders.map S_api_Order.enc), box σ.1 [.int .i64 r241.1.Base, .int .i64 r241.1.Done, .int .i64 r241.1.Serial, .bool r241.1.Stopped, σ.2.1, σ.2.2]]) ?_ (fun hK254 => ?_)
         ·rintro ⟨b251, v248, v249⟩
          change AnyL _ _ _ _ _ (VF.of [(2, .bool back_2), (7, boxP b10 0), (9, .int .i64 want_97), (12, .int .i64 k_130), (13, .int .i64 i_204), (15, .int .i64 r230.2), (16, boxP b251 0), (17, .int .i64 r241.2)]) [box b10 [.int .i64 x_205, .int .i64 x_206, .int .i64 x_207, .bool x_208, v223, v224, .int .i64 x238.a0_.Site, .int .i64 x238.a0_.Version, .int .i64 x238.a0_.Serial, .int .i64 x238.a1_.Site, .int .i64 x238.a1_.Version, .int .i64 x238.a1_.Serial, .int .i64 x238.a2_.Site, .int .i64 x238.a2_.Version, .int .i64 x238.a2_.Serial, .int .i64 x238.a3_.Site, .int .i64 x238.a3_.Version, .int .i64 x238.a3_.Serial, v38, v39, .bool x_35], nro v223 NC_L_int_35 x_209, ro v224 4 (x_210.map S_api_Order.enc), ro v38 3 (x_33.map S_api_Node.enc), ro v39 3 (x_34.map S_api_Node.enc), nro v248 NC_L_int_35 r241.1.Stages, row v249 4 (r241.1.Orders.map S_api_Order.enc), box b251 [.int .i64 r241.1.Base, .int .i64 r241.1.Done, .int .i64 r241.1.Serial, .bool r241.1.Stopped, v248, v249]] _
          refine any_nil (by kernel_rfl) ?_
          refine goes_code ?_
          refine run_seq ?_
          refine run_seq ?_
          refine run_region' ?_
          refine oy rfl rfl (y_move rfl) ?_
          refine oy rfl rfl (y_neq rfl rfl) ?_
          refine oy rfl rfl (y_move rfl) ?_
          refine ops_cut 3 (Bool) (fun σ => [(2, .bool back_2), (7, boxP b10 0), (9, .int .i64 want_97), (12, .int .i64 k_130), (13, .int .i64 i_204), (16, boxP b251 0), (111, .bool σ)]) (fun σ => [box b10 [.int .i64 x_205, .int .i64 x_206, .int .i64 x_207, .bool x_208, v223, v224, .int .i64 x238.a0_.Site, .int .i64 x238.a0_.Version, .int .i64 x238.a0_.Serial, .int .i64 x238.a1_.Site, .int .i64 x238.a1_.Version, .int .i64 x238.a1_.Serial, .int .i64 x238.a2_.Site, .int .i64 x238.a2_.Version, .int .i64 x238.a2_.Serial, .int .i64 x238.a3_.Site, .int .i64 x238.a3_.Version, .int .i64 x238.a3_.Serial, v38, v39, .bool x_35], nro v223 NC_L_int_35 x_209, ro v224 4 (x_210.map S_api_Order.enc), ro v38 3 (x_33.map S_api_Node.enc), ro v39 3 (x_34.map S_api_Node.enc), nro v248 NC_L_int_35 r241.1.Stages, row v249 4 (r241.1.Orders.map S_api_Order.enc), box b251 [.int .i64 r241.1.Base, .int .i64 r241.1.Done, .int .i64 r241.1.Serial, .bool r241.1.Stopped, v248, v249]]) (fun σ => σ = (decide (r230.2 ≠ 0) || decide (r241.2 ≠ 0))) (fun L255 hL256 => ?_) ?_
          ·refine ops_split 108 (decide (r230.2 ≠ 0)) rfl (fun hg257 => ?_) (fun hg257 => ?_)
           ·skip
            refine ops_no 2 false 108 rfl rfl rfl rfl rfl ?_
            refine ops_no 2 false 108 rfl rfl rfl rfl rfl ?_
            refine oy rfl rfl (y_pick (b := true) rfl rfl) ?_
            refine ops_nil ?_
            exact goes_cut hL256 true [0, 1, 2, 3, 4, 5, 6, 7] (qv7 rfl rfl rfl rfl rfl rfl rfl) (by decide) rfl (by rw [hg257]; simp)
           ·skip
            refine ops_y (wg 2 false 108 rfl rfl rfl rfl) rfl (y_move rfl) ?_
            refine ops_y (wg 2 false 108 rfl rfl rfl rfl) rfl (y_neq rfl rfl) ?_
            refine oy rfl rfl (y_pick (b := false) rfl rfl) ?_
            refine ops_nil ?_
            exact goes_cut hL256 (decide (r241.2 ≠ 0)) [0, 1, 2, 3, 4, 5, 6, 7] (qv7 rfl rfl rfl rfl rfl rfl rfl) (by decide) rfl (by rw [hg257]; simp)
          rintro _ rfl
          refine ops_nil ?_
          refine goes_code ?_
          refine run_cond (decide (r230.2 ≠ 0) || decide (r241.2 ≠ 0)) rfl (fun hc258 => ?_) (fun hc258 => ?_)
          ·replace h := cond_t h hc258
           refine run_seq ?_
           refine run_region' ?_
           refine oy rfl rfl (y_assign rfl) ?_
           refine ops_nil ?_
           refine goes_code ?_
           refine run_ret ?_
           obtain rfl := some_eq h
           obtain rfl := hstop227 _ rfl
           skip
           obtain rfl := after_stop ho201
           skip
           obtain rfl := after_stop ho177
           skip
           obtain rfl := hstop153 _ rfl
           skip
           obtain rfl := after_stop ho127
           refine fin_slots [6] [.bool false] [] [] Try.results6 rfl (by decide) rfl ?_
           exact ⟨rfl, rfl⟩
          ·replace h := cond_f h hc258
           refine run_skip ?_
           refine goes_code ?_
           refine run_region' ?_
           refine oy rfl rfl (y_load_boxagg (c := [.int .i64 r241.1.Base, .int .i64 r241.1.Done, .int .i64 r241.1.Serial, .bool r241.1.Stopped, v248, v249]) 7 Try.isAgg59 Try.sizeOf59 rfl rfl rfl) ?_
           refine oy rfl rfl (y_fieldAddr_box (sz := 5) Try.runUnderlying65 rfl Try.sizeOf59 rfl) ?_
           refine ops_slcN 5 rfl readsN_ro (fun hs259 hs259o => ?_)
           refine ops_slc 6 rfl reads_row (fun hs260 hs260o => ?_)
           refine ot rfl rfl (t_store 0 Try.sizeOf59 rfl rfl rfl rfl (by simp [Value.cells, boxP]) (allL_cons rfl (allL_cons rfl (allL_cons rfl (allL_cons rfl (allL_cons hs259o (allL_cons hs260o (allL_nil)))))))) ?_
           rintro _ _ ⟨rfl, rfl⟩
           refine ops_turn (retell 0 (g := box b10 [.int .i64 r241.1.Base, .int .i64 r241.1.Done, .int .i64 r241.1.Serial, .bool r241.1.Stopped, v248, v249, .int .i64 x238.a0_.Site, .int .i64 x238.a0_.Version, .int .i64 x238.a0_.Serial, .int .i64 x238.a1_.Site, .int .i64 x238.a1_.Version, .int .i64 x238.a1_.Serial, .int .i64 x238.a2_.Site, .int .i64 x238.a2_.Version, .int .i64 x238.a2_.Serial, .int .i64 x238.a3_.Site, .int .i64 x238.a3_.Version, .int .i64 x238.a3_.Serial, v38, v39, .bool x_35]) rfl (by kernel_rfl)) ?_
           refine ops_nil ?_
           refine goes_blk ?_
           refine goes_code ?_
           refine run_region' ?_
           refine oy rfl rfl (y_move rfl) ?_
           refine oy rfl rfl (y_add rfl rfl) ?_
           refine oy rfl rfl (y_assign rfl) ?_
           refine ops_nil ?_
           obtain rfl := some_eq h
           exact goes_iter hgo226 ((IntKind.i64.wrap (i_204 + 1)), r241.1.Base, r241.1.Done, r241.1.Serial, r241.1.Stopped, r241.1.Stages, r241.1.Orders, x238.a0_.Site, x238.a0_.Version, x238.a0_.Serial, x238.a1_.Site, x238.a1_.Version, x238.a1_.Serial, x238.a2_.Site, x238.a2_.Version, x238.a2_.Serial, x238.a3_.Site, x238.a3_.Version, x238.a3_.Serial) (v248, v249) [0, 5, 6, 3, 4] rfl (qv5 rfl rfl rfl rfl rfl) (by decide) rfl
         refine any_cut2 #[true, true, true, true, true, true, true, true, true, true, true, true, true, false, false] 2 (Value × Value × Nat) (fun σ => [(2, .bool back_2), (7, boxP b10 0), (9, .int .i64 want_97), (12, .int .i64 k_130), (13, .int .i64 i_204), (15, .int .i64 r230.2), (104, .agg #[.int .i64 r241.1.Base, .int .i64 r241.1.Done, .int .i64 r241.1.Serial, .bool r241.1.Stopped, σ.1, σ.2.1]), (105, .int .i64 r241.2), (16, boxP σ.2.2 0)]) (fun σ => [box b10 [.int .i64 x_205, .int .i64 x_206, .int .i64 x_207, .bool x_208, v223, v224, .int .i64 x238.a0_.Site, .int .i64 x238.a0_.Version, .int .i64 x238.a0_.Serial, .int .i64 x238.a1_.Site, .int .i64 x238.a1_.Version, .int .i64 x238.a1_.Serial, .int .i64 x238.a2_.Site, .int .i64 x238.a2_.Version, .int .i64 x238.a2_.Serial, .int .i64 x238.a3_.Site, .int .i64 x238.a3_.Version, .int .i64 x238.a3_.Serial, v38, v39, .bool x_35], nro v223 NC_L_int_35 x_209, ro v224 4 (x_210.map S_api_Order.enc), ro v38 3 (x_33.map S_api_Node.enc), ro v39 3 (x_34.map S_api_Node.enc), nro σ.1 NC_L_int_35 r241.1.Stages, row σ.2.1 4 (r241.1.Orders.map S_api_Order.enc), box σ.2.2 [.int .i64 0, .int .i64 0, .int .i64 0, .bool false, .slice none 0 0, .slice none 0 0]]) ?_ (fun hK261 => ?_)
         ·rintro ⟨v248, v249, b251⟩
          change AnyL _ _ _ _ _ (VF.of [(2, .bool back_2), (7, boxP b10 0), (9, .int .i64 want_97), (12, .int .i64 k_130), (13, .int .i64 i_204), (15, .int .i64 r230.2), (104, .agg #[.int .i64 r241.1.Base, .int .i64 r241.1.Done, .int .i64 r241.1.Serial, .bool r241.1.Stopped, v248, v249]), (105, .int .i64 r241.2), (16, boxP b251 0)]) [box b10 [.int .i64 x_205, .int .i64 x_206, .int .i64 x_207, .bool x_208, v223, v224, .int .i64 x238.a0_.Site, .int .i64 x238.a0_.Version, .int .i64 x238.a0_.Serial, .int .i64 x238.a1_.Site, .int .i64 x238.a1_.Version, .int .i64 x238.a1_.Serial, .int .i64 x238.a2_.Site, .int .i64 x238.a2_.Version, .int .i64 x238.a2_.Serial, .int .i64 x238.a3_.Site, .int .i64 x238.a3_.Version, .int .i64 x238.a3_.Serial, v38, v39, .bool x_35], nro v223 NC_L_int_35 x_209, ro v224 4 (x_210.map S_api_Order.enc), ro v38 3 (x_33.map S_api_Node.enc), ro v39 3 (x_34.map S_api_Node.enc), nro v248 NC_L_int_35 r241.1.Stages, row v249 4 (r241.1.Orders.map S_api_Order.enc), box b251 [.int .i64 0, .int .i64 0, .int .i64 0, .bool false, .slice none 0 0, .slice none 0 0]] _
          refine any_all [13] (by kernel_rfl) rfl ?_
          refine anyo_cons ?_ ?_
          ·
           refine anyo_slcN 5 rfl readsN_ro (fun hs262 hs262o => ?_)
           refine anyo_slc 6 rfl reads_row (fun hs263 hs263o => ?_)
           refine any_t rfl (wn rfl) rfl (t_store 7 Try.sizeOf59 rfl rfl rfl rfl (by simp [Value.cells, boxP]) (allL_cons rfl (allL_cons rfl (allL_cons rfl (allL_cons rfl (allL_cons hs262o (allL_cons hs263o (allL_nil)))))))) ?_
           rintro _ _ ⟨rfl, rfl⟩
           refine ⟨(ss (ss (se (ss (ss (sn)))))), ?_⟩
           refine any_turn (retell 7 (g := box b251 [.int .i64 r241.1.Base, .int .i64 r241.1.Done, .int .i64 r241.1.Serial, .bool r241.1.Stopped, v248, v249]) rfl rfl) ?_
           refine any_y 14 rfl (by kernel_rfl) (by kernel_rfl) (by kernel_rfl) (ss (ss (se (ss (ss (sn)))))) (wn rfl) rfl (y_assign rfl) ?_
           exact any_weak2 (hK254 (b251, v248, v249)) [0, 1, 2, 3, 4, 5, 6, 7] (by kernel_rfl) (qv8 rfl rfl rfl rfl rfl rfl rfl rfl) (by decide) rfl
          exact anyo_nil
         refine any_cut2 #[true, true, true, true, true, true, true, true, true, true, true, true, false, false, false] 3 (Value × Value) (fun σ => [(2, .bool back_2), (7, boxP b10 0), (9, .int .i64 want_97), (12, .int .i64 k_130), (13, .int .i64 i_204), (15, .int .i64 r230.2), (104, .agg #[.int .i64 r241.1.Base, .int .i64 r241.1.Done, .int .i64 r241.1.Serial, .bool r241.1.Stopped, σ.1, σ.2]), (105, .int .i64 r241.2)]) (fun σ => [box b10 [.int .i64 x_205, .int .i64 x_206, .int .i64 x_207, .bool x_208, v223, v224, .int .i64 x238.a0_.Site, .int .i64 x238.a0_.Version, .int .i64 x238.a0_.Serial, .int .i64 x238.a1_.Site, .int .i64 x238.a1_.Version, .int .i64 x238.a1_.Serial, .int .i64 x238.a2_.Site, .int .i64 x238.a2_.Version, .int .i64 x238.a2_.Serial, .int .i64 x238.a3_.Site, .int .i64 x238.a3_.Version, .int .i64 x238.a3_.Serial, v38, v39, .bool x_35], nro v223 NC_L_int_35 x_209, ro v224 4 (x_210.map S_api_Order.enc), ro v38 3 (x_33.map S_api_Node.enc), ro v39 3 (x_34.map S_api_Node.enc), nro σ.1 NC_L_int_35 r241.1.Stages, row σ.2 4 (r241.1.Orders.map S_api_Order.enc)]) ?_ (fun hK264 => ?_)
         ·rintro ⟨v248, v249⟩
          change AnyL _ _ _ _ _ (VF.of [(2, .bool back_2), (7, boxP b10 0), (9, .int .i64 want_97), (12, .int .i64 k_130), (13, .int .i64 i_204), (15, .int .i64 r230.2), (104, .agg #[.int .i64 r241.1.Base, .int .i64 r241.1.Done, .int .i64 r241.1.Serial, .bool r241.1.Stopped, v248, v249]), (105, .int .i64 r241.2)]) [box b10 [.int .i64 x_205, .int .i64 x_206, .int .i64 x_207, .bool x_208, v223, v224, .int .i64 x238.a0_.Site, .int .i64 x238.a0_.Version, .int .i64 x238.a0_.Serial, .int .i64 x238.a1_.Site, .int .i64 x238.a1_.Version, .int .i64 x238.a1_.Serial, .int .i64 x238.a2_.Site, .int .i64 x238.a2_.Version, .int .i64 x238.a2_.Serial, .int .i64 x238.a3_.Site, .int .i64 x238.a3_.Version, .int .i64 x238.a3_.Serial, v38, v39, .bool x_35], nro v223 NC_L_int_35 x_209, ro v224 4 (x_210.map S_api_Order.enc), ro v38 3 (x_33.map S_api_Node.enc), ro v39 3 (x_34.map S_api_Node.enc), nro v248 NC_L_int_35 r241.1.Stages, row v249 4 (r241.1.Orders.map S_api_Order.enc)] _
          refine any_all [12] (by kernel_rfl) rfl ?_
          refine anyo_cons ?_ ?_
          ·
           refine any_t rfl (wn rfl) rfl (t_alloc Try.zeroValue59) ?_
           rintro _ _ ⟨b265, rfl, rfl⟩
           refine ⟨(ss (ss (se (ss (ss (sn)))))), ?_⟩
           exact any_weak2 (hK261 (v248, v249, b265)) [0, 1, 2, 3, 4, 5, 6, 7] (by kernel_rfl) (qv9 rfl rfl rfl rfl rfl rfl rfl rfl rfl) (by decide) rfl
          exact anyo_nil
         refine any_cut2 #[true, true, true, true, true, true, true, true, false, false, false, false, true, false, false] 6 (Nat) (fun σ => [(2, .bool back_2), (7, boxP b10 0), (9, .int .i64 want_97), (12, .int .i64 k_130), (13, .int .i64 i_204), (15, .int .i64 r230.2), (96, .agg #[.int .i64 x_205, .int .i64 x_206, .int .i64 x_207, .bool x_208, v223, v224]), (97, .int .i64 i_204), (102, .int .i64 x240.Serial), (16, boxP σ 0)]) (fun σ => [box b10 [.int .i64 x_205, .int .i64 x_206, .int .i64 x_207, .bool x_208, v223, v224, .int .i64 x238.a0_.Site, .int .i64 x238.a0_.Version, .int .i64 x238.a0_.Serial, .int .i64 x238.a1_.Site, .int .i64 x238.a1_.Version, .int .i64 x238.a1_.Serial, .int .i64 x238.a2_.Site, .int .i64 x238.a2_.Version, .int .i64 x238.a2_.Serial, .int .i64 x238.a3_.Site, .int .i64 x238.a3_.Version, .int .i64 x238.a3_.Serial, v38, v39, .bool x_35], nro v223 NC_L_int_35 x_209, row v224 4 (x_210.map S_api_Order.enc), ro v38 3 (x_33.map S_api_Node.enc), ro v39 3 (x_34.map S_api_Node.enc), box σ [.int .i64 0, .int .i64 0, .int .i64 0, .bool false, .slice none 0 0, .slice none 0 0]]) ?_ (fun hK266 => ?_)
         ·rintro b250
          change AnyL _ _ _ _ _ (VF.of [(2, .bool back_2), (7, boxP b10 0), (9, .int .i64 want_97), (12, .int .i64 k_130), (13, .int .i64 i_204), (15, .int .i64 r230.2), (96, .agg #[.int .i64 x_205, .int .i64 x_206, .int .i64 x_207, .bool x_208, v223, v224]), (97, .int .i64 i_204), (102, .int .i64 x240.Serial), (16, boxP b250 0)]) [box b10 [.int .i64 x_205, .int .i64 x_206, .int .i64 x_207, .bool x_208, v223, v224, .int .i64 x238.a0_.Site, .int .i64 x238.a0_.Version, .int .i64 x238.a0_.Serial, .int .i64 x238.a1_.Site, .int .i64 x238.a1_.Version, .int .i64 x238.a1_.Serial, .int .i64 x238.a2_.Site, .int .i64 x238.a2_.Version, .int .i64 x238.a2_.Serial, .int .i64 x238.a3_.Site, .int .i64 x238.a3_.Version, .int .i64 x238.a3_.Serial, v38, v39, .bool x_35], nro v223 NC_L_int_35 x_209, row v224 4 (x_210.map S_api_Order.enc), ro v38 3 (x_33.map S_api_Node.enc), ro v39 3 (x_34.map S_api_Node.enc), box b250 [.int .i64 0, .int .i64 0, .int .i64 0, .bool false, .slice none 0 0, .slice none 0 0]] _
          refine any_all [8] (by kernel_rfl) rfl ?_
          refine anyo_cons ?_ ?_
          ·
           refine anyo_turn (Go.Abs.freeze 2 rfl) ?_
           refine any_t rfl (wn rfl) rfl (t_callx (vs := [.agg #[.int .i64 x_205, .int .i64 x_206, .int .i64 x_207, .bool x_208, v223, v224], .int .i64 i_204, .int .i64 x240.Serial]) (cs := []) [(1, 0), (2, 0)] rfl Try.call27 rfl (topo_Confirm_ok n (S_api_Fleet.mk x_205 x_206 x_207 x_208 x_209 x_210) i_204 x240.Serial v223 v224 hr242) (showsX_view 1 rfl views_nro (showsX_view 2 rfl views_ro showsX_nil)) rfl (.inl rfl)) ?_
           rintro _ _ ⟨_, ⟨v267, v268, rfl, rfl⟩, rfl⟩
           refine ⟨(ss (ss (se (ss (ss (sn)))))), ?_⟩
           refine any_y 9 rfl (by kernel_rfl) (by kernel_rfl) (by kernel_rfl) (ss (ss (se (ss (ss (sn)))))) (wn rfl) rfl (y_move rfl) ?_
           refine any_y 10 rfl (by kernel_rfl) (by kernel_rfl) (by kernel_rfl) (ss (ss (se (ss (ss (sn)))))) (wn rfl) rfl (y_extract rfl rfl) ?_
           refine any_y 11 rfl (by kernel_rfl) (by kernel_rfl) (by kernel_rfl) (ss (ss (se (ss (ss (sn)))))) (wn rfl) rfl (y_extract rfl rfl) ?_
           exact any_weak2 (hK261 (v267, v268, b250)) [0, 1, 2, 3, 4, 6, 7, 5] (by kernel_rfl) (qv9 rfl rfl rfl rfl rfl rfl rfl rfl rfl) (by decide) rfl
          exact anyo_nil
         refine any_all [8, 12] (by kernel_rfl) rfl ?_
         refine anyo_cons ?_ ?_
         ·
          refine anyo_turn (Go.Abs.freeze 2 rfl) ?_
          refine any_t rfl (wn rfl) rfl (t_callx (vs := [.agg #[.int .i64 x_205, .int .i64 x_206, .int .i64 x_207, .bool x_208, v223, v224], .int .i64 i_204, .int .i64 x240.Serial]) (cs := []) [(1, 0), (2, 0)] rfl Try.call27 rfl (topo_Confirm_ok n (S_api_Fleet.mk x_205 x_206 x_207 x_208 x_209 x_210) i_204 x240.Serial v223 v224 hr242) (showsX_view 1 rfl views_nro (showsX_view 2 rfl views_ro showsX_nil)) rfl (.inl rfl)) ?_
          rintro _ _ ⟨_, ⟨v269, v270, rfl, rfl⟩, rfl⟩
          refine ⟨(ss (ss (se (ss (ss (sn)))))), ?_⟩
          refine any_y 9 rfl (by kernel_rfl) (by kernel_rfl) (by kernel_rfl) (ss (ss (se (ss (ss (sn)))))) (wn rfl) rfl (y_move rfl) ?_
          refine any_y 10 rfl (by kernel_rfl) (by kernel_rfl) (by kernel_rfl) (ss (ss (se (ss (ss (sn)))))) (wn rfl) rfl (y_extract rfl rfl) ?_
          refine any_y 11 rfl (by kernel_rfl) (by kernel_rfl) (by kernel_rfl) (ss (ss (se (ss (ss (sn)))))) (wn rfl) rfl (y_extract rfl rfl) ?_
          exact any_weak2 (hK264 (v269, v270)) [0, 1, 2, 3, 4, 5, 6] (by kernel_rfl) (qv8 rfl rfl rfl rfl rfl rfl rfl rfl) (by decide) rfl
         refine anyo_cons ?_ ?_
         ·
          refine any_t rfl (wn rfl) rfl (t_alloc Try.zeroValue59) ?_
          rintro _ _ ⟨b271, rfl, rfl⟩
          refine ⟨(ss (ss (se (ss (ss (sn)))))), ?_⟩
          exact any_weak2 (hK266 b271) [0, 1, 2, 3, 4, 5] (by kernel_rfl) (qv10 rfl rfl rfl rfl rfl rfl rfl rfl rfl rfl) (by decide) rfl
         exact anyo_nil
        ·replace h := cond_f h hc229
         refine run_exit _ rfl ?_
         obtain rfl := some_eq h
         obtain rfl := hstop227 _ rfl
         exact goes_cut hL202 ((x_205, x_206, x_207, x_208, x_209, x_210, x_211, x_212, x_213, x_214, x_215, x_216, x_217, x_218, x_219, x_220, x_221, x_222), (v223, v224)) [0, 1, 2, 3, 4] (qv4 rfl rfl rfl rfl) (by decide) rfl rfl
       rintro ⟨⟨x_180, x_181, x_182, x_183, x_184, x_185, x_186, x_187, x_188, x_189, x_190, x_191, x_192, x_193, x_194, x_195, x_196, x_197⟩, ⟨v198, v199⟩⟩ hj
       obtain rfl : o200 = _ := hj
       replace h := after_go ho201
       clear ho201
       change Run _ _ _ (VF.of [(2, .bool back_2), (7, boxP b10 0), (9, .int .i64 want_97), (12, .int .i64 k_130)]) [box b10 [.int .i64 x_180, .int .i64 x_181, .int .i64 x_182, .bool x_183, v198, v199, .int .i64 x_186, .int .i64 x_187, .int .i64 x_188, .int .i64 x_189, .int .i64 x_190, .int .i64 x_191, .int .i64 x_192, .int .i64 x_193, .int .i64 x_194, .int .i64 x_195, .int .i64 x_196, .int .i64 x_197, v38, v39, .bool x_35], nro v198 NC_L_int_35 x_184, row v199 4 (x_185.map S_api_Order.enc), ro v38 3 (x_33.map S_api_Node.enc), ro v39 3 (x_34.map S_api_Node.enc)]
       refine run_seq ?_
       refine run_seq ?_
       refine run_region' ?_
       refine oy rfl rfl (y_fieldAddr_box (sz := 5) Try.runUnderlying65 rfl Try.sizeOf59 rfl) ?_
       refine oy rfl rfl (y_load_boxagg (c := [.int .i64 x_180, .int .i64 x_181, .int .i64 x_182, .bool x_183, v198, v199]) 0 Try.isAgg59 Try.sizeOf59 rfl rfl rfl) ?_
       obtain ⟨r272, hr273, h⟩ := obind_some h
       refine ot rfl rfl (t_callx (vs := [.agg #[.int .i64 x_180, .int .i64 x_181, .int .i64 x_182, .bool x_183, v198, v199]]) (cs := []) [(1, 0), (2, 1)] rfl Try.call28 rfl (topo_Settled_ok n (S_api_Fleet.mk x_180 x_181 x_182 x_183 x_184 x_185) v198 v199 hr273) (showsX_view 1 rfl views_nro (showsX_look 2 rfl views_row showsX_nil)) rfl (.inr (by rintro _ _ ⟨rfl, rfl⟩ g hg; first | (cases hg; done) | (simp only [List.mem_cons, List.not_mem_nil, or_false] at hg; first | (subst hg; first | exact strict_row | exact strict_box) | (rcases hg with rfl | rfl <;> first | exact strict_row | exact strict_box) | (rcases hg with rfl | rfl | rfl <;> first | exact strict_row | exact strict_box))))) ?_
       rintro _ _ ⟨_, ⟨rfl, rfl⟩, rfl⟩
       refine oy rfl rfl (y_not rfl) ?_
       refine ops_nil ?_
       refine goes_code ?_
       refine run_cond (!r272) rfl (fun hc274 => ?_) (fun hc274 => ?_)
       ·replace h := cond_t h hc274
        refine run_seq ?_
        refine run_region' ?_
        refine oy rfl rfl (y_assign rfl) ?_
        refine ops_nil ?_
        refine goes_code ?_
        refine run_ret ?_
        obtain rfl := some_eq h
        obtain rfl := after_stop ho177
        skip
        obtain rfl := hstop153 _ rfl
        skip
        obtain rfl := after_stop ho127
        refine fin_slots [6] [.bool false] [] [] Try.results6 rfl (by decide) rfl ?_
        exact ⟨rfl, rfl⟩
       ·replace h := cond_f h hc274
        refine run_skip ?_
        refine goes_code ?_
        obtain ⟨o283, h, ho284⟩ := bindJ_some h
        refine run_cut ((Int × Int × Int × Bool × (List (List Int)) × (List S_api_Order)) × (Value × Value)) (fun σ => [(2, .bool back_2), (7, boxP b10 0), (9, .int .i64 want_97), (12, .int .i64 k_130)]) (fun σ => [box b10 [.int .i64 σ.1.1, .int .i64 σ.1.2.1, .int .i64 σ.1.2.2.1, .bool σ.1.2.2.2.1, σ.2.1, σ.2.2, .int .i64 x_186, .int .i64 x_187, .int .i64 x_188, .int .i64 x_189, .int .i64 x_190, .int .i64 x_191, .int .i64 x_192, .int .i64 x_193, .int .i64 x_194, .int .i64 x_195, .int .i64 x_196, .int .i64 x_197, v38, v39, .bool x_35], nro σ.2.1 NC_L_int_35 σ.1.2.2.2.2.1, row σ.2.2 4 (σ.1.2.2.2.2.2.map S_api_Order.enc), ro v38 3 (x_33.map S_api_Node.enc), ro v39 3 (x_34.map S_api_Node.enc)]) (fun σ => o283 = .go σ.1) (fun L286 hL285 => ?_) ?_
        ·
         refine run_seq ?_
         refine run_region' ?_
         refine oy rfl rfl (y_move rfl) ?_
         refine oy rfl rfl (y_move rfl) ?_
         refine ops_cut 5 (Bool) (fun σ => [(2, .bool back_2), (7, boxP b10 0), (9, .int .i64 want_97), (12, .int .i64 k_130), (124, .bool σ)]) (fun σ => [box b10 [.int .i64 x_180, .int .i64 x_181, .int .i64 x_182, .bool x_183, v198, v199, .int .i64 x_186, .int .i64 x_187, .int .i64 x_188, .int .i64 x_189, .int .i64 x_190, .int .i64 x_191, .int .i64 x_192, .int .i64 x_193, .int .i64 x_194, .int .i64 x_195, .int .i64 x_196, .int .i64 x_197, v38, v39, .bool x_35], nro v198 NC_L_int_35 x_184, row v199 4 (x_185.map S_api_Order.enc), ro v38 3 (x_33.map S_api_Node.enc), ro v39 3 (x_34.map S_api_Node.enc)]) (fun σ => σ = (back_2 && decide (0 < x_181))) (fun L287 hL288 => ?_) ?_
         ·refine ops_split 119 back_2 rfl (fun hg289 => ?_) (fun hg289 => ?_)
          ·skip
           refine ops_y (wg 1 true 119 rfl rfl rfl rfl) rfl (y_fieldAddr_box (sz := 5) Try.runUnderlying65 rfl Try.sizeOf59 rfl) ?_
           refine ops_y (wg 1 true 119 rfl rfl rfl rfl) rfl (y_fieldAddr_box (sz := 0) Try.runUnderlying59 rfl Try.sizeOf3 rfl) ?_
           refine ops_y (wg 1 true 119 rfl rfl rfl rfl) rfl (y_load_box 0 Try.isAgg3 rfl rfl rfl) ?_
           refine ops_y (wg 1 true 119 rfl rfl rfl rfl) rfl (y_gtr rfl rfl) ?_
           refine oy rfl rfl (y_pick (b := true) rfl rfl) ?_
           refine ops_nil ?_
           exact goes_cut hL288 (decide (0 < x_181)) [0, 1, 2, 3, 4] (qv5 rfl rfl rfl rfl rfl) (by decide) rfl (by rw [hg289]; simp)
          ·skip
           refine ops_no 1 true 119 rfl rfl rfl rfl rfl ?_
           refine ops_no 1 true 119 rfl rfl rfl rfl rfl ?_
           refine ops_no 1 true 119 rfl rfl rfl rfl rfl ?_
           refine ops_no 1 true 119 rfl rfl rfl rfl rfl ?_
           refine oy rfl rfl (y_pick (b := false) rfl rfl) ?_
           refine ops_nil ?_
           exact goes_cut hL288 false [0, 1, 2, 3, 4] (qv5 rfl rfl rfl rfl rfl) (by decide) rfl (by rw [hg289]; simp)
         rintro _ rfl
         refine ops_nil ?_
         refine goes_code ?_
         refine run_cond (back_2 && decide (0 < x_181)) rfl (fun hc290 => ?_) (fun hc290 => ?_)
         ·replace h := cond_t h hc290
          refine run_seq ?_
          refine run_region' ?_
          refine oy rfl rfl (y_fieldAddr_box (sz := 5) Try.runUnderlying65 rfl Try.sizeOf59 rfl) ?_
          refine oy rfl rfl (y_load_boxagg (c := [.int .i64 x_180, .int .i64 x_181, .int .i64 x_182, .bool x_183, v198, v199]) 0 Try.isAgg59 Try.sizeOf59 rfl rfl rfl) ?_
          refine ops_turn (Go.Abs.freeze 2 rfl) ?_
          obtain ⟨r291, hr292, h⟩ := obind_some h
          refine ot rfl rfl (t_callx (vs := [.agg #[.int .i64 x_180, .int .i64 x_181, .int .i64 x_182, .bool x_183, v198, v199]]) (cs := []) [(1, 0), (2, 0)] rfl Try.call29 rfl (topo_Retreat_ok n (S_api_Fleet.mk x_180 x_181 x_182 x_183 x_184 x_185) v198 v199 hr292) (showsX_view 1 rfl views_nro (showsX_view 2 rfl views_ro showsX_nil)) rfl (.inl rfl)) ?_
          rintro _ _ ⟨_, ⟨v293, v294, rfl, rfl⟩, rfl⟩
          refine oy rfl rfl (y_move rfl) ?_
          refine oy rfl rfl (y_extract rfl rfl) ?_
          refine oy rfl rfl (y_extract rfl rfl) ?_
          refine ot rfl rfl (t_alloc Try.zeroValue59) ?_
          rintro _ _ ⟨b295, rfl, rfl⟩
          refine ops_slcN 5 rfl readsN_ro (fun hs296 hs296o => ?_)
          refine ops_slc 6 rfl reads_row (fun hs297 hs297o => ?_)
          refine ot rfl rfl (t_store 7 Try.sizeOf59 rfl rfl rfl rfl (by simp [Value.cells, boxP]) (allL_cons rfl (allL_cons rfl (allL_cons rfl (allL_cons rfl (allL_cons hs296o (allL_cons hs297o (allL_nil)))))))) ?_
          rintro _ _ ⟨rfl, rfl⟩
          refine ops_turn (retell 7 (g := box b295 [.int .i64 r291.1.Base, .int .i64 r291.1.Done, .int .i64 r291.1.Serial, .bool r291.1.Stopped, v293, v294]) rfl rfl) ?_
          refine oy rfl rfl (y_assign rfl) ?_
          refine ops_nil ?_
          refine goes_code ?_
          refine run_seq ?_
          refine run_seq ?_
          refine run_weak [(2, .bool back_2), (7, boxP b10 0), (9, .int .i64 want_97), (12, .int .i64 k_130), (18, boxP b295 0), (19, .int .i64 r291.2)] [0, 1, 2, 3, 4, 5, 6, 7] [box b10 [.int .i64 x_180, .int .i64 x_181, .int .i64 x_182, .bool x_183, v198, v199, .int .i64 x_186, .int .i64 x_187, .int .i64 x_188, .int .i64 x_189, .int .i64 x_190, .int .i64 x_191, .int .i64 x_192, .int .i64 x_193, .int .i64 x_194, .int .i64 x_195, .int .i64 x_196, .int .i64 x_197, v38, v39, .bool x_35], nro v198 NC_L_int_35 x_184, ro v199 4 (x_185.map S_api_Order.enc), ro v38 3 (x_33.map S_api_Node.enc), ro v39 3 (x_34.map S_api_Node.enc), nro v293 NC_L_int_35 r291.1.Stages, row v294 4 (r291.1.Orders.map S_api_Order.enc), box b295 [.int .i64 r291.1.Base, .int .i64 r291.1.Done, .int .i64 r291.1.Serial, .bool r291.1.Stopped, v293, v294]] (qv6 rfl rfl rfl rfl rfl rfl) (by decide) rfl ?_
          refine run_region' ?_
          refine oy rfl rfl (y_move rfl) ?_
          refine oy rfl rfl (y_neq rfl rfl) ?_
          refine ops_nil ?_
          refine goes_code ?_
          refine run_cond (decide (r291.2 ≠ 0)) rfl (fun hc298 => ?_) (fun hc298 => ?_)
          ·replace h := cond_t h hc298
           refine run_seq ?_
           refine run_region' ?_
           refine oy rfl rfl (y_assign rfl) ?_
           refine ops_nil ?_
           refine goes_code ?_
           refine run_ret ?_
           obtain rfl := some_eq h
           obtain rfl := after_stop ho284
           skip
           obtain rfl := after_stop ho177
           skip
           obtain rfl := hstop153 _ rfl
           skip
           obtain rfl := after_stop ho127
           refine fin_slots [6] [.bool false] [] [] Try.results6 rfl (by decide) rfl ?_
           exact ⟨rfl, rfl⟩
          ·replace h := cond_f h hc298
           refine run_skip ?_
           refine goes_code ?_
           refine run_region' ?_
           refine oy rfl rfl (y_load_boxagg (c := [.int .i64 r291.1.Base, .int .i64 r291.1.Done, .int .i64 r291.1.Serial, .bool r291.1.Stopped, v293, v294]) 7 Try.isAgg59 Try.sizeOf59 rfl rfl rfl) ?_
           refine oy rfl rfl (y_fieldAddr_box (sz := 5) Try.runUnderlying65 rfl Try.sizeOf59 rfl) ?_
           refine ops_slcN 5 rfl readsN_ro (fun hs299 hs299o => ?_)
           refine ops_slc 6 rfl reads_row (fun hs300 hs300o => ?_)
           refine ot rfl rfl (t_store 0 Try.sizeOf59 rfl rfl rfl rfl (by simp [Value.cells, boxP]) (allL_cons rfl (allL_cons rfl (allL_cons rfl (allL_cons rfl (allL_cons hs299o (allL_cons hs300o (allL_nil)))))))) ?_
           rintro _ _ ⟨rfl, rfl⟩
           refine ops_turn (retell 0 (g := box b10 [.int .i64 r291.1.Base, .int .i64 r291.1.Done, .int .i64 r291.1.Serial, .bool r291.1.Stopped, v293, v294, .int .i64 x_186, .int .i64 x_187, .int .i64 x_188, .int .i64 x_189, .int .i64 x_190, .int .i64 x_191, .int .i64 x_192, .int .i64 x_193, .int .i64 x_194, .int .i64 x_195, .int .i64 x_196, .int .i64 x_197, v38, v39, .bool x_35]) rfl (by kernel_rfl)) ?_
           refine ops_nil ?_
           obtain rfl := some_eq h
           exact goes_cut hL285 ((r291.1.Base, r291.1.Done, r291.1.Serial, r291.1.Stopped, r291.1.Stages, r291.1.Orders), (v293, v294)) [0, 5, 6, 3, 4] (qv4 rfl rfl rfl rfl) (by decide) rfl rfl
         ·replace h := cond_f h hc290
          refine run_skip ?_
          obtain rfl := some_eq h
          exact goes_cut hL285 ((x_180, x_181, x_182, x_183, x_184, x_185), (v198, v199)) [0, 1, 2, 3, 4] (qv4 rfl rfl rfl rfl) (by decide) rfl rfl
        rintro ⟨⟨x_275, x_276, x_277, x_278, x_279, x_280⟩, ⟨v281, v282⟩⟩ hj
        obtain rfl : o283 = _ := hj
        replace h := after_go ho284
        clear ho284
        change Run _ _ _ (VF.of [(2, .bool back_2), (7, boxP b10 0), (9, .int .i64 want_97), (12, .int .i64 k_130)]) [box b10 [.int .i64 x_275, .int .i64 x_276, .int .i64 x_277, .bool x_278, v281, v282, .int .i64 x_186, .int .i64 x_187, .int .i64 x_188, .int .i64 x_189, .int .i64 x_190, .int .i64 x_191, .int .i64 x_192, .int .i64 x_193, .int .i64 x_194, .int .i64 x_195, .int .i64 x_196, .int .i64 x_197, v38, v39, .bool x_35], nro v281 NC_L_int_35 x_279, row v282 4 (x_280.map S_api_Order.enc), ro v38 3 (x_33.map S_api_Node.enc), ro v39 3 (x_34.map S_api_Node.enc)]
        refine run_seq ?_
        refine run_region' ?_
        refine oy rfl rfl (y_move rfl) ?_
        refine oy rfl rfl (y_not rfl) ?_
        refine oy rfl rfl (y_move rfl) ?_
        refine ops_cut 9 (Bool) (fun σ => [(2, .bool back_2), (7, boxP b10 0), (9, .int .i64 want_97), (12, .int .i64 k_130), (146, .bool σ)]) (fun σ => [box b10 [.int .i64 x_275, .int .i64 x_276, .int .i64 x_277, .bool x_278, v281, v282, .int .i64 x_186, .int .i64 x_187, .int .i64 x_188, .int .i64 x_189, .int .i64 x_190, .int .i64 x_191, .int .i64 x_192, .int .i64 x_193, .int .i64 x_194, .int .i64 x_195, .int .i64 x_196, .int .i64 x_197, v38, v39, .bool x_35], nro v281 NC_L_int_35 x_279, row v282 4 (x_280.map S_api_Order.enc), ro v38 3 (x_33.map S_api_Node.enc), ro v39 3 (x_34.map S_api_Node.enc)]) (fun σ => σ = ((!back_2) && decide (x_276 < (x_279.length : Int)))) (fun L301 hL302 => ?_) ?_
        ·refine ops_split 137 (!back_2) rfl (fun hg303 => ?_) (fun hg303 => ?_)
         ·skip
          refine ops_y (wg 2 true 137 rfl rfl rfl rfl) rfl (y_fieldAddr_box (sz := 5) Try.runUnderlying65 rfl Try.sizeOf59 rfl) ?_
          refine ops_y (wg 2 true 137 rfl rfl rfl rfl) rfl (y_fieldAddr_box (sz := 0) Try.runUnderlying59 rfl Try.sizeOf3 rfl) ?_
          refine ops_y (wg 2 true 137 rfl rfl rfl rfl) rfl (y_load_box 0 Try.isAgg3 rfl rfl rfl) ?_
          refine ops_y (wg 2 true 137 rfl rfl rfl rfl) rfl (y_fieldAddr_box (sz := 5) Try.runUnderlying65 rfl Try.sizeOf59 rfl) ?_
          refine ops_y (wg 2 true 137 rfl rfl rfl rfl) rfl (y_fieldAddr_box (sz := 0) Try.runUnderlying59 rfl Try.sizeOf56 rfl) ?_
          refine ops_y (wg 2 true 137 rfl rfl rfl rfl) rfl (y_load_box 0 Try.isAgg56 rfl rfl rfl) ?_
          refine ops_y (wg 2 true 137 rfl rfl rfl rfl) rfl (y_lenN 1 rfl Try.runUnderlying56 rfl rfl readsN_ro) ?_
          refine ops_y (wg 2 true 137 rfl rfl rfl rfl) rfl (y_lss rfl rfl) ?_
          refine oy rfl rfl (y_pick (b := true) rfl rfl) ?_
          refine ops_nil ?_
          exact goes_cut hL302 (decide (x_276 < (x_279.length : Int))) [0, 1, 2, 3, 4] (qv5 rfl rfl rfl rfl rfl) (by decide) rfl (by rw [hg303]; simp)
         ·skip
          refine ops_no 2 true 137 rfl rfl rfl rfl rfl ?_
          refine ops_no 2 true 137 rfl rfl rfl rfl rfl ?_
          refine ops_no 2 true 137 rfl rfl rfl rfl rfl ?_
          refine ops_no 2 true 137 rfl rfl rfl rfl rfl ?_
          refine ops_no 2 true 137 rfl rfl rfl rfl rfl ?_
          refine ops_no 2 true 137 rfl rfl rfl rfl rfl ?_
          refine ops_no 2 true 137 rfl rfl rfl rfl rfl ?_
          refine ops_no 2 true 137 rfl rfl rfl rfl rfl ?_
          refine oy rfl rfl (y_pick (b := false) rfl rfl) ?_
          refine ops_nil ?_
          exact goes_cut hL302 false [0, 1, 2, 3, 4] (qv5 rfl rfl rfl rfl rfl) (by decide) rfl (by rw [hg303]; simp)
        rintro _ rfl
        refine ops_nil ?_
        refine goes_code ?_
        refine run_cond ((!back_2) && decide (x_276 < (x_279.length : Int))) rfl (fun hc304 => ?_) (fun hc304 => ?_)
        ·replace h := cond_t h hc304
         refine run_seq ?_
         refine run_region' ?_
         refine oy rfl rfl (y_fieldAddr_box (sz := 5) Try.runUnderlying65 rfl Try.sizeOf59 rfl) ?_
         refine oy rfl rfl (y_load_boxagg (c := [.int .i64 x_275, .int .i64 x_276, .int .i64 x_277, .bool x_278, v281, v282]) 0 Try.isAgg59 Try.sizeOf59 rfl rfl rfl) ?_
         refine ops_turn (Go.Abs.freeze 2 rfl) ?_
         obtain ⟨r305, hr306, h⟩ := obind_some h
         refine ot rfl rfl (t_callx (vs := [.agg #[.int .i64 x_275, .int .i64 x_276, .int .i64 x_277, .bool x_278, v281, v282]]) (cs := []) [(1, 0), (2, 0)] rfl Try.call30 rfl (topo_Forward_ok n (S_api_Fleet.mk x_275 x_276 x_277 x_278 x_279 x_280) v281 v282 hr306) (showsX_view 1 rfl views_nro (showsX_view 2 rfl views_ro showsX_nil)) rfl (.inl rfl)) ?_
         rintro _ _ ⟨_, ⟨v307, v308, rfl, rfl⟩, rfl⟩
         refine oy rfl rfl (y_move rfl) ?_
         refine oy rfl rfl (y_extract rfl rfl) ?_
         refine oy rfl rfl (y_extract rfl rfl) ?_
         refine ot rfl rfl (t_alloc Try.zeroValue59) ?_
         rintro _ _ ⟨b309, rfl, rfl⟩
         refine ops_slcN 5 rfl readsN_ro (fun hs310 hs310o => ?_)
         refine ops_slc 6 rfl reads_row (fun hs311 hs311o => ?_)
         refine ot rfl rfl (t_store 7 Try.sizeOf59 rfl rfl rfl rfl (by simp [Value.cells, boxP]) (allL_cons rfl (allL_cons rfl (allL_cons rfl (allL_cons rfl (allL_cons hs310o (allL_cons hs311o (allL_nil)))))))) ?_
         rintro _ _ ⟨rfl, rfl⟩
         refine ops_turn (retell 7 (g := box b309 [.int .i64 r305.1.Base, .int .i64 r305.1.Done, .int .i64 r305.1.Serial, .bool r305.1.Stopped, v307, v308]) rfl rfl) ?_
         refine oy rfl rfl (y_assign rfl) ?_
         refine ops_nil ?_
         refine goes_code ?_
         refine run_seq ?_
         refine run_seq ?_
         refine run_weak [(2, .bool back_2), (7, boxP b10 0), (9, .int .i64 want_97), (12, .int .i64 k_130), (20, boxP b309 0), (21, .int .i64 r305.2)] [0, 1, 2, 3, 4, 5, 6, 7] [box b10 [.int .i64 x_275, .int .i64 x_276, .int .i64 x_277, .bool x_278, v281, v282, .int .i64 x_186, .int .i64 x_187, .int .i64 x_188, .int .i64 x_189, .int .i64 x_190, .int .i64 x_191, .int .i64 x_192, .int .i64 x_193, .int .i64 x_194, .int .i64 x_195, .int .i64 x_196, .int .i64 x_197, v38, v39, .bool x_35], nro v281 NC_L_int_35 x_279, ro v282 4 (x_280.map S_api_Order.enc), ro v38 3 (x_33.map S_api_Node.enc), ro v39 3 (x_34.map S_api_Node.enc), nro v307 NC_L_int_35 r305.1.Stages, row v308 4 (r305.1.Orders.map S_api_Order.enc), box b309 [.int .i64 r305.1.Base, .int .i64 r305.1.Done, .int .i64 r305.1.Serial, .bool r305.1.Stopped, v307, v308]] (qv6 rfl rfl rfl rfl rfl rfl) (by decide) rfl ?_
         refine run_region' ?_
         refine oy rfl rfl (y_move rfl) ?_
         refine oy rfl rfl (y_neq rfl rfl) ?_
         refine ops_nil ?_
         refine goes_code ?_
         refine run_cond (decide (r305.2 ≠ 0)) rfl (fun hc312 => ?_) (fun hc312 => ?_)
         ·replace h := cond_t h hc312
          refine run_seq ?_
          refine run_region' ?_
          refine oy rfl rfl (y_assign rfl) ?_
          refine ops_nil ?_
          refine goes_code ?_
          refine run_ret ?_
          obtain rfl := some_eq h
          obtain rfl := after_stop ho177
          skip
          obtain rfl := hstop153 _ rfl
          skip
          obtain rfl := after_stop ho127
          refine fin_slots [6] [.bool false] [] [] Try.results6 rfl (by decide) rfl ?_
          exact ⟨rfl, rfl⟩
         ·replace h := cond_f h hc312
          refine run_skip ?_
          refine goes_code ?_
          refine run_region' ?_
          refine oy rfl rfl (y_load_boxagg (c := [.int .i64 r305.1.Base, .int .i64 r305.1.Done, .int .i64 r305.1.Serial, .bool r305.1.Stopped, v307, v308]) 7 Try.isAgg59 Try.sizeOf59 rfl rfl rfl) ?_
          refine oy rfl rfl (y_fieldAddr_box (sz := 5) Try.runUnderlying65 rfl Try.sizeOf59 rfl) ?_
          refine ops_slcN 5 rfl readsN_ro (fun hs313 hs313o => ?_)
          refine ops_slc 6 rfl reads_row (fun hs314 hs314o => ?_)
          refine ot rfl rfl (t_store 0 Try.sizeOf59 rfl rfl rfl rfl (by simp [Value.cells, boxP]) (allL_cons rfl (allL_cons rfl (allL_cons rfl (allL_cons rfl (allL_cons hs313o (allL_cons hs314o (allL_nil)))))))) ?_
          rintro _ _ ⟨rfl, rfl⟩
          refine ops_turn (retell 0 (g := box b10 [.int .i64 r305.1.Base, .int .i64 r305.1.Done, .int .i64 r305.1.Serial, .bool r305.1.Stopped, v307, v308, .int .i64 x_186, .int .i64 x_187, .int .i64 x_188, .int .i64 x_189, .int .i64 x_190, .int .i64 x_191, .int .i64 x_192, .int .i64 x_193, .int .i64 x_194, .int .i64 x_195, .int .i64 x_196, .int .i64 x_197, v38, v39, .bool x_35]) rfl (by kernel_rfl)) ?_
          refine ops_nil ?_
          refine goes_blk ?_
          obtain rfl := some_eq h
          exact goes_cut hL178 ((r305.1.Base, r305.1.Done, r305.1.Serial, r305.1.Stopped, r305.1.Stages, r305.1.Orders, x_186, x_187, x_188, x_189, x_190, x_191, x_192, x_193, x_194, x_195, x_196, x_197), (v307, v308)) [0, 5, 6, 3, 4] (qv4 rfl rfl rfl rfl) (by decide) rfl rfl
        ·replace h := cond_f h hc304
         refine run_skip ?_
         refine goes_blk ?_
         obtain rfl := some_eq h
         exact goes_cut hL178 ((x_275, x_276, x_277, x_278, x_279, x_280, x_186, x_187, x_188, x_189, x_190, x_191, x_192, x_193, x_194, x_195, x_196, x_197), (v281, v282)) [0, 1, 2, 3, 4] (qv4 rfl rfl rfl rfl) (by decide) rfl rfl
      rintro ⟨⟨x_156, x_157, x_158, x_159, x_160, x_161, x_162, x_163, x_164, x_165, x_166, x_167, x_168, x_169, x_170, x_171, x_172, x_173⟩, ⟨v174, v175⟩⟩ hj
      obtain rfl : o176 = _ := hj
      replace h := after_go ho177
      clear ho177
      change Run _ _ _ (VF.of [(2, .bool back_2), (7, boxP b10 0), (9, .int .i64 want_97), (12, .int .i64 k_130)]) [box b10 [.int .i64 x_156, .int .i64 x_157, .int .i64 x_158, .bool x_159, v174, v175, .int .i64 x_162, .int .i64 x_163, .int .i64 x_164, .int .i64 x_165, .int .i64 x_166, .int .i64 x_167, .int .i64 x_168, .int .i64 x_169, .int .i64 x_170, .int .i64 x_171, .int .i64 x_172, .int .i64 x_173, v38, v39, .bool x_35], nro v174 NC_L_int_35 x_160, row v175 4 (x_161.map S_api_Order.enc), ro v38 3 (x_33.map S_api_Node.enc), ro v39 3 (x_34.map S_api_Node.enc)]
      refine run_region' ?_
      refine oy rfl rfl (y_move rfl) ?_
      refine oy rfl rfl (y_add rfl rfl) ?_
      refine oy rfl rfl (y_assign rfl) ?_
      refine ops_nil ?_
      obtain rfl := some_eq h
      exact goes_iter hgo152 ((IntKind.i64.wrap (k_130 + 1)), x_156, x_157, x_158, x_159, x_160, x_161, x_162, x_163, x_164, x_165, x_166, x_167, x_168, x_169, x_170, x_171, x_172, x_173) (v174, v175) [0, 1, 2, 3, 4] rfl (qv4 rfl rfl rfl rfl) (by decide) rfl
     ·replace h := cond_f h hc155
      refine run_exit _ rfl ?_
      obtain rfl := some_eq h
      obtain rfl := hstop153 _ rfl
      exact goes_cut hL128 ((x_131, x_132, x_133, x_134, x_135, x_136, x_137, x_138, x_139, x_140, x_141, x_142, x_143, x_144, x_145, x_146, x_147, x_148), (v149, v150)) [0, 1, 2, 3, 4] (qv2 rfl rfl) (by decide) rfl rfl
    rintro ⟨⟨x_106, x_107, x_108, x_109, x_110, x_111, x_112, x_113, x_114, x_115, x_116, x_117, x_118, x_119, x_120, x_121, x_122, x_123⟩, ⟨v124, v125⟩⟩ hj
    obtain rfl : o126 = _ := hj
    replace h := after_go ho127
    clear ho127
    change Run _ _ _ (VF.of [(7, boxP b10 0), (9, .int .i64 want_97)]) [box b10 [.int .i64 x_106, .int .i64 x_107, .int .i64 x_108, .bool x_109, v124, v125, .int .i64 x_112, .int .i64 x_113, .int .i64 x_114, .int .i64 x_115, .int .i64 x_116, .int .i64 x_117, .int .i64 x_118, .int .i64 x_119, .int .i64 x_120, .int .i64 x_121, .int .i64 x_122, .int .i64 x_123, v38, v39, .bool x_35], nro v124 NC_L_int_35 x_110, row v125 4 (x_111.map S_api_Order.enc), ro v38 3 (x_33.map S_api_Node.enc), ro v39 3 (x_34.map S_api_Node.enc)]
    obtain ⟨o315, h, ho316⟩ := bindJ_some h
    refine run_cut ((Unit) × (Unit)) (fun σ => [(7, boxP b10 0), (9, .int .i64 want_97)]) (fun σ => [box b10 [.int .i64 x_106, .int .i64 x_107, .int .i64 x_108, .bool x_109, v124, v125, .int .i64 x_112, .int .i64 x_113, .int .i64 x_114, .int .i64 x_115, .int .i64 x_116, .int .i64 x_117, .int .i64 x_118, .int .i64 x_119, .int .i64 x_120, .int .i64 x_121, .int .i64 x_122, .int .i64 x_123, v38, v39, .bool x_35], nro v124 NC_L_int_35 x_110, row v125 4 (x_111.map S_api_Order.enc), ro v38 3 (x_33.map S_api_Node.enc), ro v39 3 (x_34.map S_api_Node.enc)]) (fun σ => o315 = .go σ.1) (fun L318 hL317 => ?_) ?_
    ·
     refine run_seq ?_
     refine run_region' ?_
     refine oy rfl rfl (y_assign rfl) ?_
     refine ops_nil ?_
     refine goes_code ?_
     refine run_block ?_
     refine run_iter (step := law42_TopoGoingBackRestores_L4 want_97 x_112 x_113 x_114 x_115 x_116 x_117 x_118 x_119 x_120 x_121 x_122 x_123) (n := n) (s0 := 0) h (G := Unit) () (fun σ γ => [(7, boxP b10 0), (9, .int .i64 want_97), (22, .int .i64 σ)]) (fun σ γ => [box b10 [.int .i64 x_106, .int .i64 x_107, .int .i64 x_108, .bool x_109, v124, v125, .int .i64 x_112, .int .i64 x_113, .int .i64 x_114, .int .i64 x_115, .int .i64 x_116, .int .i64 x_117, .int .i64 x_118, .int .i64 x_119, .int .i64 x_120, .int .i64 x_121, .int .i64 x_122, .int .i64 x_123, v38, v39, .bool x_35], nro v124 NC_L_int_35 x_110, row v125 4 (x_111.map S_api_Order.enc), ro v38 3 (x_33.map S_api_Node.enc), ro v39 3 (x_34.map S_api_Node.enc)]) [0, 1, 2, 3, 4] (qv3 rfl rfl rfl) (by decide) rfl ?_
     rintro i_319 _ o320 h L323 hgo321 hstop322
     change Run _ _ _ (VF.of [(7, boxP b10 0), (9, .int .i64 want_97), (22, .int .i64 i_319)]) [box b10 [.int .i64 x_106, .int .i64 x_107, .int .i64 x_108, .bool x_109, v124, v125, .int .i64 x_112, .int .i64 x_113, .int .i64 x_114, .int .i64 x_115, .int .i64 x_116, .int .i64 x_117, .int .i64 x_118, .int .i64 x_119, .int .i64 x_120, .int .i64 x_121, .int .i64 x_122, .int .i64 x_123, v38, v39, .bool x_35], nro v124 NC_L_int_35 x_110, row v125 4 (x_111.map S_api_Order.enc), ro v38 3 (x_33.map S_api_Node.enc), ro v39 3 (x_34.map S_api_Node.enc)]
     refine run_seq ?_
     refine run_seq ?_
     refine run_region' ?_
     refine oy rfl rfl (y_move rfl) ?_
     refine oy rfl rfl (y_lss rfl rfl) ?_
     refine ops_nil ?_
     refine goes_code ?_
     refine run_cond (decide (i_319 < 4)) rfl (fun hc324 => ?_) (fun hc324 => ?_)
     ·replace h := cond_t h hc324
      refine run_skip ?_
      refine goes_code ?_
      refine run_seq ?_
      refine run_block ?_
      refine run_seq ?_
      refine run_region' ?_
      refine oy rfl rfl (y_move rfl) ?_
      refine oy rfl rfl (y_fieldAddr_box (sz := 11) Try.runUnderlying65 rfl Try.sizeOf62 rfl) ?_
      obtain ⟨hi325, h⟩ := need_some h
      refine oy rfl rfl (y_indexAddr_boxI (i := i_319) Try.runUnderlying62 Try.sizeOf61 rfl rfl hi325) ?_
      refine oy rfl rfl (y_fieldAddr_box (sz := 0) Try.runUnderlying61 rfl Try.sizeOf3 rfl) ?_
      obtain ⟨x326, hxx326, h⟩ := obind_some h
      refine oy rfl rfl (y_load_box 0 Try.isAgg3 rfl rfl (arr_get (F := S_api_Node.enc) (es := 3) (j := 1) (fun x => (S_api_Node.enc_ok x).1) (S_4_api_Node.get_at (p := (S_4_api_Node.mk (S_api_Node.mk x_112 x_113 x_114) (S_api_Node.mk x_115 x_116 x_117) (S_api_Node.mk x_118 x_119 x_120) (S_api_Node.mk x_121 x_122 x_123))) hi325 hxx326) rfl [.int .i64 x_106, .int .i64 x_107, .int .i64 x_108, .bool x_109, v124, v125] [v38, v39, .bool x_35])) ?_
      refine oy rfl rfl (y_move rfl) ?_
      refine oy rfl rfl (y_neq rfl rfl) ?_
      refine ops_nil ?_
      refine goes_code ?_
      refine run_cond (decide (x326.Version ≠ want_97)) rfl (fun hc327 => ?_) (fun hc327 => ?_)
      ·replace h := cond_t h hc327
       refine run_seq ?_
       refine run_weak [] [] [] vnil (by decide) rfl ?_
       refine run_region' ?_
       refine oy rfl rfl (y_assign rfl) ?_
       refine ops_nil ?_
       refine goes_code ?_
       refine run_ret ?_
       obtain rfl := some_eq h
       obtain rfl := hstop322 _ rfl
       skip
       obtain rfl := after_stop ho316
       refine fin_slots [6] [.bool false] [] [] Try.results6 rfl (by decide) rfl ?_
       exact ⟨rfl, rfl⟩
      ·replace h := cond_f h hc327
       refine run_skip ?_
       refine goes_blk ?_
       refine goes_code ?_
       refine run_weak [(7, boxP b10 0), (9, .int .i64 want_97), (22, .int .i64 i_319)] [0, 1, 2, 3, 4] [box b10 [.int .i64 x_106, .int .i64 x_107, .int .i64 x_108, .bool x_109, v124, v125, .int .i64 x_112, .int .i64 x_113, .int .i64 x_114, .int .i64 x_115, .int .i64 x_116, .int .i64 x_117, .int .i64 x_118, .int .i64 x_119, .int .i64 x_120, .int .i64 x_121, .int .i64 x_122, .int .i64 x_123, v38, v39, .bool x_35], nro v124 NC_L_int_35 x_110, row v125 4 (x_111.map S_api_Order.enc), ro v38 3 (x_33.map S_api_Node.enc), ro v39 3 (x_34.map S_api_Node.enc)] (qv3 rfl rfl rfl) (by decide) rfl ?_
       refine run_region' ?_
       refine oy rfl rfl (y_move rfl) ?_
       refine oy rfl rfl (y_add rfl rfl) ?_
       refine oy rfl rfl (y_assign rfl) ?_
       refine ops_nil ?_
       obtain rfl := some_eq h
       exact goes_iter hgo321 (IntKind.i64.wrap (i_319 + 1)) () [0, 1, 2, 3, 4] rfl (qv3 rfl rfl rfl) (by decide) rfl
     ·replace h := cond_f h hc324
      refine run_exit _ rfl ?_
      obtain rfl := some_eq h
      obtain rfl := hstop322 _ rfl
      exact goes_cut hL317 ((), ()) [0, 1, 2, 3, 4] (qv2 rfl rfl) (by decide) rfl rfl
    rintro ⟨_, _⟩ hj
    obtain rfl : o315 = _ := hj
    replace h := after_go ho316
    clear ho316
    change Run _ _ _ (VF.of [(7, boxP b10 0), (9, .int .i64 want_97)]) [box b10 [.int .i64 x_106, .int .i64 x_107, .int .i64 x_108, .bool x_109, v124, v125, .int .i64 x_112, .int .i64 x_113, .int .i64 x_114, .int .i64 x_115, .int .i64 x_116, .int .i64 x_117, .int .i64 x_118, .int .i64 x_119, .int .i64 x_120, .int .i64 x_121, .int .i64 x_122, .int .i64 x_123, v38, v39, .bool x_35], nro v124 NC_L_int_35 x_110, row v125 4 (x_111.map S_api_Order.enc), ro v38 3 (x_33.map S_api_Node.enc), ro v39 3 (x_34.map S_api_Node.enc)]
    refine run_seq ?_
    refine run_seq ?_
    refine run_region' ?_
    refine oy rfl rfl (y_fieldAddr_box (sz := 5) Try.runUnderlying65 rfl Try.sizeOf59 rfl) ?_
    refine oy rfl rfl (y_fieldAddr_box (sz := 0) Try.runUnderlying59 rfl Try.sizeOf56 rfl) ?_
    refine oy rfl rfl (y_load_box 0 Try.isAgg56 rfl rfl rfl) ?_
    refine oy rfl rfl (y_lenN 1 rfl Try.runUnderlying56 rfl rfl readsN_ro) ?_
    refine oy rfl rfl (y_eql rfl rfl) ?_
    refine ops_nil ?_
    refine goes_code ?_
    refine run_cond (decide ((x_110.length : Int) = 0)) rfl (fun hc328 => ?_) (fun hc328 => ?_)
    ·replace h := cond_t h hc328
     refine run_seq ?_
     refine run_region' ?_
     obtain ⟨r329, hr330, h⟩ := obind_some h
     refine ot rfl rfl (t_callx (vs := []) (cs := []) [] rfl Try.call8 rfl (law42_sanity_ok n   hr330) showsX_nil rfl (.inl rfl)) ?_
     rintro _ _ ⟨_, ⟨rfl, rfl⟩, rfl⟩
     refine oy rfl rfl (y_assign rfl) ?_
     refine ops_nil ?_
     refine goes_code ?_
     refine run_ret ?_
     obtain rfl := some_eq h
     refine fin_slots [6] [.bool r329] [] [] Try.results6 rfl (by decide) rfl ?_
     exact ⟨rfl, rfl⟩
    ·replace h := cond_f h hc328
     refine run_skip ?_
     refine goes_code ?_
     refine run_seq ?_
     refine run_region' ?_
     refine oy rfl rfl (y_fieldAddr_box (sz := 5) Try.runUnderlying65 rfl Try.sizeOf59 rfl) ?_
     refine oy rfl rfl (y_load_boxagg (c := [.int .i64 x_106, .int .i64 x_107, .int .i64 x_108, .bool x_109, v124, v125]) 0 Try.isAgg59 Try.sizeOf59 rfl rfl rfl) ?_
     refine ops_turn (Go.Abs.freeze 2 rfl) ?_
     obtain ⟨r331, hr332, h⟩ := obind_some h
     refine ot rfl rfl (t_callx (vs := [.agg #[.int .i64 x_106, .int .i64 x_107, .int .i64 x_108, .bool x_109, v124, v125]]) (cs := []) [(1, 0), (2, 0)] rfl Try.call31 rfl (topo_End_ok n (S_api_Fleet.mk x_106 x_107 x_108 x_109 x_110 x_111) v124 v125 hr332) (showsX_view 1 rfl views_nro (showsX_view 2 rfl views_ro showsX_nil)) rfl (.inl rfl)) ?_
     rintro _ _ ⟨_, ⟨v333, v334, rfl, rfl⟩, rfl⟩
     refine oy rfl rfl (y_move rfl) ?_
     refine oy rfl rfl (y_extract rfl rfl) ?_
     refine oy rfl rfl (y_extract rfl rfl) ?_
     refine ot rfl rfl (t_alloc Try.zeroValue59) ?_
     rintro _ _ ⟨b335, rfl, rfl⟩
     refine ops_slcN 5 rfl readsN_ro (fun hs336 hs336o => ?_)
     refine ops_slc 6 rfl reads_row (fun hs337 hs337o => ?_)
     refine ot rfl rfl (t_store 7 Try.sizeOf59 rfl rfl rfl rfl (by simp [Value.cells, boxP]) (allL_cons rfl (allL_cons rfl (allL_cons rfl (allL_cons rfl (allL_cons hs336o (allL_cons hs337o (allL_nil)))))))) ?_
     rintro _ _ ⟨rfl, rfl⟩
     refine ops_turn (retell 7 (g := box b335 [.int .i64 r331.1.Base, .int .i64 r331.1.Done, .int .i64 r331.1.Serial, .bool r331.1.Stopped, v333, v334]) rfl rfl) ?_
     refine oy rfl rfl (y_assign rfl) ?_
     refine ops_nil ?_
     refine goes_code ?_
     refine run_seq ?_
     refine run_weak [(9, .int .i64 want_97), (23, boxP b335 0), (24, .int .i64 r331.2)] [5, 6, 7] [nro v333 NC_L_int_35 r331.1.Stages, row v334 4 (r331.1.Orders.map S_api_Order.enc), box b335 [.int .i64 r331.1.Base, .int .i64 r331.1.Done, .int .i64 r331.1.Serial, .bool r331.1.Stopped, v333, v334]] (qv3 rfl rfl rfl) (by decide) rfl ?_
     refine run_region' ?_
     obtain ⟨r338, hr339, h⟩ := obind_some h
     refine ot rfl rfl (t_callx (vs := []) (cs := []) [] rfl Try.call8 rfl (law42_sanity_ok n   hr339) showsX_nil rfl (.inl rfl)) ?_
     rintro _ _ ⟨_, ⟨rfl, rfl⟩, rfl⟩
     refine oy rfl rfl (y_move rfl) ?_
     refine ops_cut 3 (Bool) (fun σ => [(9, .int .i64 want_97), (23, boxP b335 0), (184, .bool σ)]) (fun σ => [nro v333 NC_L_int_35 r331.1.Stages, row v334 4 (r331.1.Orders.map S_api_Order.enc), box b335 [.int .i64 r331.1.Base, .int .i64 r331.1.Done, .int .i64 r331.1.Serial, .bool r331.1.Stopped, v333, v334]]) (fun σ => σ = (r338 && decide (r331.2 = 0))) (fun L340 hL341 => ?_) ?_
     ·refine ops_split 181 r338 rfl (fun hg342 => ?_) (fun hg342 => ?_)
      ·skip
       refine ops_y (wg 1 true 181 rfl rfl rfl rfl) rfl (y_move rfl) ?_
       refine ops_y (wg 1 true 181 rfl rfl rfl rfl) rfl (y_eql rfl rfl) ?_
       refine oy rfl rfl (y_pick (b := true) rfl rfl) ?_
       refine ops_nil ?_
       exact goes_cut hL341 (decide (r331.2 = 0)) [0, 1, 2] (qv3 rfl rfl rfl) (by decide) rfl (by rw [hg342]; simp)
      ·skip
       refine ops_no 1 true 181 rfl rfl rfl rfl rfl ?_
       refine ops_no 1 true 181 rfl rfl rfl rfl rfl ?_
       refine oy rfl rfl (y_pick (b := false) rfl rfl) ?_
       refine ops_nil ?_
       exact goes_cut hL341 false [0, 1, 2] (qv3 rfl rfl rfl) (by decide) rfl (by rw [hg342]; simp)
     rintro _ rfl
     refine oy rfl rfl (y_move rfl) ?_
     refine ops_cut 5 (Bool) (fun σ => [(23, boxP b335 0), (190, .bool σ)]) (fun σ => [nro v333 NC_L_int_35 r331.1.Stages, row v334 4 (r331.1.Orders.map S_api_Order.enc), box b335 [.int .i64 r331.1.Base, .int .i64 r331.1.Done, .int .i64 r331.1.Serial, .bool r331.1.Stopped, v333, v334]]) (fun σ => σ = ((r338 && decide (r331.2 = 0)) && decide (r331.1.Base = want_97))) (fun L343 hL344 => ?_) ?_
     ·refine ops_split 185 (r338 && decide (r331.2 = 0)) rfl (fun hg345 => ?_) (fun hg345 => ?_)
      ·skip
       refine ops_y (wg 5 true 185 rfl rfl rfl rfl) rfl (y_fieldAddr_box (sz := 0) Try.runUnderlying59 rfl Try.sizeOf3 rfl) ?_
       refine ops_y (wg 5 true 185 rfl rfl rfl rfl) rfl (y_load_box 2 Try.isAgg3 rfl rfl rfl) ?_
       refine ops_y (wg 5 true 185 rfl rfl rfl rfl) rfl (y_move rfl) ?_
       refine ops_y (wg 5 true 185 rfl rfl rfl rfl) rfl (y_eql rfl rfl) ?_
       refine oy rfl rfl (y_pick (b := true) rfl rfl) ?_
       refine ops_nil ?_
       exact goes_cut hL344 (decide (r331.1.Base = want_97)) [0, 1, 2] (qv2 rfl rfl) (by decide) rfl (by rw [hg345]; simp)
      ·skip
       refine ops_no 5 true 185 rfl rfl rfl rfl rfl ?_
       refine ops_no 5 true 185 rfl rfl rfl rfl rfl ?_
       refine ops_no 5 true 185 rfl rfl rfl rfl rfl ?_
       refine ops_no 5 true 185 rfl rfl rfl rfl rfl ?_
       refine oy rfl rfl (y_pick (b := false) rfl rfl) ?_
       refine ops_nil ?_
       exact goes_cut hL344 false [0, 1, 2] (qv2 rfl rfl) (by decide) rfl (by rw [hg345]; simp)
     rintro _ rfl
     refine oy rfl rfl (y_move rfl) ?_
     refine ops_cut 5 (Bool) (fun σ => [(196, .bool σ)]) (fun σ => []) (fun σ => σ = (((r338 && decide (r331.2 = 0)) && decide (r331.1.Base = want_97)) && decide ((r331.1.Stages.length : Int) = 0))) (fun L346 hL347 => ?_) ?_
     ·refine ops_split 191 ((r338 && decide (r331.2 = 0)) && decide (r331.1.Base = want_97)) rfl (fun hg348 => ?_) (fun hg348 => ?_)
      ·skip
       refine ops_y (wg 11 true 191 rfl rfl rfl rfl) rfl (y_fieldAddr_box (sz := 0) Try.runUnderlying59 rfl Try.sizeOf56 rfl) ?_
       refine ops_y (wg 11 true 191 rfl rfl rfl rfl) rfl (y_load_box 2 Try.isAgg56 rfl rfl rfl) ?_
       refine ops_y (wg 11 true 191 rfl rfl rfl rfl) rfl (y_lenN 0 rfl Try.runUnderlying56 rfl rfl readsN_ro) ?_
       refine ops_y (wg 11 true 191 rfl rfl rfl rfl) rfl (y_eql rfl rfl) ?_
       refine oy rfl rfl (y_pick (b := true) rfl rfl) ?_
       refine ops_nil ?_
       exact goes_cut hL347 (decide ((r331.1.Stages.length : Int) = 0)) [] (qv1 rfl) (by decide) rfl (by rw [hg348]; simp)
      ·skip
       refine ops_no 11 true 191 rfl rfl rfl rfl rfl ?_
       refine ops_no 11 true 191 rfl rfl rfl rfl rfl ?_
       refine ops_no 11 true 191 rfl rfl rfl rfl rfl ?_
       refine ops_no 11 true 191 rfl rfl rfl rfl rfl ?_
       refine oy rfl rfl (y_pick (b := false) rfl rfl) ?_
       refine ops_nil ?_
       exact goes_cut hL347 false [] (qv1 rfl) (by decide) rfl (by rw [hg348]; simp)
     rintro _ rfl
     refine oy rfl rfl (y_assign rfl) ?_
     refine ops_nil ?_
     refine goes_code ?_
     refine run_ret ?_
     obtain rfl := some_eq h
     refine fin_slots [6] [.bool (((r338 && decide (r331.2 = 0)) && decide (r331.1.Base = want_97)) && decide ((r331.1.Stages.length : Int) = 0))] [] [] Try.results6 rfl (by decide) rfl ?_
     exact ⟨rfl, rfl⟩

end Go.Proofs.Ytigiikkenamneaa
