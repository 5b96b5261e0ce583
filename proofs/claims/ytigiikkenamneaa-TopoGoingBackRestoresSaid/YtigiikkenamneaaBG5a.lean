/-
  Functions that the law TopoRolloutsKeepNear needs, lifted.
-/
import Derived.Test.YtigiikkenamneaaBFd
namespace Go.Proofs.Ytigiikkenamneaa
open Go.Abs
set_option linter.unusedVariables false
set_option linter.unusedSimpArgs false
set_option maxRecDepth 20000
set_option maxHeartbeats 4000000

def law42_begin_L1 (version_0 : Int) : (Int × Int × Int × Int × Int × Int × Int × Int × Int × Int × Int × Int × Int) → Option (Lp (Int × Int × Int × Int × Int × Int × Int × Int × Int × Int × Int × Int × Int) (Lp (Int × Int × Int × Int × Int × Int × Int × Int × Int × Int × Int × Int) (S_law42_World))) :=
 fun (i_31, x_32, x_33, x_34, x_35, x_36, x_37, x_38, x_39, x_40, x_41, x_42, x_43) =>
  cond (decide (i_31 < 4))
   (need (0 ≤ i_31 ∧ i_31 < 4) (
   obind (some (S_4_api_Node.put (S_4_api_Node.mk (S_api_Node.mk x_32 x_33 x_34) (S_api_Node.mk x_35 x_36 x_37) (S_api_Node.mk x_38 x_39 x_40) (S_api_Node.mk x_41 x_42 x_43)) i_31 (S_api_Node.mk i_31 version_0 0))) fun x50 =>
   some (.go ((IntKind.i64.wrap (i_31 + 1)), x50.a0_.Site, x50.a0_.Version, x50.a0_.Serial, x50.a1_.Site, x50.a1_.Version, x50.a1_.Serial, x50.a2_.Site, x50.a2_.Version, x50.a2_.Serial, x50.a3_.Site, x50.a3_.Version, x50.a3_.Serial))))
   (some (.stop (.go (x_32, x_33, x_34, x_35, x_36, x_37, x_38, x_39, x_40, x_41, x_42, x_43))))
def law42_begin (n : Nat) (version_0 : Int) : Option (S_law42_World) :=
 obind (topo_NewFleet n ([0, 1, 2, 3] : List Int) version_0) fun r3 =>
 bindJ (S := Int × Int × Int × Int × Int × Int × Int × Int × Int × Int × Int × Int)
  (iter (law42_begin_L1 version_0) n (0, 0, 0, 0, 0, 0, 0, 0, 0, 0, 0, 0, 0))
 (fun (x_15, x_16, x_17, x_18, x_19, x_20, x_21, x_22, x_23, x_24, x_25, x_26) =>
  some (S_law42_World.mk r3.1 (S_4_api_Node.mk (S_api_Node.mk x_15 x_16 x_17) (S_api_Node.mk x_18 x_19 x_20) (S_api_Node.mk x_21 x_22 x_23) (S_api_Node.mk x_24 x_25 x_26)) ([] : List S_api_Node) ([] : List S_api_Node) (decide (r3.2 ≠ 0))))
theorem law42_begin_ok (n : Nat) (version_0 : Int)  {r : S_law42_World} (h : law42_begin n version_0 = some r) :
  Meets Try.prog 21 [.int .i64 version_0] [] (fun v G => ∃ v0 v1 v2 v3, v = .agg #[.int .i64 r.F.Base, .int .i64 r.F.Done, .int .i64 r.F.Serial, .bool r.F.Stopped, v0, v1, .int .i64 r.Nodes.a0_.Site, .int .i64 r.Nodes.a0_.Version, .int .i64 r.Nodes.a0_.Serial, .int .i64 r.Nodes.a1_.Site, .int .i64 r.Nodes.a1_.Version, .int .i64 r.Nodes.a1_.Serial, .int .i64 r.Nodes.a2_.Site, .int .i64 r.Nodes.a2_.Version, .int .i64 r.Nodes.a2_.Serial, .int .i64 r.Nodes.a3_.Site, .int .i64 r.Nodes.a3_.Version, .int .i64 r.Nodes.a3_.Serial, v2, v3, .bool r.Bad] ∧ G = [nro v0 NC_L_int_35 r.F.Stages, row v1 4 (r.F.Orders.map S_api_Order.enc), row v2 3 (r.Sent.map S_api_Node.enc), row v3 3 (r.Told.map S_api_Node.enc)]) := by
 refine fn_of_run Try.func21 rfl Try.ntmps21 rfl (fun w0 o0 => ?_)
 refine run_seq ?_
 refine run_region' ?_
 refine ot rfl rfl (t_alloc Try.zeroValue65) ?_
 rintro _ _ ⟨b1, rfl, rfl⟩
 refine ops_nil ?_
 refine goes_code ?_
 refine run_seq ?_
 refine run_region' ?_
 refine ot rfl rfl (t_lit [.int .i64 0, .int .i64 1, .int .i64 2, .int .i64 3] Try.runUnderlying35 Try.sizeOf3 Try.zeroValue3 rfl (by decide) (by decide) rfl (by simp [Value.cells, boxP])) ?_
 rintro v2 _ ⟨rfl, _⟩
 refine ops_turn (retell 1 (g := row v2 1 (([0, 1, 2, 3] : List Int).map (eInt .i64))) rfl rfl) ?_
 refine oy rfl rfl (y_move rfl) ?_
 refine ops_turn (Go.Abs.freeze 1 rfl) ?_
 obtain ⟨r3, hr4, h⟩ := obind_some h
 refine ot rfl rfl (t_callx (vs := [v2, .int .i64 version_0]) (cs := []) [(1, 0)] rfl Try.call32 rfl (topo_NewFleet_ok n ([0, 1, 2, 3] : List Int) version_0 v2 hr4) (showsX_view 1 rfl views_ro showsX_nil) rfl (.inl rfl)) ?_
 rintro _ _ ⟨_, ⟨v5, v6, rfl, rfl⟩, rfl⟩
 refine oy rfl rfl (y_move rfl) ?_
 refine oy rfl rfl (y_extract rfl rfl) ?_
 refine oy rfl rfl (y_extract rfl rfl) ?_
 refine ot rfl rfl (t_alloc Try.zeroValue59) ?_
 rintro _ _ ⟨b7, rfl, rfl⟩
 refine ops_slcN 2 rfl readsN_ro (fun hs8 hs8o => ?_)
 refine ops_slc 3 rfl reads_row (fun hs9 hs9o => ?_)
 refine ot rfl rfl (t_store 4 Try.sizeOf59 rfl rfl rfl rfl (by simp [Value.cells, boxP]) (allL_cons rfl (allL_cons rfl (allL_cons rfl (allL_cons rfl (allL_cons hs8o (allL_cons hs9o (allL_nil)))))))) ?_
 rintro _ _ ⟨rfl, rfl⟩
 refine ops_turn (retell 4 (g := box b7 [.int .i64 r3.1.Base, .int .i64 r3.1.Done, .int .i64 r3.1.Serial, .bool r3.1.Stopped, v5, v6]) rfl rfl) ?_
 refine oy rfl rfl (y_assign rfl) ?_
 refine ops_nil ?_
 refine goes_code ?_
 refine run_seq ?_
 refine run_weak [(0, .int .i64 version_0), (2, boxP b1 0), (3, boxP b7 0), (4, .int .i64 r3.2)] [0, 2, 3, 4] [box b1 [.int .i64 0, .int .i64 0, .int .i64 0, .bool false, .slice none 0 0, .slice none 0 0, .int .i64 0, .int .i64 0, .int .i64 0, .int .i64 0, .int .i64 0, .int .i64 0, .int .i64 0, .int .i64 0, .int .i64 0, .int .i64 0, .int .i64 0, .int .i64 0, .slice none 0 0, .slice none 0 0, .bool false], nro v5 NC_L_int_35 r3.1.Stages, row v6 4 (r3.1.Orders.map S_api_Order.enc), box b7 [.int .i64 r3.1.Base, .int .i64 r3.1.Done, .int .i64 r3.1.Serial, .bool r3.1.Stopped, v5, v6]] (qv4 rfl rfl rfl rfl) (by decide) rfl ?_
 refine run_region' ?_
 refine oy rfl rfl (y_load_boxagg (c := [.int .i64 r3.1.Base, .int .i64 r3.1.Done, .int .i64 r3.1.Serial, .bool r3.1.Stopped, v5, v6]) 3 Try.isAgg59 Try.sizeOf59 rfl rfl rfl) ?_
 refine oy rfl rfl (y_move rfl) ?_
 refine oy rfl rfl (y_neq rfl rfl) ?_
 refine ops_slcN 1 rfl readsN_ro (fun hs10 hs10o => ?_)
 refine ops_slc 2 rfl reads_row (fun hs11 hs11o => ?_)
 refine oy rfl rfl (y_build_struct (cells := #[.int .i64 r3.1.Base, .int .i64 r3.1.Done, .int .i64 r3.1.Serial, .bool r3.1.Stopped, v5, v6, .int .i64 0, .int .i64 0, .int .i64 0, .int .i64 0, .int .i64 0, .int .i64 0, .int .i64 0, .int .i64 0, .int .i64 0, .int .i64 0, .int .i64 0, .int .i64 0, .slice none 0 0, .slice none 0 0, .bool (decide (r3.2 ≠ 0))]) [(0, .agg #[.int .i64 r3.1.Base, .int .i64 r3.1.Done, .int .i64 r3.1.Serial, .bool r3.1.Stopped, v5, v6]), (4, .bool (decide (r3.2 ≠ 0)))] [(0, [.int .i64 r3.1.Base, .int .i64 r3.1.Done, .int .i64 r3.1.Serial, .bool r3.1.Stopped, v5, v6]), (4, [.bool (decide (r3.2 ≠ 0))])] Try.zeroValue65 Try.runUnderlying65 (fs_cons Try.sizeOf59 (fs_cons Try.sizeOf62 (fs_cons Try.sizeOf63 (fs_cons Try.sizeOf63 (fs_cons Try.sizeOf4 fs_nil))))) rfl (by first | (simp only [List.map_cons, List.map_nil, hs10, hs11]; done) | (simp only [List.map_cons, List.map_nil, hs10, hs11]; rfl)) rfl) ?_
 refine ot rfl rfl (t_alloc Try.zeroValue65) ?_
 rintro _ _ ⟨b12, rfl, rfl⟩
 refine ops_slcN 1 rfl readsN_ro (fun hs13 hs13o => ?_)
 refine ops_slc 2 rfl reads_row (fun hs14 hs14o => ?_)
 refine ot rfl rfl (t_store 4 Try.sizeOf65 rfl rfl rfl rfl (by simp [Value.cells, boxP]) (allL_cons rfl (allL_cons rfl (allL_cons rfl (allL_cons rfl (allL_cons hs13o (allL_cons hs14o (allL_cons rfl (allL_cons rfl (allL_cons rfl (allL_cons rfl (allL_cons rfl (allL_cons rfl (allL_cons rfl (allL_cons rfl (allL_cons rfl (allL_cons rfl (allL_cons rfl (allL_cons rfl (allL_cons rfl (allL_cons rfl (allL_cons rfl (allL_nil))))))))))))))))))))))) ?_
 rintro _ _ ⟨rfl, rfl⟩
 refine ops_turn (retell 4 (g := box b12 [.int .i64 r3.1.Base, .int .i64 r3.1.Done, .int .i64 r3.1.Serial, .bool r3.1.Stopped, v5, v6, .int .i64 0, .int .i64 0, .int .i64 0, .int .i64 0, .int .i64 0, .int .i64 0, .int .i64 0, .int .i64 0, .int .i64 0, .int .i64 0, .int .i64 0, .int .i64 0, .slice none 0 0, .slice none 0 0, .bool (decide (r3.2 ≠ 0))]) rfl (by kernel_rfl)) ?_
 refine ops_nil ?_
 refine goes_code ?_
 obtain ⟨o27, h, ho28⟩ := bindJ_some h
 refine run_cut ((Int × Int × Int × Int × Int × Int × Int × Int × Int × Int × Int × Int) × (Unit)) (fun σ => [(2, boxP b1 0), (5, boxP b12 0)]) (fun σ => [box b1 [.int .i64 0, .int .i64 0, .int .i64 0, .bool false, .slice none 0 0, .slice none 0 0, .int .i64 0, .int .i64 0, .int .i64 0, .int .i64 0, .int .i64 0, .int .i64 0, .int .i64 0, .int .i64 0, .int .i64 0, .int .i64 0, .int .i64 0, .int .i64 0, .slice none 0 0, .slice none 0 0, .bool false], box b12 [.int .i64 r3.1.Base, .int .i64 r3.1.Done, .int .i64 r3.1.Serial, .bool r3.1.Stopped, v5, v6, .int .i64 σ.1.1, .int .i64 σ.1.2.1, .int .i64 σ.1.2.2.1, .int .i64 σ.1.2.2.2.1, .int .i64 σ.1.2.2.2.2.1, .int .i64 σ.1.2.2.2.2.2.1, .int .i64 σ.1.2.2.2.2.2.2.1, .int .i64 σ.1.2.2.2.2.2.2.2.1, .int .i64 σ.1.2.2.2.2.2.2.2.2.1, .int .i64 σ.1.2.2.2.2.2.2.2.2.2.1, .int .i64 σ.1.2.2.2.2.2.2.2.2.2.2.1, .int .i64 σ.1.2.2.2.2.2.2.2.2.2.2.2, .slice none 0 0, .slice none 0 0, .bool (decide (r3.2 ≠ 0))], nro v5 NC_L_int_35 r3.1.Stages, row v6 4 (r3.1.Orders.map S_api_Order.enc)]) (fun σ => o27 = .go σ.1) (fun L30 hL29 => ?_) ?_
 ·
  refine run_seq ?_
  refine run_region' ?_
  refine oy rfl rfl (y_assign rfl) ?_
  refine ops_nil ?_
  refine goes_code ?_
  refine run_block ?_
  refine run_iter (step := law42_begin_L1 version_0) (n := n) (s0 := (0, 0, 0, 0, 0, 0, 0, 0, 0, 0, 0, 0, 0)) h (G := Unit) () (fun σ γ => [(0, .int .i64 version_0), (2, boxP b1 0), (5, boxP b12 0), (6, .int .i64 σ.1)]) (fun σ γ => [box b1 [.int .i64 0, .int .i64 0, .int .i64 0, .bool false, .slice none 0 0, .slice none 0 0, .int .i64 0, .int .i64 0, .int .i64 0, .int .i64 0, .int .i64 0, .int .i64 0, .int .i64 0, .int .i64 0, .int .i64 0, .int .i64 0, .int .i64 0, .int .i64 0, .slice none 0 0, .slice none 0 0, .bool false], box b12 [.int .i64 r3.1.Base, .int .i64 r3.1.Done, .int .i64 r3.1.Serial, .bool r3.1.Stopped, v5, v6, .int .i64 σ.2.1, .int .i64 σ.2.2.1, .int .i64 σ.2.2.2.1, .int .i64 σ.2.2.2.2.1, .int .i64 σ.2.2.2.2.2.1, .int .i64 σ.2.2.2.2.2.2.1, .int .i64 σ.2.2.2.2.2.2.2.1, .int .i64 σ.2.2.2.2.2.2.2.2.1, .int .i64 σ.2.2.2.2.2.2.2.2.2.1, .int .i64 σ.2.2.2.2.2.2.2.2.2.2.1, .int .i64 σ.2.2.2.2.2.2.2.2.2.2.2.1, .int .i64 σ.2.2.2.2.2.2.2.2.2.2.2.2, .slice none 0 0, .slice none 0 0, .bool (decide (r3.2 ≠ 0))], nro v5 NC_L_int_35 r3.1.Stages, row v6 4 (r3.1.Orders.map S_api_Order.enc)]) [0, 4, 1, 2] (qv4 rfl rfl rfl rfl) (by decide) rfl ?_
  rintro ⟨i_31, x_32, x_33, x_34, x_35, x_36, x_37, x_38, x_39, x_40, x_41, x_42, x_43⟩ _ o44 h L47 hgo45 hstop46
  change Run _ _ _ (VF.of [(0, .int .i64 version_0), (2, boxP b1 0), (5, boxP b12 0), (6, .int .i64 i_31)]) [box b1 [.int .i64 0, .int .i64 0, .int .i64 0, .bool false, .slice none 0 0, .slice none 0 0, .int .i64 0, .int .i64 0, .int .i64 0, .int .i64 0, .int .i64 0, .int .i64 0, .int .i64 0, .int .i64 0, .int .i64 0, .int .i64 0, .int .i64 0, .int .i64 0, .slice none 0 0, .slice none 0 0, .bool false], box b12 [.int .i64 r3.1.Base, .int .i64 r3.1.Done, .int .i64 r3.1.Serial, .bool r3.1.Stopped, v5, v6, .int .i64 x_32, .int .i64 x_33, .int .i64 x_34, .int .i64 x_35, .int .i64 x_36, .int .i64 x_37, .int .i64 x_38, .int .i64 x_39, .int .i64 x_40, .int .i64 x_41, .int .i64 x_42, .int .i64 x_43, .slice none 0 0, .slice none 0 0, .bool (decide (r3.2 ≠ 0))], nro v5 NC_L_int_35 r3.1.Stages, row v6 4 (r3.1.Orders.map S_api_Order.enc)]
  refine run_seq ?_
  refine run_seq ?_
  refine run_region' ?_
  refine oy rfl rfl (y_move rfl) ?_
  refine oy rfl rfl (y_lss rfl rfl) ?_
  refine ops_nil ?_
  refine goes_code ?_
  refine run_cond (decide (i_31 < 4)) rfl (fun hc48 => ?_) (fun hc48 => ?_)
  ·replace h := cond_t h hc48
   refine run_skip ?_
   refine goes_code ?_
   refine run_seq ?_
   refine run_block ?_
   refine run_region' ?_
   refine oy rfl rfl (y_move rfl) ?_
   refine oy rfl rfl (y_move rfl) ?_
   refine oy rfl rfl (y_move rfl) ?_
   refine oy rfl rfl (y_build_struct (cells := #[.int .i64 i_31, .int .i64 version_0, .int .i64 0]) [(0, .int .i64 i_31), (1, .int .i64 version_0)] [(0, [.int .i64 i_31]), (1, [.int .i64 version_0])] Try.zeroValue61 Try.runUnderlying61 (fs_cons Try.sizeOf3 (fs_cons Try.sizeOf3 (fs_cons Try.sizeOf3 fs_nil))) rfl rfl rfl) ?_
   refine oy rfl rfl (y_fieldAddr_box (sz := 11) Try.runUnderlying65 rfl Try.sizeOf62 rfl) ?_
   obtain ⟨hi49, h⟩ := need_some h
   refine oy rfl rfl (y_indexAddr_boxI (i := i_31) Try.runUnderlying62 Try.sizeOf61 rfl rfl hi49) ?_
   obtain ⟨x50, hxx50, h⟩ := obind_some h
   refine ot rfl rfl (t_store_arr (F := S_api_Node.enc) (es := 3) (i := i_31.toNat) (l := S_4_api_Node.toL (S_4_api_Node.mk (S_api_Node.mk x_32 x_33 x_34) (S_api_Node.mk x_35 x_36 x_37) (S_api_Node.mk x_38 x_39 x_40) (S_api_Node.mk x_41 x_42 x_43))) (v := (S_api_Node.mk i_31 version_0 0)) 1 [.int .i64 r3.1.Base, .int .i64 r3.1.Done, .int .i64 r3.1.Serial, .bool r3.1.Stopped, v5, v6] [.slice none 0 0, .slice none 0 0, .bool (decide (r3.2 ≠ 0))] (fun x => (S_api_Node.enc_ok x).1) Try.sizeOf61 rfl rfl rfl rfl (by rw [S_4_api_Node.toL_len]; omega) rfl (by simp [Value.cells, Value.oneCell', boxP])) ?_
   rintro _ _ ⟨rfl, rfl⟩
   refine ops_turn (retell 1 (g := box b12 [.int .i64 r3.1.Base, .int .i64 r3.1.Done, .int .i64 r3.1.Serial, .bool r3.1.Stopped, v5, v6, .int .i64 x50.a0_.Site, .int .i64 x50.a0_.Version, .int .i64 x50.a0_.Serial, .int .i64 x50.a1_.Site, .int .i64 x50.a1_.Version, .int .i64 x50.a1_.Serial, .int .i64 x50.a2_.Site, .int .i64 x50.a2_.Version, .int .i64 x50.a2_.Serial, .int .i64 x50.a3_.Site, .int .i64 x50.a3_.Version, .int .i64 x50.a3_.Serial, .slice none 0 0, .slice none 0 0, .bool (decide (r3.2 ≠ 0))]) rfl (congrArg (fun q => box b12 ([.int .i64 r3.1.Base, .int .i64 r3.1.Done, .int .i64 r3.1.Serial, .bool r3.1.Stopped, v5, v6] ++ (q.flatMap S_api_Node.enc ++ [.slice none 0 0, .slice none 0 0, .bool (decide (r3.2 ≠ 0))]))) (S_4_api_Node.put_at hxx50).symm)) ?_
   refine ops_nil ?_
   refine goes_blk ?_
   refine goes_code ?_
   refine run_weak [(0, .int .i64 version_0), (2, boxP b1 0), (5, boxP b12 0), (6, .int .i64 i_31)] [0, 1, 2, 3] [box b1 [.int .i64 0, .int .i64 0, .int .i64 0, .bool false, .slice none 0 0, .slice none 0 0, .int .i64 0, .int .i64 0, .int .i64 0, .int .i64 0, .int .i64 0, .int .i64 0, .int .i64 0, .int .i64 0, .int .i64 0, .int .i64 0, .int .i64 0, .int .i64 0, .slice none 0 0, .slice none 0 0, .bool false], box b12 [.int .i64 r3.1.Base, .int .i64 r3.1.Done, .int .i64 r3.1.Serial, .bool r3.1.Stopped, v5, v6, .int .i64 x50.a0_.Site, .int .i64 x50.a0_.Version, .int .i64 x50.a0_.Serial, .int .i64 x50.a1_.Site, .int .i64 x50.a1_.Version, .int .i64 x50.a1_.Serial, .int .i64 x50.a2_.Site, .int .i64 x50.a2_.Version, .int .i64 x50.a2_.Serial, .int .i64 x50.a3_.Site, .int .i64 x50.a3_.Version, .int .i64 x50.a3_.Serial, .slice none 0 0, .slice none 0 0, .bool (decide (r3.2 ≠ 0))], nro v5 NC_L_int_35 r3.1.Stages, row v6 4 (r3.1.Orders.map S_api_Order.enc)] (qv4 rfl rfl rfl rfl) (by decide) rfl ?_
   refine run_region' ?_
   refine oy rfl rfl (y_move rfl) ?_
   refine oy rfl rfl (y_add rfl rfl) ?_
   refine oy rfl rfl (y_assign rfl) ?_
   refine ops_nil ?_
   obtain rfl := some_eq h
   exact goes_iter hgo45 ((IntKind.i64.wrap (i_31 + 1)), x50.a0_.Site, x50.a0_.Version, x50.a0_.Serial, x50.a1_.Site, x50.a1_.Version, x50.a1_.Serial, x50.a2_.Site, x50.a2_.Version, x50.a2_.Serial, x50.a3_.Site, x50.a3_.Version, x50.a3_.Serial) () [0, 1, 2, 3] rfl (qv4 rfl rfl rfl rfl) (by decide) rfl
  ·replace h := cond_f h hc48
   refine run_exit _ rfl ?_
   obtain rfl := some_eq h
   obtain rfl := hstop46 _ rfl
   exact goes_cut hL29 ((x_32, x_33, x_34, x_35, x_36, x_37, x_38, x_39, x_40, x_41, x_42, x_43), ()) [0, 1, 2, 3] (qv2 rfl rfl) (by decide) rfl rfl
 rintro ⟨⟨x_15, x_16, x_17, x_18, x_19, x_20, x_21, x_22, x_23, x_24, x_25, x_26⟩, _⟩ hj
 obtain rfl : o27 = _ := hj
 replace h := after_go ho28
 clear ho28
 change Run _ _ _ (VF.of [(2, boxP b1 0), (5, boxP b12 0)]) [box b1 [.int .i64 0, .int .i64 0, .int .i64 0, .bool false, .slice none 0 0, .slice none 0 0, .int .i64 0, .int .i64 0, .int .i64 0, .int .i64 0, .int .i64 0, .int .i64 0, .int .i64 0, .int .i64 0, .int .i64 0, .int .i64 0, .int .i64 0, .int .i64 0, .slice none 0 0, .slice none 0 0, .bool false], box b12 [.int .i64 r3.1.Base, .int .i64 r3.1.Done, .int .i64 r3.1.Serial, .bool r3.1.Stopped, v5, v6, .int .i64 x_15, .int .i64 x_16, .int .i64 x_17, .int .i64 x_18, .int .i64 x_19, .int .i64 x_20, .int .i64 x_21, .int .i64 x_22, .int .i64 x_23, .int .i64 x_24, .int .i64 x_25, .int .i64 x_26, .slice none 0 0, .slice none 0 0, .bool (decide (r3.2 ≠ 0))], nro v5 NC_L_int_35 r3.1.Stages, row v6 4 (r3.1.Orders.map S_api_Order.enc)]
 refine run_seq ?_
 refine run_region' ?_
 refine oy rfl rfl (y_load_boxagg (c := [.int .i64 r3.1.Base, .int .i64 r3.1.Done, .int .i64 r3.1.Serial, .bool r3.1.Stopped, v5, v6, .int .i64 x_15, .int .i64 x_16, .int .i64 x_17, .int .i64 x_18, .int .i64 x_19, .int .i64 x_20, .int .i64 x_21, .int .i64 x_22, .int .i64 x_23, .int .i64 x_24, .int .i64 x_25, .int .i64 x_26, .slice none 0 0, .slice none 0 0, .bool (decide (r3.2 ≠ 0))]) 1 Try.isAgg65 Try.sizeOf65 rfl rfl rfl) ?_
 refine ops_slcN 2 rfl readsN_ro (fun hs51 hs51o => ?_)
 refine ops_slc 3 rfl reads_row (fun hs52 hs52o => ?_)
 refine ot rfl rfl (t_store 0 Try.sizeOf65 rfl rfl rfl rfl (by simp [Value.cells, boxP]) (allL_cons rfl (allL_cons rfl (allL_cons rfl (allL_cons rfl (allL_cons hs51o (allL_cons hs52o (allL_cons rfl (allL_cons rfl (allL_cons rfl (allL_cons rfl (allL_cons rfl (allL_cons rfl (allL_cons rfl (allL_cons rfl (allL_cons rfl (allL_cons rfl (allL_cons rfl (allL_cons rfl (allL_cons rfl (allL_cons rfl (allL_cons rfl (allL_nil))))))))))))))))))))))) ?_
 rintro _ _ ⟨rfl, rfl⟩
 refine ops_turn (retell 0 (g := box b1 [.int .i64 r3.1.Base, .int .i64 r3.1.Done, .int .i64 r3.1.Serial, .bool r3.1.Stopped, v5, v6, .int .i64 x_15, .int .i64 x_16, .int .i64 x_17, .int .i64 x_18, .int .i64 x_19, .int .i64 x_20, .int .i64 x_21, .int .i64 x_22, .int .i64 x_23, .int .i64 x_24, .int .i64 x_25, .int .i64 x_26, .slice none 0 0, .slice none 0 0, .bool (decide (r3.2 ≠ 0))]) rfl (by kernel_rfl)) ?_
 refine ops_nil ?_
 refine goes_code ?_
 refine run_ret ?_
 refine fin_turn (nilrow 3) ?_
 refine fin_turn (retell 4 (g := row (.slice none 0 0) 3 (([] : List S_api_Node).map S_api_Node.enc)) rfl rfl) ?_
 refine fin_turn (nilrow 3) ?_
 refine fin_turn (retell 5 (g := row (.slice none 0 0) 3 (([] : List S_api_Node).map S_api_Node.enc)) rfl rfl) ?_
 obtain rfl := some_eq h
 refine fin_res [.cell 2 65] [.agg #[.int .i64 r3.1.Base, .int .i64 r3.1.Done, .int .i64 r3.1.Serial, .bool r3.1.Stopped, v5, v6, .int .i64 x_15, .int .i64 x_16, .int .i64 x_17, .int .i64 x_18, .int .i64 x_19, .int .i64 x_20, .int .i64 x_21, .int .i64 x_22, .int .i64 x_23, .int .i64 x_24, .int .i64 x_25, .int .i64 x_26, (.slice none 0 0), (.slice none 0 0), .bool (decide (r3.2 ≠ 0))]] [2, 3, 4, 5] [nro v5 NC_L_int_35 r3.1.Stages, row v6 4 (r3.1.Orders.map S_api_Order.enc), row (.slice none 0 0) 3 (([] : List S_api_Node).map S_api_Node.enc), row (.slice none 0 0) 3 (([] : List S_api_Node).map S_api_Node.enc)] Try.results21 rfl (rescons (res_box 0 Try.isAgg65 Try.sizeOf65 rfl rfl rfl) resnil) (by decide) rfl ?_
 exact ⟨_, _, _, _, rfl, rfl⟩

def law42_stages_L1 : (Int × Int × (List (List Int))) → Option (Lp (Int × Int × (List (List Int))) (Lp ((List (List Int))) ((List (List Int))))) :=
 fun (n_7, i_8, x_9) =>
  cond (decide (i_8 < 4))
   (idx x_9 (n_7.tmod 3) fun x16 =>
   need (([] : List Int).length + x16.length ≤ 4294967296) (
   need ((([] : List Int) ++ x16).length + ([i_8] : List Int).length ≤ 4294967296) (
   some (.go ((IntKind.i64.wrap (n_7.tdiv 3)), (IntKind.i64.wrap (i_8 + 1)), (x_9.set (((n_7.tmod 3)).toNat) ((([] : List Int) ++ x16) ++ ([i_8] : List Int))))))))
   (some (.stop (.go x_9)))
def law42_stages (n : Nat) (n_0 : Int) : Option ((List (List Int))) :=
 bindJ (S := (List (List Int)))
  (iter (law42_stages_L1) n (n_0, 0, ([[], [], []] : List (List Int))))
 (fun x_2 =>
  some x_2)
theorem law42_stages_ok (n : Nat) (n_0 : Int)  {r : (List (List Int))} (h : law42_stages n n_0 = some r) :
  Meets Try.prog 49 [.int .i64 n_0] [] (fun v G => ∃ v0, v = v0 ∧ G = [nrow v0 NC_L_int_35 r]) := by
 refine fn_of_run Try.func49 rfl Try.ntmps49 rfl (fun w0 o0 => ?_)
 refine run_seq ?_
 refine run_region' ?_
 refine oy rfl rfl (y_assign rfl) ?_
 refine ops_nil ?_
 refine goes_code ?_
 refine run_seq ?_
 refine run_region' ?_
 refine ot rfl rfl (t_lit [.slice none 0 0, .slice none 0 0, .slice none 0 0] Try.runUnderlying56 Try.sizeOf35 Try.zeroValue35 rfl (by decide) (by decide) rfl (by intro q hq; simp only [List.mem_cons, List.not_mem_nil, or_false] at hq; rcases hq with rfl | rfl | rfl <;> first | rfl)) ?_
 rintro v1 _ ⟨rfl, _⟩
 refine ops_turn (turn_closeR (C := NC_L_int_35) (l := ([[], [], []] : List (List Int))) 0 [([], (.slice none 0 0)), ([], (.slice none 0 0)), ([], (.slice none 0 0))] rfl rfl rfl (hasall_cons (has_true nil_ro_any has_nil) (hasall_cons (has_true nil_ro_any has_nil) (hasall_cons (has_true nil_ro_any has_nil) hasall_nil)))) ?_
 refine oy rfl rfl (y_assign rfl) ?_
 refine ops_nil ?_
 refine goes_code ?_
 obtain ⟨o3, h, ho4⟩ := bindJ_some h
 refine run_cut (((List (List Int))) × (Unit)) (fun σ => [(3, v1)]) (fun σ => [nrow v1 NC_L_int_35 σ.1]) (fun σ => o3 = .go σ.1) (fun L6 hL5 => ?_) ?_
 ·
  refine run_seq ?_
  refine run_region' ?_
  refine oy rfl rfl (y_assign rfl) ?_
  refine ops_nil ?_
  refine goes_code ?_
  refine run_block ?_
  refine run_iter (step := law42_stages_L1) (n := n) (s0 := (n_0, 0, ([[], [], []] : List (List Int)))) h (G := Unit) () (fun σ γ => [(0, .int .i64 σ.1), (3, v1), (4, .int .i64 σ.2.1)]) (fun σ γ => [nrow v1 NC_L_int_35 σ.2.2]) [0] (qv3 rfl rfl rfl) (by decide) rfl ?_
  rintro ⟨n_7, i_8, x_9⟩ _ o10 h L13 hgo11 hstop12
  change Run _ _ _ (VF.of [(0, .int .i64 n_7), (3, v1), (4, .int .i64 i_8)]) [nrow v1 NC_L_int_35 x_9]
  refine run_seq ?_
  refine run_seq ?_
  refine run_region' ?_
  refine oy rfl rfl (y_move rfl) ?_
  refine oy rfl rfl (y_lss rfl rfl) ?_
  refine ops_nil ?_
  refine goes_code ?_
  refine run_cond (decide (i_8 < 4)) rfl (fun hc14 => ?_) (fun hc14 => ?_)
  ·replace h := cond_t h hc14
   refine run_skip ?_
   refine goes_code ?_
   refine run_seq ?_
   refine run_block ?_
   refine run_seq ?_
   refine run_region' ?_
   refine oy rfl rfl (y_move rfl) ?_
   refine oy rfl rfl (y_rem rfl rfl (by decide)) ?_
   refine oy rfl rfl (y_assign rfl) ?_
   refine ops_nil ?_
   refine goes_code ?_
   refine run_seq ?_
   refine run_region' ?_
   refine oy rfl rfl (y_move rfl) ?_
   refine oy rfl rfl (y_move rfl) ?_
   refine ot rfl rfl (t_lit [] Try.runUnderlying35 Try.sizeOf3 Try.zeroValue3 rfl (by decide) (by decide) rfl (by simp [Value.cells, boxP])) ?_
   rintro v15 _ ⟨rfl, _⟩
   refine ops_turn (retell 1 (g := row v15 1 (([] : List Int).map (eInt .i64))) rfl rfl) ?_
   refine oy rfl rfl (y_move rfl) ?_
   refine oy rfl rfl (y_move rfl) ?_
   obtain ⟨x16, hzx16, hlx16, hxx16, h⟩ := idx_some h
   refine oy rfl rfl (y_indexAddrN (kd := .i64) (i := (n_7.tmod 3)) 0 Try.runUnderlying56 Try.sizeOf35 rfl rfl rfl readsN_row hzx16 hlx16) ?_
   refine ot rfl rfl (t_loadNf (C := NC_L_int_35) (i := ((n_7.tmod 3)).toNat) (j := 0) 0 (fun γ => γ) Try.isAgg35 rfl rfl hxx16 (fun _ => rfl)) ?_
   rintro _ _ ⟨g17, rfl, rfl⟩
   obtain ⟨hr19, h⟩ := need_some h
   refine ot rfl rfl (t_append (es := 1) 1 rfl Try.runUnderlying35 rfl Try.runUnderlying35 (.inr ⟨_, rfl⟩) Try.typeInfo3 rfl (by decide) Try.zeroValue3 rfl rfl rfl rfl (src_reads 2 rfl reads_ro (map_ok (eInt_ok _) _)) (map_room hr19 (by decide)) (map_fit hr19)) ?_
   rintro v18 _ rfl
   refine ops_turn (retell 1 (g := row v18 1 ((([] : List Int) ++ x16).map (eInt .i64))) rfl (congrArg (row _ _) List.map_append.symm)) ?_
   refine oy rfl rfl (y_move rfl) ?_
   refine ot rfl rfl (t_lit [.int .i64 i_8] Try.runUnderlying35 Try.sizeOf3 Try.zeroValue3 rfl (by decide) (by decide) rfl (by simp [Value.cells, boxP])) ?_
   rintro v20 _ ⟨rfl, _⟩
   refine ops_turn (retell 3 (g := row v20 1 (([i_8] : List Int).map (eInt .i64))) rfl rfl) ?_
   obtain ⟨hr22, h⟩ := need_some h
   refine ot rfl rfl (t_append (es := 1) 1 rfl Try.runUnderlying35 rfl Try.runUnderlying35 (.inr ⟨_, rfl⟩) Try.typeInfo3 rfl (by decide) Try.zeroValue3 rfl rfl rfl rfl (src_reads 3 rfl reads_row (map_ok (eInt_ok _) _)) (map_room hr22 (by decide)) (map_fit hr22)) ?_
   rintro v21 _ rfl
   refine ops_turn (retell 1 (g := row v21 1 (((([] : List Int) ++ x16) ++ ([i_8] : List Int)).map (eInt .i64))) rfl (congrArg (row _ _) List.map_append.symm)) ?_
   refine ops_weak [(0, .int .i64 n_7), (3, v1), (4, .int .i64 i_8), (13, v1), (14, .int .i64 (n_7.tmod 3)), (23, v21)] [0, 1] [nrow v1 NC_L_int_35 x_9, row v21 1 (((([] : List Int) ++ x16) ++ ([i_8] : List Int)).map (eInt .i64))] (qv6 rfl rfl rfl rfl rfl rfl) (by decide) rfl ?_
   refine oy rfl rfl (y_indexAddrN (kd := .i64) (i := (n_7.tmod 3)) 0 Try.runUnderlying56 Try.sizeOf35 rfl rfl rfl readsN_row hzx16 hlx16) ?_
   refine ops_turn (Go.Abs.freeze 1 rfl) ?_
   refine ops_slc 1 rfl reads_ro (fun hs23 hs23o => ?_)
   refine ot rfl rfl (t_storeN (C := NC_L_int_35) (i := ((n_7.tmod 3)).toNat) (b := ((([] : List Int) ++ x16) ++ ([i_8] : List Int))) (gb := v21) 0 Try.sizeOf35 rfl rfl (by rw [hs23]; rfl) rfl hxx16 (has_cons 1 rfl has_nil)) ?_
   rintro _ _ ⟨rfl, rfl⟩
   refine ops_nil ?_
   refine goes_code ?_
   refine run_region' ?_
   refine oy rfl rfl (y_move rfl) ?_
   refine oy rfl rfl (y_quo rfl rfl (by decide)) ?_
   refine oy rfl rfl (y_assign rfl) ?_
   refine ops_nil ?_
   refine goes_blk ?_
   refine goes_code ?_
   refine run_region' ?_
   refine oy rfl rfl (y_move rfl) ?_
   refine oy rfl rfl (y_add rfl rfl) ?_
   refine oy rfl rfl (y_assign rfl) ?_
   refine ops_nil ?_
   obtain rfl := some_eq h
   exact goes_iter hgo11 ((IntKind.i64.wrap (n_7.tdiv 3)), (IntKind.i64.wrap (i_8 + 1)), (x_9.set (((n_7.tmod 3)).toNat) ((([] : List Int) ++ x16) ++ ([i_8] : List Int)))) () [0] rfl (qv3 rfl rfl rfl) (by decide) rfl
  ·replace h := cond_f h hc14
   refine run_exit _ rfl ?_
   obtain rfl := some_eq h
   obtain rfl := hstop12 _ rfl
   exact goes_cut hL5 (x_9, ()) [0] (qv1 rfl) (by decide) rfl rfl
 rintro ⟨x_2, _⟩ hj
 obtain rfl : o3 = _ := hj
 replace h := after_go ho4
 clear ho4
 change Run _ _ _ (VF.of [(3, v1)]) [nrow v1 NC_L_int_35 x_2]
 refine run_seq ?_
 refine run_region' ?_
 refine oy rfl rfl (y_move rfl) ?_
 refine oy rfl rfl (y_assign rfl) ?_
 refine ops_nil ?_
 refine goes_code ?_
 refine run_ret ?_
 obtain rfl := some_eq h
 refine fin_slots [2] [v1] [0] [nrow v1 NC_L_int_35 x_2] Try.results49 rfl (by decide) rfl ?_
 exact ⟨_, rfl, rfl⟩

def law42_change (w_0 : S_law42_World) (f_1 : S_api_Fleet) (e_2 : Int) : Option (S_law42_World) :=
 bindJ (S := Int × Int × Int × Bool × (List (List Int)) × (List S_api_Order))
  (cond (decide (e_2 = 0))
   (some (.go (f_1.Base, f_1.Done, f_1.Serial, f_1.Stopped, f_1.Stages, f_1.Orders)))
   (some (.go (w_0.F.Base, w_0.F.Done, w_0.F.Serial, w_0.F.Stopped, w_0.F.Stages, w_0.F.Orders))))
 (fun (x_4, x_5, x_6, x_7, x_8, x_9) =>
  some (S_law42_World.mk (S_api_Fleet.mk x_4 x_5 x_6 x_7 x_8 x_9) w_0.Nodes w_0.Sent w_0.Told (w_0.Bad || (decide (e_2 ≠ 0) && decide (e_2 ≠ 4)))))
theorem law42_change_ok (w_0 : S_law42_World) (f_1 : S_api_Fleet) (e_2 : Int) (w_0_F_Stagesv : Value) (w_0_F_Ordersv : Value) (w_0_Sentv : Value) (w_0_Toldv : Value) (f_1_Stagesv : Value) (f_1_Ordersv : Value) {r : S_law42_World} (h : law42_change w_0 f_1 e_2 = some r) :
  Meets Try.prog 50 [.agg #[.int .i64 w_0.F.Base, .int .i64 w_0.F.Done, .int .i64 w_0.F.Serial, .bool w_0.F.Stopped, w_0_F_Stagesv, w_0_F_Ordersv, .int .i64 w_0.Nodes.a0_.Site, .int .i64 w_0.Nodes.a0_.Version, .int .i64 w_0.Nodes.a0_.Serial, .int .i64 w_0.Nodes.a1_.Site, .int .i64 w_0.Nodes.a1_.Version, .int .i64 w_0.Nodes.a1_.Serial, .int .i64 w_0.Nodes.a2_.Site, .int .i64 w_0.Nodes.a2_.Version, .int .i64 w_0.Nodes.a2_.Serial, .int .i64 w_0.Nodes.a3_.Site, .int .i64 w_0.Nodes.a3_.Version, .int .i64 w_0.Nodes.a3_.Serial, w_0_Sentv, w_0_Toldv, .bool w_0.Bad], .agg #[.int .i64 f_1.Base, .int .i64 f_1.Done, .int .i64 f_1.Serial, .bool f_1.Stopped, f_1_Stagesv, f_1_Ordersv], .int .i64 e_2] [nro w_0_F_Stagesv NC_L_int_35 w_0.F.Stages, ro w_0_F_Ordersv 4 (w_0.F.Orders.map S_api_Order.enc), ro w_0_Sentv 3 (w_0.Sent.map S_api_Node.enc), ro w_0_Toldv 3 (w_0.Told.map S_api_Node.enc), nro f_1_Stagesv NC_L_int_35 f_1.Stages, ro f_1_Ordersv 4 (f_1.Orders.map S_api_Order.enc)] (fun v G => ∃ v0 v1 v2 v3, v = .agg #[.int .i64 r.F.Base, .int .i64 r.F.Done, .int .i64 r.F.Serial, .bool r.F.Stopped, v0, v1, .int .i64 r.Nodes.a0_.Site, .int .i64 r.Nodes.a0_.Version, .int .i64 r.Nodes.a0_.Serial, .int .i64 r.Nodes.a1_.Site, .int .i64 r.Nodes.a1_.Version, .int .i64 r.Nodes.a1_.Serial, .int .i64 r.Nodes.a2_.Site, .int .i64 r.Nodes.a2_.Version, .int .i64 r.Nodes.a2_.Serial, .int .i64 r.Nodes.a3_.Site, .int .i64 r.Nodes.a3_.Version, .int .i64 r.Nodes.a3_.Serial, v2, v3, .bool r.Bad] ∧ G = [nro v0 NC_L_int_35 r.F.Stages, ro v1 4 (r.F.Orders.map S_api_Order.enc), ro v2 3 (r.Sent.map S_api_Node.enc), ro v3 3 (r.Told.map S_api_Node.enc)]) := by
 refine fn_of_run Try.func50 rfl Try.ntmps50 rfl (fun w0 o0 => ?_)
 refine run_seq ?_
 refine run_region' ?_
 refine ot rfl rfl (t_box rfl) ?_
 rintro _ _ ⟨b1, rfl, rfl⟩
 refine ot rfl rfl (t_box rfl) ?_
 rintro _ _ ⟨b2, rfl, rfl⟩
 refine ot rfl rfl (t_alloc Try.zeroValue65) ?_
 rintro _ _ ⟨b3, rfl, rfl⟩
 refine ops_nil ?_
 refine goes_code ?_
 obtain ⟨o12, h, ho13⟩ := bindJ_some h
 refine run_cut ((Int × Int × Int × Bool × (List (List Int)) × (List S_api_Order)) × (Value × Value)) (fun σ => [(2, .int .i64 e_2), (3, boxP b1 0), (6, boxP b3 0)]) (fun σ => [box b1 [.int .i64 σ.1.1, .int .i64 σ.1.2.1, .int .i64 σ.1.2.2.1, .bool σ.1.2.2.2.1, σ.2.1, σ.2.2, .int .i64 w_0.Nodes.a0_.Site, .int .i64 w_0.Nodes.a0_.Version, .int .i64 w_0.Nodes.a0_.Serial, .int .i64 w_0.Nodes.a1_.Site, .int .i64 w_0.Nodes.a1_.Version, .int .i64 w_0.Nodes.a1_.Serial, .int .i64 w_0.Nodes.a2_.Site, .int .i64 w_0.Nodes.a2_.Version, .int .i64 w_0.Nodes.a2_.Serial, .int .i64 w_0.Nodes.a3_.Site, .int .i64 w_0.Nodes.a3_.Version, .int .i64 w_0.Nodes.a3_.Serial, w_0_Sentv, w_0_Toldv, .bool w_0.Bad], nro σ.2.1 NC_L_int_35 σ.1.2.2.2.2.1, ro σ.2.2 4 (σ.1.2.2.2.2.2.map S_api_Order.enc), ro w_0_Sentv 3 (w_0.Sent.map S_api_Node.enc), ro w_0_Toldv 3 (w_0.Told.map S_api_Node.enc), box b3 [.int .i64 0, .int .i64 0, .int .i64 0, .bool false, .slice none 0 0, .slice none 0 0, .int .i64 0, .int .i64 0, .int .i64 0, .int .i64 0, .int .i64 0, .int .i64 0, .int .i64 0, .int .i64 0, .int .i64 0, .int .i64 0, .int .i64 0, .int .i64 0, .slice none 0 0, .slice none 0 0, .bool false]]) (fun σ => o12 = .go σ.1) (fun L15 hL14 => ?_) ?_
 ·
  refine run_seq ?_
  refine run_region' ?_
  refine oy rfl rfl (y_move rfl) ?_
  refine oy rfl rfl (y_eql rfl rfl) ?_
  refine ops_nil ?_
  refine goes_code ?_
  refine run_cond (decide (e_2 = 0)) rfl (fun hc16 => ?_) (fun hc16 => ?_)
  ·replace h := cond_t h hc16
   refine run_region' ?_
   refine oy rfl rfl (y_load_boxagg (c := [.int .i64 f_1.Base, .int .i64 f_1.Done, .int .i64 f_1.Serial, .bool f_1.Stopped, f_1_Stagesv, f_1_Ordersv]) 7 Try.isAgg59 Try.sizeOf59 rfl rfl rfl) ?_
   refine oy rfl rfl (y_fieldAddr_box (sz := 5) Try.runUnderlying65 rfl Try.sizeOf59 rfl) ?_
   refine ops_slcN 4 rfl readsN_ro (fun hs17 hs17o => ?_)
   refine ops_slc 5 rfl reads_ro (fun hs18 hs18o => ?_)
   refine ot rfl rfl (t_store 6 Try.sizeOf59 rfl rfl rfl rfl (by simp [Value.cells, boxP]) (allL_cons rfl (allL_cons rfl (allL_cons rfl (allL_cons rfl (allL_cons hs17o (allL_cons hs18o (allL_nil)))))))) ?_
   rintro _ _ ⟨rfl, rfl⟩
   refine ops_turn (retell 6 (g := box b1 [.int .i64 f_1.Base, .int .i64 f_1.Done, .int .i64 f_1.Serial, .bool f_1.Stopped, f_1_Stagesv, f_1_Ordersv, .int .i64 w_0.Nodes.a0_.Site, .int .i64 w_0.Nodes.a0_.Version, .int .i64 w_0.Nodes.a0_.Serial, .int .i64 w_0.Nodes.a1_.Site, .int .i64 w_0.Nodes.a1_.Version, .int .i64 w_0.Nodes.a1_.Serial, .int .i64 w_0.Nodes.a2_.Site, .int .i64 w_0.Nodes.a2_.Version, .int .i64 w_0.Nodes.a2_.Serial, .int .i64 w_0.Nodes.a3_.Site, .int .i64 w_0.Nodes.a3_.Version, .int .i64 w_0.Nodes.a3_.Serial, w_0_Sentv, w_0_Toldv, .bool w_0.Bad]) rfl (by kernel_rfl)) ?_
   refine ops_nil ?_
   obtain rfl := some_eq h
   exact goes_cut hL14 ((f_1.Base, f_1.Done, f_1.Serial, f_1.Stopped, f_1.Stages, f_1.Orders), (f_1_Stagesv, f_1_Ordersv)) [6, 4, 5, 2, 3, 8] (qv3 rfl rfl rfl) (by decide) rfl rfl
  ·replace h := cond_f h hc16
   refine run_skip ?_
   obtain rfl := some_eq h
   exact goes_cut hL14 ((w_0.F.Base, w_0.F.Done, w_0.F.Serial, w_0.F.Stopped, w_0.F.Stages, w_0.F.Orders), (w_0_F_Stagesv, w_0_F_Ordersv)) [6, 0, 1, 2, 3, 8] (qv3 rfl rfl rfl) (by decide) rfl rfl
 rintro ⟨⟨x_4, x_5, x_6, x_7, x_8, x_9⟩, ⟨v10, v11⟩⟩ hj
 obtain rfl : o12 = _ := hj
 replace h := after_go ho13
 clear ho13
 change Run _ _ _ (VF.of [(2, .int .i64 e_2), (3, boxP b1 0), (6, boxP b3 0)]) [box b1 [.int .i64 x_4, .int .i64 x_5, .int .i64 x_6, .bool x_7, v10, v11, .int .i64 w_0.Nodes.a0_.Site, .int .i64 w_0.Nodes.a0_.Version, .int .i64 w_0.Nodes.a0_.Serial, .int .i64 w_0.Nodes.a1_.Site, .int .i64 w_0.Nodes.a1_.Version, .int .i64 w_0.Nodes.a1_.Serial, .int .i64 w_0.Nodes.a2_.Site, .int .i64 w_0.Nodes.a2_.Version, .int .i64 w_0.Nodes.a2_.Serial, .int .i64 w_0.Nodes.a3_.Site, .int .i64 w_0.Nodes.a3_.Version, .int .i64 w_0.Nodes.a3_.Serial, w_0_Sentv, w_0_Toldv, .bool w_0.Bad], nro v10 NC_L_int_35 x_8, ro v11 4 (x_9.map S_api_Order.enc), ro w_0_Sentv 3 (w_0.Sent.map S_api_Node.enc), ro w_0_Toldv 3 (w_0.Told.map S_api_Node.enc), box b3 [.int .i64 0, .int .i64 0, .int .i64 0, .bool false, .slice none 0 0, .slice none 0 0, .int .i64 0, .int .i64 0, .int .i64 0, .int .i64 0, .int .i64 0, .int .i64 0, .int .i64 0, .int .i64 0, .int .i64 0, .int .i64 0, .int .i64 0, .int .i64 0, .slice none 0 0, .slice none 0 0, .bool false]]
 refine run_seq ?_
 refine run_region' ?_
 refine oy rfl rfl (y_fieldAddr_box (sz := 0) Try.runUnderlying65 rfl Try.sizeOf4 rfl) ?_
 refine oy rfl rfl (y_load_box 0 Try.isAgg4 rfl rfl rfl) ?_
 refine oy rfl rfl (y_move rfl) ?_
 refine ops_cut 7 (Bool) (fun σ => [(3, boxP b1 0), (6, boxP b3 0), (20, .bool σ)]) (fun σ => [box b1 [.int .i64 x_4, .int .i64 x_5, .int .i64 x_6, .bool x_7, v10, v11, .int .i64 w_0.Nodes.a0_.Site, .int .i64 w_0.Nodes.a0_.Version, .int .i64 w_0.Nodes.a0_.Serial, .int .i64 w_0.Nodes.a1_.Site, .int .i64 w_0.Nodes.a1_.Version, .int .i64 w_0.Nodes.a1_.Serial, .int .i64 w_0.Nodes.a2_.Site, .int .i64 w_0.Nodes.a2_.Version, .int .i64 w_0.Nodes.a2_.Serial, .int .i64 w_0.Nodes.a3_.Site, .int .i64 w_0.Nodes.a3_.Version, .int .i64 w_0.Nodes.a3_.Serial, w_0_Sentv, w_0_Toldv, .bool w_0.Bad], nro v10 NC_L_int_35 x_8, ro v11 4 (x_9.map S_api_Order.enc), ro w_0_Sentv 3 (w_0.Sent.map S_api_Node.enc), ro w_0_Toldv 3 (w_0.Told.map S_api_Node.enc), box b3 [.int .i64 0, .int .i64 0, .int .i64 0, .bool false, .slice none 0 0, .slice none 0 0, .int .i64 0, .int .i64 0, .int .i64 0, .int .i64 0, .int .i64 0, .int .i64 0, .int .i64 0, .int .i64 0, .int .i64 0, .int .i64 0, .int .i64 0, .int .i64 0, .slice none 0 0, .slice none 0 0, .bool false]]) (fun σ => σ = (w_0.Bad || (decide (e_2 ≠ 0) && decide (e_2 ≠ 4)))) (fun L19 hL20 => ?_) ?_
 ·refine ops_split 13 w_0.Bad rfl (fun hg21 => ?_) (fun hg21 => ?_)
  ·skip
   refine ops_no 2 false 13 rfl rfl rfl rfl rfl ?_
   refine ops_no 2 false 13 rfl rfl rfl rfl rfl ?_
   refine ops_no 2 false 13 rfl rfl rfl rfl rfl ?_
   refine ops_un 5 true 16 rfl rfl rfl rfl rfl ?_
   refine ops_un 5 true 16 rfl rfl rfl rfl rfl ?_
   refine ops_no 2 false 13 rfl rfl rfl rfl rfl ?_
   refine oy rfl rfl (y_pick (b := true) rfl rfl) ?_
   refine ops_nil ?_
   exact goes_cut hL20 true [0, 1, 2, 3, 4, 5] (qv3 rfl rfl rfl) (by decide) rfl (by rw [hg21]; simp)
  ·skip
   refine ops_y (wg 2 false 13 rfl rfl rfl rfl) rfl (y_move rfl) ?_
   refine ops_y (wg 2 false 13 rfl rfl rfl rfl) rfl (y_neq rfl rfl) ?_
   refine ops_y (wg 2 false 13 rfl rfl rfl rfl) rfl (y_move rfl) ?_
   refine ops_cut 3 (Bool) (fun σ => [(3, boxP b1 0), (6, boxP b3 0), (13, .bool false), (19, .bool σ)]) (fun σ => [box b1 [.int .i64 x_4, .int .i64 x_5, .int .i64 x_6, .bool x_7, v10, v11, .int .i64 w_0.Nodes.a0_.Site, .int .i64 w_0.Nodes.a0_.Version, .int .i64 w_0.Nodes.a0_.Serial, .int .i64 w_0.Nodes.a1_.Site, .int .i64 w_0.Nodes.a1_.Version, .int .i64 w_0.Nodes.a1_.Serial, .int .i64 w_0.Nodes.a2_.Site, .int .i64 w_0.Nodes.a2_.Version, .int .i64 w_0.Nodes.a2_.Serial, .int .i64 w_0.Nodes.a3_.Site, .int .i64 w_0.Nodes.a3_.Version, .int .i64 w_0.Nodes.a3_.Serial, w_0_Sentv, w_0_Toldv, .bool w_0.Bad], nro v10 NC_L_int_35 x_8, ro v11 4 (x_9.map S_api_Order.enc), ro w_0_Sentv 3 (w_0.Sent.map S_api_Node.enc), ro w_0_Toldv 3 (w_0.Told.map S_api_Node.enc), box b3 [.int .i64 0, .int .i64 0, .int .i64 0, .bool false, .slice none 0 0, .slice none 0 0, .int .i64 0, .int .i64 0, .int .i64 0, .int .i64 0, .int .i64 0, .int .i64 0, .int .i64 0, .int .i64 0, .int .i64 0, .int .i64 0, .int .i64 0, .int .i64 0, .slice none 0 0, .slice none 0 0, .bool false]]) (fun σ => σ = (decide (e_2 ≠ 0) && decide (e_2 ≠ 4))) (fun L22 hL23 => ?_) ?_
   ·refine ops_split 16 (decide (e_2 ≠ 0)) rfl (fun hg24 => ?_) (fun hg24 => ?_)
    ·skip
     refine ops_y (wg 5 true 16 rfl rfl rfl rfl) rfl (y_move rfl) ?_
     refine ops_y (wg 5 true 16 rfl rfl rfl rfl) rfl (y_neq rfl rfl) ?_
     refine ops_y (wg 2 false 13 rfl rfl rfl rfl) rfl (y_pick (b := true) rfl rfl) ?_
     refine ops_nil ?_
     exact goes_cut hL23 (decide (e_2 ≠ 4)) [0, 1, 2, 3, 4, 5] (qv4 rfl rfl rfl rfl) (by decide) rfl (by rw [hg24]; simp)
    ·skip
     refine ops_no 5 true 16 rfl rfl rfl rfl rfl ?_
     refine ops_no 5 true 16 rfl rfl rfl rfl rfl ?_
     refine ops_y (wg 2 false 13 rfl rfl rfl rfl) rfl (y_pick (b := false) rfl rfl) ?_
     refine ops_nil ?_
     exact goes_cut hL23 false [0, 1, 2, 3, 4, 5] (qv4 rfl rfl rfl rfl) (by decide) rfl (by rw [hg24]; simp)
   rintro _ rfl
   refine oy rfl rfl (y_pick (b := false) rfl rfl) ?_
   refine ops_nil ?_
   exact goes_cut hL20 (decide (e_2 ≠ 0) && decide (e_2 ≠ 4)) [0, 1, 2, 3, 4, 5] (qv3 rfl rfl rfl) (by decide) rfl (by rw [hg21]; simp)
 rintro _ rfl
 refine oy rfl rfl (y_fieldAddr_box (sz := 0) Try.runUnderlying65 rfl Try.sizeOf4 rfl) ?_
 refine ot rfl rfl (t_store 0 Try.sizeOf4 rfl rfl rfl rfl (by simp [Value.cells, boxP]) (by simp [Value.cells, Value.oneCell', boxP])) ?_
 rintro _ _ ⟨rfl, rfl⟩
 refine ops_turn (retell 0 (g := box b1 [.int .i64 x_4, .int .i64 x_5, .int .i64 x_6, .bool x_7, v10, v11, .int .i64 w_0.Nodes.a0_.Site, .int .i64 w_0.Nodes.a0_.Version, .int .i64 w_0.Nodes.a0_.Serial, .int .i64 w_0.Nodes.a1_.Site, .int .i64 w_0.Nodes.a1_.Version, .int .i64 w_0.Nodes.a1_.Serial, .int .i64 w_0.Nodes.a2_.Site, .int .i64 w_0.Nodes.a2_.Version, .int .i64 w_0.Nodes.a2_.Serial, .int .i64 w_0.Nodes.a3_.Site, .int .i64 w_0.Nodes.a3_.Version, .int .i64 w_0.Nodes.a3_.Serial, w_0_Sentv, w_0_Toldv, .bool (w_0.Bad || (decide (e_2 ≠ 0) && decide (e_2 ≠ 4)))]) rfl (by kernel_rfl)) ?_
 refine ops_nil ?_
 refine goes_code ?_
 refine run_seq ?_
 refine run_region' ?_
 refine oy rfl rfl (y_load_boxagg (c := [.int .i64 x_4, .int .i64 x_5, .int .i64 x_6, .bool x_7, v10, v11, .int .i64 w_0.Nodes.a0_.Site, .int .i64 w_0.Nodes.a0_.Version, .int .i64 w_0.Nodes.a0_.Serial, .int .i64 w_0.Nodes.a1_.Site, .int .i64 w_0.Nodes.a1_.Version, .int .i64 w_0.Nodes.a1_.Serial, .int .i64 w_0.Nodes.a2_.Site, .int .i64 w_0.Nodes.a2_.Version, .int .i64 w_0.Nodes.a2_.Serial, .int .i64 w_0.Nodes.a3_.Site, .int .i64 w_0.Nodes.a3_.Version, .int .i64 w_0.Nodes.a3_.Serial, w_0_Sentv, w_0_Toldv, .bool (w_0.Bad || (decide (e_2 ≠ 0) && decide (e_2 ≠ 4)))]) 0 Try.isAgg65 Try.sizeOf65 rfl rfl rfl) ?_
 refine ops_slcN 1 rfl readsN_ro (fun hs25 hs25o => ?_)
 refine ops_slc 2 rfl reads_ro (fun hs26 hs26o => ?_)
 refine ops_slc 3 rfl reads_ro (fun hs27 hs27o => ?_)
 refine ops_slc 4 rfl reads_ro (fun hs28 hs28o => ?_)
 refine ot rfl rfl (t_store 5 Try.sizeOf65 rfl rfl rfl rfl (by simp [Value.cells, boxP]) (allL_cons rfl (allL_cons rfl (allL_cons rfl (allL_cons rfl (allL_cons hs25o (allL_cons hs26o (allL_cons rfl (allL_cons rfl (allL_cons rfl (allL_cons rfl (allL_cons rfl (allL_cons rfl (allL_cons rfl (allL_cons rfl (allL_cons rfl (allL_cons rfl (allL_cons rfl (allL_cons rfl (allL_cons hs27o (allL_cons hs28o (allL_cons rfl (allL_nil))))))))))))))))))))))) ?_
 rintro _ _ ⟨rfl, rfl⟩
 refine ops_turn (retell 5 (g := box b3 [.int .i64 x_4, .int .i64 x_5, .int .i64 x_6, .bool x_7, v10, v11, .int .i64 w_0.Nodes.a0_.Site, .int .i64 w_0.Nodes.a0_.Version, .int .i64 w_0.Nodes.a0_.Serial, .int .i64 w_0.Nodes.a1_.Site, .int .i64 w_0.Nodes.a1_.Version, .int .i64 w_0.Nodes.a1_.Serial, .int .i64 w_0.Nodes.a2_.Site, .int .i64 w_0.Nodes.a2_.Version, .int .i64 w_0.Nodes.a2_.Serial, .int .i64 w_0.Nodes.a3_.Site, .int .i64 w_0.Nodes.a3_.Version, .int .i64 w_0.Nodes.a3_.Serial, w_0_Sentv, w_0_Toldv, .bool (w_0.Bad || (decide (e_2 ≠ 0) && decide (e_2 ≠ 4)))]) rfl (by kernel_rfl)) ?_
 refine ops_nil ?_
 refine goes_code ?_
 refine run_ret ?_
 obtain rfl := some_eq h
 refine fin_res [.cell 6 65] [.agg #[.int .i64 x_4, .int .i64 x_5, .int .i64 x_6, .bool x_7, v10, v11, .int .i64 w_0.Nodes.a0_.Site, .int .i64 w_0.Nodes.a0_.Version, .int .i64 w_0.Nodes.a0_.Serial, .int .i64 w_0.Nodes.a1_.Site, .int .i64 w_0.Nodes.a1_.Version, .int .i64 w_0.Nodes.a1_.Serial, .int .i64 w_0.Nodes.a2_.Site, .int .i64 w_0.Nodes.a2_.Version, .int .i64 w_0.Nodes.a2_.Serial, .int .i64 w_0.Nodes.a3_.Site, .int .i64 w_0.Nodes.a3_.Version, .int .i64 w_0.Nodes.a3_.Serial, w_0_Sentv, w_0_Toldv, .bool (w_0.Bad || (decide (e_2 ≠ 0) && decide (e_2 ≠ 4)))]] [1, 2, 3, 4] [nro v10 NC_L_int_35 x_8, ro v11 4 (x_9.map S_api_Order.enc), ro w_0_Sentv 3 (w_0.Sent.map S_api_Node.enc), ro w_0_Toldv 3 (w_0.Told.map S_api_Node.enc)] Try.results50 rfl (rescons (res_box 5 Try.isAgg65 Try.sizeOf65 rfl rfl rfl) resnil) (by decide) rfl ?_
 exact ⟨_, _, _, _, rfl, rfl⟩

def topo_Stop_1_53 (f_0 : S_api_Fleet) (a_1 : Bool) : Option (Int × S_api_Fleet) :=
 some (0, (S_api_Fleet.mk f_0.Base f_0.Done f_0.Serial a_1 f_0.Stages f_0.Orders))
theorem topo_Stop_1_53_ok (f_0 : S_api_Fleet) (a_1 : Bool) (f_0b : Nat) (f_0_Stagesv : Value) (f_0_Ordersv : Value) (a_1b : Nat) {r : Int × S_api_Fleet} (h : topo_Stop_1_53 f_0 a_1 = some r) :
  Meets Try.prog 53 [boxP f_0b 0, boxP a_1b 0] [nro f_0_Stagesv NC_L_int_35 f_0.Stages, row f_0_Ordersv 4 (f_0.Orders.map S_api_Order.enc), box f_0b [.int .i64 f_0.Base, .int .i64 f_0.Done, .int .i64 f_0.Serial, .bool f_0.Stopped, f_0_Stagesv, f_0_Ordersv], box a_1b [.bool a_1]] (fun v G => ∃ v0 v1, v = .int .i64 r.1 ∧ G = [nro v0 NC_L_int_35 r.2.Stages, row v1 4 (r.2.Orders.map S_api_Order.enc), box f_0b [.int .i64 r.2.Base, .int .i64 r.2.Done, .int .i64 r.2.Serial, .bool r.2.Stopped, v0, v1], box a_1b [.bool a_1]]) := by
 refine fn_of_run Try.func53 rfl Try.ntmps53 rfl (fun w0 o0 => ?_)
 refine run_seq ?_
 refine run_region' ?_
 refine oy rfl rfl (y_assign rfl) ?_
 refine ops_nil ?_
 refine goes_code ?_
 refine run_seq ?_
 refine run_region' ?_
 refine oy rfl rfl (y_move rfl) ?_
 refine oy rfl rfl (y_load_box 3 Try.isAgg4 rfl rfl rfl) ?_
 refine oy rfl rfl (y_nilBox rfl) ?_
 refine oy rfl rfl (y_fieldAddr_box (sz := 0) Try.runUnderlying59 rfl Try.sizeOf4 rfl) ?_
 refine ot rfl rfl (t_store 2 Try.sizeOf4 rfl rfl rfl rfl (by simp [Value.cells, boxP]) (by simp [Value.cells, Value.oneCell', boxP])) ?_
 rintro _ _ ⟨rfl, rfl⟩
 refine ops_turn (retell 2 (g := box f_0b [.int .i64 f_0.Base, .int .i64 f_0.Done, .int .i64 f_0.Serial, .bool a_1, f_0_Stagesv, f_0_Ordersv]) rfl rfl) ?_
 refine ops_nil ?_
 refine goes_code ?_
 refine run_seq ?_
 refine run_region' ?_
 refine oy rfl rfl (y_assign rfl) ?_
 refine ops_nil ?_
 refine goes_code ?_
 refine run_ret ?_
 obtain rfl := some_eq h
 refine fin_slots [3] [.int .i64 0] [0, 1, 2, 3] [nro f_0_Stagesv NC_L_int_35 f_0.Stages, row f_0_Ordersv 4 (f_0.Orders.map S_api_Order.enc), box f_0b [.int .i64 f_0.Base, .int .i64 f_0.Done, .int .i64 f_0.Serial, .bool a_1, f_0_Stagesv, f_0_Ordersv], box a_1b [.bool a_1]] Try.results53 rfl (by decide) rfl ?_
 exact ⟨_, _, rfl, rfl⟩

def topo_change_v5 (n : Nat) (f_0 : S_api_Fleet) (how_1_0 : Bool) : Option (S_api_Fleet × Int) :=
 obind (topo_ValidFleet n f_0) fun r3 =>
 cond (!r3)
  (some ((S_api_Fleet.mk 0 0 0 false ([] : List (List Int)) ([] : List S_api_Order)), 1))
  (obind (slices_Clone_weirgate_api_Order_weirgate_api_Order_71 f_0.Orders) fun r6 =>
  obind (topo_Stop_1_53 (S_api_Fleet.mk f_0.Base f_0.Done f_0.Serial f_0.Stopped f_0.Stages r6) how_1_0) fun r10 =>
  cond (decide (r10.1 ≠ 0))
   (some ((S_api_Fleet.mk 0 0 0 false ([] : List (List Int)) ([] : List S_api_Order)), r10.1))
   (some (r10.2, 0)))
theorem topo_change_v5_ok (n : Nat) (f_0 : S_api_Fleet) (how_1_0 : Bool) (f_0_Stagesv : Value) (f_0_Ordersv : Value) (how_1_0b : Nat) {r : S_api_Fleet × Int} (h : topo_change_v5 n f_0 how_1_0 = some r) :
  Meets Try.prog 52 [.agg #[.int .i64 f_0.Base, .int .i64 f_0.Done, .int .i64 f_0.Serial, .bool f_0.Stopped, f_0_Stagesv, f_0_Ordersv], .func (.func 53) #[] #[boxP how_1_0b 0]] [nro f_0_Stagesv NC_L_int_35 f_0.Stages, ro f_0_Ordersv 4 (f_0.Orders.map S_api_Order.enc), box how_1_0b [.bool how_1_0]] (fun v G => ∃ v0 v1, v = .tuple #[.agg #[.int .i64 r.1.Base, .int .i64 r.1.Done, .int .i64 r.1.Serial, .bool r.1.Stopped, v0, v1], .int .i64 r.2] ∧ G = [nro v0 NC_L_int_35 r.1.Stages, row v1 4 (r.1.Orders.map S_api_Order.enc), box how_1_0b [.bool how_1_0]]) := by
 refine fn_of_run Try.func52 rfl Try.ntmps52 rfl (fun w0 o0 => ?_)
 refine run_seq ?_
 refine run_region' ?_
 refine ot rfl rfl (t_box rfl) ?_
 rintro _ _ ⟨b1, rfl, rfl⟩
 refine ot rfl rfl (t_alloc Try.zeroValue59) ?_
 rintro _ _ ⟨b2, rfl, rfl⟩
 refine oy rfl rfl (y_assign rfl) ?_
 refine ops_nil ?_
 refine goes_code ?_
 refine run_seq ?_
 refine run_seq ?_
 refine run_region' ?_
 refine oy rfl rfl (y_load_boxagg (c := [.int .i64 f_0.Base, .int .i64 f_0.Done, .int .i64 f_0.Serial, .bool f_0.Stopped, f_0_Stagesv, f_0_Ordersv]) 3 Try.isAgg59 Try.sizeOf59 rfl rfl rfl) ?_
 obtain ⟨r3, hr4, h⟩ := obind_some h
 refine ot rfl rfl (t_callx (vs := [.agg #[.int .i64 f_0.Base, .int .i64 f_0.Done, .int .i64 f_0.Serial, .bool f_0.Stopped, f_0_Stagesv, f_0_Ordersv]]) (cs := []) [(0, 0), (1, 0)] rfl Try.call51 rfl (topo_ValidFleet_ok n f_0 f_0_Stagesv f_0_Ordersv hr4) (showsX_view 0 rfl views_nro (showsX_view 1 rfl views_ro showsX_nil)) rfl (.inl rfl)) ?_
 rintro _ _ ⟨_, ⟨rfl, rfl⟩, rfl⟩
 refine oy rfl rfl (y_not rfl) ?_
 refine ops_nil ?_
 refine goes_code ?_
 refine run_cond (!r3) rfl (fun hc5 => ?_) (fun hc5 => ?_)
 ·replace h := cond_t h hc5
  refine run_seq ?_
  refine run_region' ?_
  refine oy rfl rfl (y_build_struct (cells := #[.int .i64 0, .int .i64 0, .int .i64 0, .bool false, .slice none 0 0, .slice none 0 0]) [] [] Try.zeroValue59 Try.runUnderlying59 (fs_cons Try.sizeOf3 (fs_cons Try.sizeOf3 (fs_cons Try.sizeOf3 (fs_cons Try.sizeOf4 (fs_cons Try.sizeOf56 (fs_cons Try.sizeOf57 fs_nil)))))) rfl rfl rfl) ?_
  refine ot rfl rfl (t_store 4 Try.sizeOf59 rfl rfl rfl rfl (by simp [Value.cells, boxP]) (by simp [Value.cells, Value.oneCell', boxP])) ?_
  rintro _ _ ⟨rfl, rfl⟩
  refine ops_turn (retell 4 (g := box b2 [.int .i64 0, .int .i64 0, .int .i64 0, .bool false, .slice none 0 0, .slice none 0 0]) rfl rfl) ?_
  refine oy rfl rfl (y_assign rfl) ?_
  refine ops_nil ?_
  refine goes_code ?_
  refine run_ret ?_
  refine fin_turn (nilroN NC_L_int_35) ?_
  refine fin_turn (nilrow 4) ?_
  refine fin_turn (retell 6 (g := row (.slice none 0 0) 4 (([] : List S_api_Order).map S_api_Order.enc)) rfl rfl) ?_
  obtain rfl := some_eq h
  refine fin_res [.cell 4 59, .tmp 5] [.agg #[.int .i64 0, .int .i64 0, .int .i64 0, .bool false, (.slice none 0 0), (.slice none 0 0)], .int .i64 1] [5, 6, 2] [nro (.slice none 0 0) NC_L_int_35 ([] : List (List Int)), row (.slice none 0 0) 4 (([] : List S_api_Order).map S_api_Order.enc), box how_1_0b [.bool how_1_0]] Try.results52 rfl (rescons (res_box 4 Try.isAgg59 Try.sizeOf59 rfl rfl rfl) (rescons (res_tmp rfl) resnil)) (by decide) rfl ?_
  exact ⟨_, _, rfl, rfl⟩
 ·replace h := cond_f h hc5
  refine run_skip ?_
  refine goes_code ?_
  refine run_seq ?_
  refine run_region' ?_
  refine oy rfl rfl (y_fieldAddr_box (sz := 0) Try.runUnderlying59 rfl Try.sizeOf57 rfl) ?_
  refine oy rfl rfl (y_load_box 3 Try.isAgg57 rfl rfl rfl) ?_
  obtain ⟨r6, hr7, h⟩ := obind_some h
  refine ot rfl rfl (t_callx (vs := [f_0_Ordersv]) (cs := []) [(1, 0)] rfl Try.call71 rfl (slices_Clone_weirgate_api_Order_weirgate_api_Order_71_ok f_0.Orders f_0_Ordersv hr7) (showsX_view 1 rfl views_ro showsX_nil) rfl (.inl rfl)) ?_
  rintro v8 _ ⟨_, ⟨_, rfl, rfl⟩, rfl⟩
  refine oy rfl rfl (y_fieldAddr_box (sz := 0) Try.runUnderlying59 rfl Try.sizeOf57 rfl) ?_
  refine ops_slc 5 rfl reads_row (fun hs9 hs9o => ?_)
  refine ot rfl rfl (t_store 3 Try.sizeOf57 rfl rfl rfl (by rw [hs9]; rfl) (by simp [Value.cells, boxP]) (by rw [hs9]; exact allL_cons hs9o (allL_nil))) ?_
  rintro _ _ ⟨rfl, rfl⟩
  refine ops_turn (retell 3 (g := box b1 [.int .i64 f_0.Base, .int .i64 f_0.Done, .int .i64 f_0.Serial, .bool f_0.Stopped, f_0_Stagesv, v8]) rfl (by rw [hs9]; rfl)) ?_
  refine ops_nil ?_
  refine goes_code ?_
  refine run_seq ?_
  refine run_seq ?_
  refine run_weak [(1, .func (.func 53) #[] #[boxP how_1_0b 0]), (2, boxP b1 0), (4, boxP b2 0)] [0, 2, 3, 4, 5] [nro f_0_Stagesv NC_L_int_35 f_0.Stages, box how_1_0b [.bool how_1_0], box b1 [.int .i64 f_0.Base, .int .i64 f_0.Done, .int .i64 f_0.Serial, .bool f_0.Stopped, f_0_Stagesv, v8], box b2 [.int .i64 0, .int .i64 0, .int .i64 0, .bool false, .slice none 0 0, .slice none 0 0], row v8 4 (r6.map S_api_Order.enc)] (qv3 rfl rfl rfl) (by decide) rfl ?_
  refine run_region' ?_
  refine oy rfl rfl (y_move rfl) ?_
  obtain ⟨r10, hr11, h⟩ := obind_some h
  refine ot rfl rfl (t_callx (vs := [boxP b1 0]) (cs := [boxP how_1_0b 0]) [(0, 0), (4, 2), (2, 2), (1, 2)] rfl Try.call53 rfl (topo_Stop_1_53_ok (S_api_Fleet.mk f_0.Base f_0.Done f_0.Serial f_0.Stopped f_0.Stages r6) how_1_0 b1 f_0_Stagesv v8 how_1_0b hr11) (showsX_view 0 rfl views_nro (showsX_lend 4 rfl (showsX_lend 2 rfl (showsX_lend 1 rfl showsX_nil)))) rfl (.inl rfl)) ?_
  rintro _ _ ⟨_, ⟨v12, v13, rfl, rfl⟩, rfl⟩
  refine oy rfl rfl (y_assign rfl) ?_
  refine ops_nil ?_
  refine goes_code ?_
  refine run_seq ?_
  refine run_region' ?_
  refine oy rfl rfl (y_move rfl) ?_
  refine oy rfl rfl (y_neq rfl rfl) ?_
  refine ops_nil ?_
  refine goes_code ?_
  refine run_cond (decide (r10.1 ≠ 0)) rfl (fun hc14 => ?_) (fun hc14 => ?_)
  ·replace h := cond_t h hc14
   refine run_seq ?_
   refine run_region' ?_
   refine oy rfl rfl (y_build_struct (cells := #[.int .i64 0, .int .i64 0, .int .i64 0, .bool false, .slice none 0 0, .slice none 0 0]) [] [] Try.zeroValue59 Try.runUnderlying59 (fs_cons Try.sizeOf3 (fs_cons Try.sizeOf3 (fs_cons Try.sizeOf3 (fs_cons Try.sizeOf4 (fs_cons Try.sizeOf56 (fs_cons Try.sizeOf57 fs_nil)))))) rfl rfl rfl) ?_
   refine oy rfl rfl (y_move rfl) ?_
   refine ot rfl rfl (t_store 3 Try.sizeOf59 rfl rfl rfl rfl (by simp [Value.cells, boxP]) (by simp [Value.cells, Value.oneCell', boxP])) ?_
   rintro _ _ ⟨rfl, rfl⟩
   refine ops_turn (retell 3 (g := box b2 [.int .i64 0, .int .i64 0, .int .i64 0, .bool false, .slice none 0 0, .slice none 0 0]) rfl rfl) ?_
   refine oy rfl rfl (y_assign rfl) ?_
   refine ops_nil ?_
   refine goes_code ?_
   refine run_ret ?_
   refine fin_turn (nilroN NC_L_int_35) ?_
   refine fin_turn (nilrow 4) ?_
   refine fin_turn (retell 10 (g := row (.slice none 0 0) 4 (([] : List S_api_Order).map S_api_Order.enc)) rfl rfl) ?_
   obtain rfl := some_eq h
   refine fin_res [.cell 4 59, .tmp 5] [.agg #[.int .i64 0, .int .i64 0, .int .i64 0, .bool false, (.slice none 0 0), (.slice none 0 0)], .int .i64 r10.1] [9, 10, 8] [nro (.slice none 0 0) NC_L_int_35 ([] : List (List Int)), row (.slice none 0 0) 4 (([] : List S_api_Order).map S_api_Order.enc), box how_1_0b [.bool how_1_0]] Try.results52 rfl (rescons (res_box 3 Try.isAgg59 Try.sizeOf59 rfl rfl rfl) (rescons (res_tmp rfl) resnil)) (by decide) rfl ?_
   exact ⟨_, _, rfl, rfl⟩
  ·replace h := cond_f h hc14
   refine run_skip ?_
   refine goes_code ?_
   refine run_seq ?_
   refine run_region' ?_
   refine oy rfl rfl (y_load_boxagg (c := [.int .i64 r10.2.Base, .int .i64 r10.2.Done, .int .i64 r10.2.Serial, .bool r10.2.Stopped, v12, v13]) 7 Try.isAgg59 Try.sizeOf59 rfl rfl rfl) ?_
   refine ops_slcN 5 rfl readsN_ro (fun hs15 hs15o => ?_)
   refine ops_slc 6 rfl reads_row (fun hs16 hs16o => ?_)
   refine ot rfl rfl (t_store 3 Try.sizeOf59 rfl rfl rfl rfl (by simp [Value.cells, boxP]) (allL_cons rfl (allL_cons rfl (allL_cons rfl (allL_cons rfl (allL_cons hs15o (allL_cons hs16o (allL_nil)))))))) ?_
   rintro _ _ ⟨rfl, rfl⟩
   refine ops_turn (retell 3 (g := box b2 [.int .i64 r10.2.Base, .int .i64 r10.2.Done, .int .i64 r10.2.Serial, .bool r10.2.Stopped, v12, v13]) rfl rfl) ?_
   refine oy rfl rfl (y_assign rfl) ?_
   refine ops_nil ?_
   refine goes_code ?_
   refine run_ret ?_
   obtain rfl := some_eq h
   refine fin_res [.cell 4 59, .tmp 5] [.agg #[.int .i64 r10.2.Base, .int .i64 r10.2.Done, .int .i64 r10.2.Serial, .bool r10.2.Stopped, v12, v13], .int .i64 0] [5, 6, 8] [nro v12 NC_L_int_35 r10.2.Stages, row v13 4 (r10.2.Orders.map S_api_Order.enc), box how_1_0b [.bool how_1_0]] Try.results52 rfl (rescons (res_box 3 Try.isAgg59 Try.sizeOf59 rfl rfl rfl) (rescons (res_tmp rfl) resnil)) (by decide) rfl ?_
   exact ⟨_, _, rfl, rfl⟩

def topo_Stop (n : Nat) (f_0 : S_api_Fleet) (stopped_1 : Bool) : Option (S_api_Fleet × Int) :=
 obind (topo_change_v5 n f_0 stopped_1) fun r4 =>
 some (r4.1, r4.2)
theorem topo_Stop_ok (n : Nat) (f_0 : S_api_Fleet) (stopped_1 : Bool) (f_0_Stagesv : Value) (f_0_Ordersv : Value) {r : S_api_Fleet × Int} (h : topo_Stop n f_0 stopped_1 = some r) :
  Meets Try.prog 24 [.agg #[.int .i64 f_0.Base, .int .i64 f_0.Done, .int .i64 f_0.Serial, .bool f_0.Stopped, f_0_Stagesv, f_0_Ordersv], .bool stopped_1] [nro f_0_Stagesv NC_L_int_35 f_0.Stages, ro f_0_Ordersv 4 (f_0.Orders.map S_api_Order.enc)] (fun v G => ∃ v0 v1, v = .tuple #[.agg #[.int .i64 r.1.Base, .int .i64 r.1.Done, .int .i64 r.1.Serial, .bool r.1.Stopped, v0, v1], .int .i64 r.2] ∧ G = [nro v0 NC_L_int_35 r.1.Stages, row v1 4 (r.1.Orders.map S_api_Order.enc)]) := by
 refine fn_of_run Try.func24 rfl Try.ntmps24 rfl (fun w0 o0 => ?_)
 refine run_seq ?_
 refine run_region' ?_
 refine ot rfl rfl (t_box rfl) ?_
 rintro _ _ ⟨b1, rfl, rfl⟩
 refine ot rfl rfl (t_box rfl) ?_
 rintro _ _ ⟨b2, rfl, rfl⟩
 refine ot rfl rfl (t_alloc Try.zeroValue59) ?_
 rintro _ _ ⟨b3, rfl, rfl⟩
 refine oy rfl rfl (y_assign rfl) ?_
 refine ops_nil ?_
 refine goes_code ?_
 refine run_seq ?_
 refine run_region' ?_
 refine oy rfl rfl (y_load_boxagg (c := [.int .i64 f_0.Base, .int .i64 f_0.Done, .int .i64 f_0.Serial, .bool f_0.Stopped, f_0_Stagesv, f_0_Ordersv]) 2 Try.isAgg59 Try.sizeOf59 rfl rfl rfl) ?_
 refine oy rfl rfl (y_makeFunc (vs := [boxP b2 0]) rfl) ?_
 obtain ⟨r4, hr5, h⟩ := obind_some h
 refine ot rfl rfl (t_callx (vs := [.agg #[.int .i64 f_0.Base, .int .i64 f_0.Done, .int .i64 f_0.Serial, .bool f_0.Stopped, f_0_Stagesv, f_0_Ordersv], .func (.func 53) #[] #[boxP b2 0]]) (cs := []) [(0, 0), (1, 0), (3, 2)] rfl Try.call52 rfl (topo_change_v5_ok n f_0 stopped_1 f_0_Stagesv f_0_Ordersv b2 hr5) (showsX_view 0 rfl views_nro (showsX_view 1 rfl views_ro (showsX_lend 3 rfl showsX_nil))) rfl (.inl rfl)) ?_
 rintro _ _ ⟨_, ⟨v6, v7, rfl, rfl⟩, rfl⟩
 refine oy rfl rfl (y_extract rfl rfl) ?_
 refine oy rfl rfl (y_extract rfl rfl) ?_
 refine ops_slcN 5 rfl readsN_ro (fun hs8 hs8o => ?_)
 refine ops_slc 6 rfl reads_row (fun hs9 hs9o => ?_)
 refine ot rfl rfl (t_store 4 Try.sizeOf59 rfl rfl rfl rfl (by simp [Value.cells, boxP]) (allL_cons rfl (allL_cons rfl (allL_cons rfl (allL_cons rfl (allL_cons hs8o (allL_cons hs9o (allL_nil)))))))) ?_
 rintro _ _ ⟨rfl, rfl⟩
 refine ops_turn (retell 4 (g := box b3 [.int .i64 r4.1.Base, .int .i64 r4.1.Done, .int .i64 r4.1.Serial, .bool r4.1.Stopped, v6, v7]) rfl rfl) ?_
 refine oy rfl rfl (y_assign rfl) ?_
 refine ops_nil ?_
 refine goes_code ?_
 refine run_ret ?_
 obtain rfl := some_eq h
 refine fin_res [.cell 4 59, .tmp 5] [.agg #[.int .i64 r4.1.Base, .int .i64 r4.1.Done, .int .i64 r4.1.Serial, .bool r4.1.Stopped, v6, v7], .int .i64 r4.2] [5, 6] [nro v6 NC_L_int_35 r4.1.Stages, row v7 4 (r4.1.Orders.map S_api_Order.enc)] Try.results24 rfl (rescons (res_box 4 Try.isAgg59 Try.sizeOf59 rfl rfl rfl) (rescons (res_tmp rfl) resnil)) (by decide) rfl ?_
 exact ⟨_, _, rfl, rfl⟩

def topo_End_1_61 (n : Nat) (f_0 : S_api_Fleet) : Option (Int × S_api_Fleet) :=
 bindJ (S := Bool)
  (cond (decide ((f_0.Stages.length : Int) = 0))
   (some (.go true))
   (obind (topo_isSettled n f_0) fun r7 =>
   some (.go (!r7))))
 (fun b1 =>
  cond (b1 || (decide (0 < f_0.Done) && decide (f_0.Done < (f_0.Stages.length : Int))))
   (some (4, f_0))
   (bindJ (S := Int)
    (cond (decide (0 < f_0.Done))
     (some (.go (IntKind.i64.wrap (f_0.Base + 1))))
     (some (.go f_0.Base)))
   (fun x_16 =>
    some (0, (S_api_Fleet.mk x_16 0 f_0.Serial false ([] : List (List Int)) f_0.Orders)))))
theorem topo_End_1_61_ok (n : Nat) (f_0 : S_api_Fleet) (f_0b : Nat) (f_0_Stagesv : Value) (f_0_Ordersv : Value) {r : Int × S_api_Fleet} (h : topo_End_1_61 n f_0 = some r) :
  Meets Try.prog 61 [boxP f_0b 0] [nro f_0_Stagesv NC_L_int_35 f_0.Stages, row f_0_Ordersv 4 (f_0.Orders.map S_api_Order.enc), box f_0b [.int .i64 f_0.Base, .int .i64 f_0.Done, .int .i64 f_0.Serial, .bool f_0.Stopped, f_0_Stagesv, f_0_Ordersv]] (fun v G => ∃ v0 v1, v = .int .i64 r.1 ∧ G = [nro v0 NC_L_int_35 r.2.Stages, row v1 4 (r.2.Orders.map S_api_Order.enc), box f_0b [.int .i64 r.2.Base, .int .i64 r.2.Done, .int .i64 r.2.Serial, .bool r.2.Stopped, v0, v1]]) := by
 refine fn_of_run Try.func61 rfl Try.ntmps61 rfl (fun w0 o0 => ?_)
 refine run_seq ?_
 refine run_region' ?_
 refine oy rfl rfl (y_assign rfl) ?_
 refine ops_nil ?_
 refine goes_code ?_
 refine run_seq ?_
 refine run_seq ?_
 refine run_drawany [nro f_0_Stagesv NC_L_int_35 f_0.Stages, row f_0_Ordersv 4 (f_0.Orders.map S_api_Order.enc), box f_0b [.int .i64 f_0.Base, .int .i64 f_0.Done, .int .i64 f_0.Serial, .bool f_0.Stopped, f_0_Stagesv, f_0_Ordersv]] (by kernel_rfl) ?_
 refine any_y 0 rfl (by kernel_rfl) (by kernel_rfl) (by kernel_rfl) (ss (ss (ss (sn)))) (wn rfl) rfl (y_move rfl) ?_
 refine any_y 1 rfl (by kernel_rfl) (by kernel_rfl) (by kernel_rfl) (ss (ss (ss (sn)))) (wn rfl) rfl (y_nilBox rfl) ?_
 refine any_y 2 rfl (by kernel_rfl) (by kernel_rfl) (by kernel_rfl) (ss (ss (ss (sn)))) (wn rfl) rfl (y_fieldAddr_box (sz := 0) Try.runUnderlying59 rfl Try.sizeOf56 rfl) ?_
 refine any_y 3 rfl (by kernel_rfl) (by kernel_rfl) (by kernel_rfl) (ss (ss (ss (sn)))) (wn rfl) rfl (y_load_box 2 Try.isAgg56 rfl rfl rfl) ?_
 refine any_y 4 rfl (by kernel_rfl) (by kernel_rfl) (by kernel_rfl) (ss (ss (ss (sn)))) (wn rfl) rfl (y_lenN 0 rfl Try.runUnderlying56 rfl rfl readsN_ro) ?_
 refine any_y 5 rfl (by kernel_rfl) (by kernel_rfl) (by kernel_rfl) (ss (ss (ss (sn)))) (wn rfl) rfl (y_eql rfl rfl) ?_
 refine any_y 6 rfl (by kernel_rfl) (by kernel_rfl) (by kernel_rfl) (ss (ss (ss (sn)))) (wn rfl) rfl (y_move rfl) ?_
 obtain ⟨o2, h, ho3⟩ := bindJ_some h
 refine any_cut #[true, true, true, true, true, true, true, true, true, true, true, true, true, false, false, false, false, false, false, false, false, false, false, false, false, false, false, false, false, false, false, false] 19 Bool (fun σ => [(0, boxP f_0b 0), (15, .bool σ)]) (fun σ => [nro f_0_Stagesv NC_L_int_35 f_0.Stages, row f_0_Ordersv 4 (f_0.Orders.map S_api_Order.enc), box f_0b [.int .i64 f_0.Base, .int .i64 f_0.Done, .int .i64 f_0.Serial, .bool f_0.Stopped, f_0_Stagesv, f_0_Ordersv]]) (fun σ => o2 = .go σ) (fun hL5 => ?_) ?_
 ·refine any_split 9 (decide ((f_0.Stages.length : Int) = 0)) rfl (fun hg6 => ?_) (fun hg6 => ?_)
  ·replace h := cond_t h hg6
   refine any_no 7 rfl (by kernel_rfl) (by kernel_rfl) (by kernel_rfl) (ss (ss (ss (sn)))) 6 false 9 rfl rfl rfl rfl rfl ?_
   refine any_no 8 rfl (by kernel_rfl) (by kernel_rfl) (by kernel_rfl) (ss (ss (ss (sn)))) 6 false 9 rfl rfl rfl rfl rfl ?_
   refine any_no 9 rfl (by kernel_rfl) (by kernel_rfl) (by kernel_rfl) (ss (ss (ss (sn)))) 6 false 9 rfl rfl rfl rfl rfl ?_
   refine any_no 10 rfl (by kernel_rfl) (by kernel_rfl) (by kernel_rfl) (ss (ss (ss (sn)))) 6 false 9 rfl rfl rfl rfl rfl ?_
   refine any_no 11 rfl (by kernel_rfl) (by kernel_rfl) (by kernel_rfl) (ss (ss (ss (sn)))) 6 false 9 rfl rfl rfl rfl rfl ?_
   refine any_y 12 rfl (by kernel_rfl) (by kernel_rfl) (by kernel_rfl) (ss (ss (ss (sn)))) (wn rfl) rfl (y_pick (b := true) rfl rfl) ?_
   obtain rfl := some_eq h
   exact any_weak [(0, boxP f_0b 0), (15, .bool true)] [0, 1, 2] [nro f_0_Stagesv NC_L_int_35 f_0.Stages, row f_0_Ordersv 4 (f_0.Orders.map S_api_Order.enc), box f_0b [.int .i64 f_0.Base, .int .i64 f_0.Done, .int .i64 f_0.Serial, .bool f_0.Stopped, f_0_Stagesv, f_0_Ordersv]] (by kernel_rfl) (qv2 rfl rfl) (by decide) rfl (hL5 true rfl)
  ·replace h := cond_f h hg6
   refine any_y 7 rfl (by kernel_rfl) (by kernel_rfl) (by kernel_rfl) (ss (ss (ss (sn)))) (wg 6 false 9 rfl rfl rfl rfl) rfl (y_move rfl) ?_
   refine any_y 8 rfl (by kernel_rfl) (by kernel_rfl) (by kernel_rfl) (ss (ss (ss (sn)))) (wg 6 false 9 rfl rfl rfl rfl) rfl (y_nilBox rfl) ?_
   refine any_y 9 rfl (by kernel_rfl) (by kernel_rfl) (by kernel_rfl) (ss (ss (ss (sn)))) (wg 6 false 9 rfl rfl rfl rfl) rfl (y_load_boxagg (c := [.int .i64 f_0.Base, .int .i64 f_0.Done, .int .i64 f_0.Serial, .bool f_0.Stopped, f_0_Stagesv, f_0_Ordersv]) 2 Try.isAgg59 Try.sizeOf59 rfl rfl rfl) ?_
   refine any_all [10] (by kernel_rfl) rfl (anyo_cons ?_ anyo_nil)
   obtain ⟨r7, hr8, h⟩ := obind_some h
   refine any_t rfl (wg 6 false 9 rfl rfl rfl rfl) rfl (t_callx (vs := [.agg #[.int .i64 f_0.Base, .int .i64 f_0.Done, .int .i64 f_0.Serial, .bool f_0.Stopped, f_0_Stagesv, f_0_Ordersv]]) (cs := []) [(0, 0), (1, 1)] rfl Try.call57 rfl (topo_isSettled_ok n f_0 f_0_Stagesv f_0_Ordersv hr8) (showsX_view 0 rfl views_nro (showsX_look 1 rfl views_row showsX_nil)) rfl (.inr (by rintro _ _ ⟨rfl, rfl⟩ g hg; first | (cases hg; done) | (simp only [List.mem_cons, List.not_mem_nil, or_false] at hg; first | (subst hg; first | exact strict_row | exact strict_box) | (rcases hg with rfl | rfl <;> first | exact strict_row | exact strict_box) | (rcases hg with rfl | rfl | rfl <;> first | exact strict_row | exact strict_box))))) ?_
   rintro _ _ ⟨_, ⟨rfl, rfl⟩, rfl⟩
   refine ⟨(ss (ss (ss (sn)))), ?_⟩
   refine any_y 11 rfl (by kernel_rfl) (by kernel_rfl) (by kernel_rfl) (ss (ss (ss (sn)))) (wg 6 false 9 rfl rfl rfl rfl) rfl (y_not rfl) ?_
   refine any_y 12 rfl (by kernel_rfl) (by kernel_rfl) (by kernel_rfl) (ss (ss (ss (sn)))) (wn rfl) rfl (y_pick (b := false) rfl rfl) ?_
   obtain rfl := some_eq h
   exact any_weak [(0, boxP f_0b 0), (15, .bool (!r7))] [0, 1, 2] [nro f_0_Stagesv NC_L_int_35 f_0.Stages, row f_0_Ordersv 4 (f_0.Orders.map S_api_Order.enc), box f_0b [.int .i64 f_0.Base, .int .i64 f_0.Done, .int .i64 f_0.Serial, .bool f_0.Stopped, f_0_Stagesv, f_0_Ordersv]] (by kernel_rfl) (qv2 rfl rfl) (by decide) rfl (hL5 (!r7) rfl)
 rintro b1 hj
 obtain rfl : o2 = _ := hj
 replace h := after_go ho3
 clear ho3
 refine any_y 13 rfl (by kernel_rfl) (by kernel_rfl) (by kernel_rfl) (ss (ss (ss (sn)))) (wn rfl) rfl (y_move rfl) ?_
 refine any_cut #[true, true, true, true, true, true, true, true, true, true, true, true, true, true, true, true, true, true, true, true, true, true, true, true, true, true, true, true, true, true, true, true] 0 Bool (fun σ => [(0, boxP f_0b 0), (34, .bool σ)]) (fun σ => [nro f_0_Stagesv NC_L_int_35 f_0.Stages, row f_0_Ordersv 4 (f_0.Orders.map S_api_Order.enc), box f_0b [.int .i64 f_0.Base, .int .i64 f_0.Done, .int .i64 f_0.Serial, .bool f_0.Stopped, f_0_Stagesv, f_0_Ordersv]]) (fun σ => σ = (b1 || (decide (0 < f_0.Done) && decide (f_0.Done < (f_0.Stages.length : Int))))) (fun hL10 => ?_) ?_
 ·refine any_split 16 b1 rfl (fun hg11 => ?_) (fun hg11 => ?_)
  ·skip
   refine any_no 14 rfl (by kernel_rfl) (by kernel_rfl) (by kernel_rfl) (ss (ss (ss (sn)))) 13 false 16 rfl rfl rfl rfl rfl ?_
   refine any_no 15 rfl (by kernel_rfl) (by kernel_rfl) (by kernel_rfl) (ss (ss (ss (sn)))) 13 false 16 rfl rfl rfl rfl rfl ?_
   refine any_no 16 rfl (by kernel_rfl) (by kernel_rfl) (by kernel_rfl) (ss (ss (ss (sn)))) 13 false 16 rfl rfl rfl rfl rfl ?_
   refine any_no 17 rfl (by kernel_rfl) (by kernel_rfl) (by kernel_rfl) (ss (ss (ss (sn)))) 13 false 16 rfl rfl rfl rfl rfl ?_
   refine any_no 18 rfl (by kernel_rfl) (by kernel_rfl) (by kernel_rfl) (ss (ss (ss (sn)))) 13 false 16 rfl rfl rfl rfl rfl ?_
   refine any_no 19 rfl (by kernel_rfl) (by kernel_rfl) (by kernel_rfl) (ss (ss (ss (sn)))) 13 false 16 rfl rfl rfl rfl rfl ?_
   refine any_un 20 rfl (by kernel_rfl) (by kernel_rfl) (by kernel_rfl) (ss (ss (ss (sn)))) 19 true 22 rfl rfl rfl rfl rfl ?_
   refine any_un 21 rfl (by kernel_rfl) (by kernel_rfl) (by kernel_rfl) (ss (ss (ss (sn)))) 19 true 22 rfl rfl rfl rfl rfl ?_
   refine any_un 22 rfl (by kernel_rfl) (by kernel_rfl) (by kernel_rfl) (ss (ss (ss (sn)))) 19 true 22 rfl rfl rfl rfl rfl ?_
   refine any_un 23 rfl (by kernel_rfl) (by kernel_rfl) (by kernel_rfl) (ss (ss (ss (sn)))) 19 true 22 rfl rfl rfl rfl rfl ?_
   refine any_un 24 rfl (by kernel_rfl) (by kernel_rfl) (by kernel_rfl) (ss (ss (ss (sn)))) 19 true 22 rfl rfl rfl rfl rfl ?_
   refine any_un 25 rfl (by kernel_rfl) (by kernel_rfl) (by kernel_rfl) (ss (ss (ss (sn)))) 19 true 22 rfl rfl rfl rfl rfl ?_
   refine any_un 26 rfl (by kernel_rfl) (by kernel_rfl) (by kernel_rfl) (ss (ss (ss (sn)))) 19 true 22 rfl rfl rfl rfl rfl ?_
   refine any_un 27 rfl (by kernel_rfl) (by kernel_rfl) (by kernel_rfl) (ss (ss (ss (sn)))) 19 true 22 rfl rfl rfl rfl rfl ?_
   refine any_un 28 rfl (by kernel_rfl) (by kernel_rfl) (by kernel_rfl) (ss (ss (ss (sn)))) 19 true 22 rfl rfl rfl rfl rfl ?_
   refine any_un 29 rfl (by kernel_rfl) (by kernel_rfl) (by kernel_rfl) (ss (ss (ss (sn)))) 19 true 22 rfl rfl rfl rfl rfl ?_
   refine any_no 30 rfl (by kernel_rfl) (by kernel_rfl) (by kernel_rfl) (ss (ss (ss (sn)))) 13 false 16 rfl rfl rfl rfl rfl ?_
   refine any_y 31 rfl (by kernel_rfl) (by kernel_rfl) (by kernel_rfl) (ss (ss (ss (sn)))) (wn rfl) rfl (y_pick (b := true) rfl rfl) ?_
   exact any_weak [(0, boxP f_0b 0), (34, .bool true)] [0, 1, 2] [nro f_0_Stagesv NC_L_int_35 f_0.Stages, row f_0_Ordersv 4 (f_0.Orders.map S_api_Order.enc), box f_0b [.int .i64 f_0.Base, .int .i64 f_0.Done, .int .i64 f_0.Serial, .bool f_0.Stopped, f_0_Stagesv, f_0_Ordersv]] (by kernel_rfl) (qv2 rfl rfl) (by decide) rfl (hL10 true (by rw [hg11]; simp))
  ·skip
   refine any_y 14 rfl (by kernel_rfl) (by kernel_rfl) (by kernel_rfl) (ss (ss (ss (sn)))) (wg 13 false 16 rfl rfl rfl rfl) rfl (y_move rfl) ?_
   refine any_y 15 rfl (by kernel_rfl) (by kernel_rfl) (by kernel_rfl) (ss (ss (ss (sn)))) (wg 13 false 16 rfl rfl rfl rfl) rfl (y_nilBox rfl) ?_
   refine any_y 16 rfl (by kernel_rfl) (by kernel_rfl) (by kernel_rfl) (ss (ss (ss (sn)))) (wg 13 false 16 rfl rfl rfl rfl) rfl (y_fieldAddr_box (sz := 0) Try.runUnderlying59 rfl Try.sizeOf3 rfl) ?_
   refine any_y 17 rfl (by kernel_rfl) (by kernel_rfl) (by kernel_rfl) (ss (ss (ss (sn)))) (wg 13 false 16 rfl rfl rfl rfl) rfl (y_load_box 2 Try.isAgg3 rfl rfl rfl) ?_
   refine any_y 18 rfl (by kernel_rfl) (by kernel_rfl) (by kernel_rfl) (ss (ss (ss (sn)))) (wg 13 false 16 rfl rfl rfl rfl) rfl (y_gtr rfl rfl) ?_
   refine any_y 19 rfl (by kernel_rfl) (by kernel_rfl) (by kernel_rfl) (ss (ss (ss (sn)))) (wg 13 false 16 rfl rfl rfl rfl) rfl (y_move rfl) ?_
   refine any_cut #[true, true, true, true, true, true, true, true, true, true, true, true, true, true, true, true, true, true, true, true, true, true, true, true, true, true, true, true, true, true, true, false] 1 Bool (fun σ => [(0, boxP f_0b 0), (16, .bool false), (33, .bool σ)]) (fun σ => [nro f_0_Stagesv NC_L_int_35 f_0.Stages, row f_0_Ordersv 4 (f_0.Orders.map S_api_Order.enc), box f_0b [.int .i64 f_0.Base, .int .i64 f_0.Done, .int .i64 f_0.Serial, .bool f_0.Stopped, f_0_Stagesv, f_0_Ordersv]]) (fun σ => σ = (decide (0 < f_0.Done) && decide (f_0.Done < (f_0.Stages.length : Int)))) (fun hL13 => ?_) ?_
   ·refine any_split 22 (decide (0 < f_0.Done)) rfl (fun hg14 => ?_) (fun hg14 => ?_)
    ·skip
     refine any_y 20 rfl (by kernel_rfl) (by kernel_rfl) (by kernel_rfl) (ss (ss (ss (sn)))) (wg 19 true 22 rfl rfl rfl rfl) rfl (y_move rfl) ?_
     refine any_y 21 rfl (by kernel_rfl) (by kernel_rfl) (by kernel_rfl) (ss (ss (ss (sn)))) (wg 19 true 22 rfl rfl rfl rfl) rfl (y_nilBox rfl) ?_
     refine any_y 22 rfl (by kernel_rfl) (by kernel_rfl) (by kernel_rfl) (ss (ss (ss (sn)))) (wg 19 true 22 rfl rfl rfl rfl) rfl (y_fieldAddr_box (sz := 0) Try.runUnderlying59 rfl Try.sizeOf3 rfl) ?_
     refine any_y 23 rfl (by kernel_rfl) (by kernel_rfl) (by kernel_rfl) (ss (ss (ss (sn)))) (wg 19 true 22 rfl rfl rfl rfl) rfl (y_load_box 2 Try.isAgg3 rfl rfl rfl) ?_
     refine any_y 24 rfl (by kernel_rfl) (by kernel_rfl) (by kernel_rfl) (ss (ss (ss (sn)))) (wg 19 true 22 rfl rfl rfl rfl) rfl (y_move rfl) ?_
     refine any_y 25 rfl (by kernel_rfl) (by kernel_rfl) (by kernel_rfl) (ss (ss (ss (sn)))) (wg 19 true 22 rfl rfl rfl rfl) rfl (y_nilBox rfl) ?_
     refine any_y 26 rfl (by kernel_rfl) (by kernel_rfl) (by kernel_rfl) (ss (ss (ss (sn)))) (wg 19 true 22 rfl rfl rfl rfl) rfl (y_fieldAddr_box (sz := 0) Try.runUnderlying59 rfl Try.sizeOf56 rfl) ?_
     refine any_y 27 rfl (by kernel_rfl) (by kernel_rfl) (by kernel_rfl) (ss (ss (ss (sn)))) (wg 19 true 22 rfl rfl rfl rfl) rfl (y_load_box 2 Try.isAgg56 rfl rfl rfl) ?_
     refine any_y 28 rfl (by kernel_rfl) (by kernel_rfl) (by kernel_rfl) (ss (ss (ss (sn)))) (wg 19 true 22 rfl rfl rfl rfl) rfl (y_lenN 0 rfl Try.runUnderlying56 rfl rfl readsN_ro) ?_
     refine any_y 29 rfl (by kernel_rfl) (by kernel_rfl) (by kernel_rfl) (ss (ss (ss (sn)))) (wg 19 true 22 rfl rfl rfl rfl) rfl (y_lss rfl rfl) ?_
     refine any_y 30 rfl (by kernel_rfl) (by kernel_rfl) (by kernel_rfl) (ss (ss (ss (sn)))) (wg 13 false 16 rfl rfl rfl rfl) rfl (y_pick (b := true) rfl rfl) ?_
     exact any_weak [(0, boxP f_0b 0), (16, .bool false), (33, .bool (decide (f_0.Done < (f_0.Stages.length : Int))))] [0, 1, 2] [nro f_0_Stagesv NC_L_int_35 f_0.Stages, row f_0_Ordersv 4 (f_0.Orders.map S_api_Order.enc), box f_0b [.int .i64 f_0.Base, .int .i64 f_0.Done, .int .i64 f_0.Serial, .bool f_0.Stopped, f_0_Stagesv, f_0_Ordersv]] (by kernel_rfl) (qv3 rfl rfl rfl) (by decide) rfl (hL13 (decide (f_0.Done < (f_0.Stages.length : Int))) (by rw [hg14]; simp))
    ·skip
     refine any_no 20 rfl (by kernel_rfl) (by kernel_rfl) (by kernel_rfl) (ss (ss (ss (sn)))) 19 true 22 rfl rfl rfl rfl rfl ?_
     refine any_no 21 rfl (by kernel_rfl) (by kernel_rfl) (by kernel_rfl) (ss (ss (ss (sn)))) 19 true 22 rfl rfl rfl rfl rfl ?_
     refine any_no 22 rfl (by kernel_rfl) (by kernel_rfl) (by kernel_rfl) (ss (ss (ss (sn)))) 19 true 22 rfl rfl rfl rfl rfl ?_
     refine any_no 23 rfl (by kernel_rfl) (by kernel_rfl) (by kernel_rfl) (ss (ss (ss (sn)))) 19 true 22 rfl rfl rfl rfl rfl ?_
     refine any_no 24 rfl (by kernel_rfl) (by kernel_rfl) (by kernel_rfl) (ss (ss (ss (sn)))) 19 true 22 rfl rfl rfl rfl rfl ?_
     refine any_no 25 rfl (by kernel_rfl) (by kernel_rfl) (by kernel_rfl) (ss (ss (ss (sn)))) 19 true 22 rfl rfl rfl rfl rfl ?_
     refine any_no 26 rfl (by kernel_rfl) (by kernel_rfl) (by kernel_rfl) (ss (ss (ss (sn)))) 19 true 22 rfl rfl rfl rfl rfl ?_
     refine any_no 27 rfl (by kernel_rfl) (by kernel_rfl) (by kernel_rfl) (ss (ss (ss (sn)))) 19 true 22 rfl rfl rfl rfl rfl ?_
     refine any_no 28 rfl (by kernel_rfl) (by kernel_rfl) (by kernel_rfl) (ss (ss (ss (sn)))) 19 true 22 rfl rfl rfl rfl rfl ?_
     refine any_no 29 rfl (by kernel_rfl) (by kernel_rfl) (by kernel_rfl) (ss (ss (ss (sn)))) 19 true 22 rfl rfl rfl rfl rfl ?_
     refine any_y 30 rfl (by kernel_rfl) (by kernel_rfl) (by kernel_rfl) (ss (ss (ss (sn)))) (wg 13 false 16 rfl rfl rfl rfl) rfl (y_pick (b := false) rfl rfl) ?_
     exact any_weak [(0, boxP f_0b 0), (16, .bool false), (33, .bool false)] [0, 1, 2] [nro f_0_Stagesv NC_L_int_35 f_0.Stages, row f_0_Ordersv 4 (f_0.Orders.map S_api_Order.enc), box f_0b [.int .i64 f_0.Base, .int .i64 f_0.Done, .int .i64 f_0.Serial, .bool f_0.Stopped, f_0_Stagesv, f_0_Ordersv]] (by kernel_rfl) (qv3 rfl rfl rfl) (by decide) rfl (hL13 false (by rw [hg14]; simp))
   rintro _ rfl
   refine any_y 31 rfl (by kernel_rfl) (by kernel_rfl) (by kernel_rfl) (ss (ss (ss (sn)))) (wn rfl) rfl (y_pick (b := false) rfl rfl) ?_
   exact any_weak [(0, boxP f_0b 0), (34, .bool (decide (0 < f_0.Done) && decide (f_0.Done < (f_0.Stages.length : Int))))] [0, 1, 2] [nro f_0_Stagesv NC_L_int_35 f_0.Stages, row f_0_Ordersv 4 (f_0.Orders.map S_api_Order.enc), box f_0b [.int .i64 f_0.Base, .int .i64 f_0.Done, .int .i64 f_0.Serial, .bool f_0.Stopped, f_0_Stagesv, f_0_Ordersv]] (by kernel_rfl) (qv2 rfl rfl) (by decide) rfl (hL10 (decide (0 < f_0.Done) && decide (f_0.Done < (f_0.Stages.length : Int))) (by rw [hg11]; simp))
 rintro _ rfl
 refine any_nil (by kernel_rfl) ?_
 refine goes_code ?_
 refine run_cond (b1 || (decide (0 < f_0.Done) && decide (f_0.Done < (f_0.Stages.length : Int)))) rfl (fun hc15 => ?_) (fun hc15 => ?_)
 ·replace h := cond_t h hc15
  refine run_seq ?_
  refine run_region' ?_
  refine oy rfl rfl (y_assign rfl) ?_
  refine ops_nil ?_
  refine goes_code ?_
  refine run_ret ?_
  obtain rfl := some_eq h
  refine fin_slots [2] [.int .i64 4] [0, 1, 2] [nro f_0_Stagesv NC_L_int_35 f_0.Stages, row f_0_Ordersv 4 (f_0.Orders.map S_api_Order.enc), box f_0b [.int .i64 f_0.Base, .int .i64 f_0.Done, .int .i64 f_0.Serial, .bool f_0.Stopped, f_0_Stagesv, f_0_Ordersv]] Try.results61 rfl (by decide) rfl ?_
  exact ⟨_, _, rfl, rfl⟩
 ·replace h := cond_f h hc15
  refine run_skip ?_
  refine goes_code ?_
  obtain ⟨o17, h, ho18⟩ := bindJ_some h
  refine run_cut ((Int) × (Unit)) (fun σ => [(0, boxP f_0b 0)]) (fun σ => [box f_0b [.int .i64 σ.1, .int .i64 f_0.Done, .int .i64 f_0.Serial, .bool f_0.Stopped, f_0_Stagesv, f_0_Ordersv], nro f_0_Stagesv NC_L_int_35 f_0.Stages, row f_0_Ordersv 4 (f_0.Orders.map S_api_Order.enc)]) (fun σ => o17 = .go σ.1) (fun L20 hL19 => ?_) ?_
  ·
   refine run_seq ?_
   refine run_region' ?_
   refine oy rfl rfl (y_move rfl) ?_
   refine oy rfl rfl (y_nilBox rfl) ?_
   refine oy rfl rfl (y_fieldAddr_box (sz := 0) Try.runUnderlying59 rfl Try.sizeOf3 rfl) ?_
   refine oy rfl rfl (y_load_box 2 Try.isAgg3 rfl rfl rfl) ?_
   refine oy rfl rfl (y_gtr rfl rfl) ?_
   refine ops_nil ?_
   refine goes_code ?_
   refine run_cond (decide (0 < f_0.Done)) rfl (fun hc21 => ?_) (fun hc21 => ?_)
   ·replace h := cond_t h hc21
    refine run_region' ?_
    refine oy rfl rfl (y_move rfl) ?_
    refine oy rfl rfl (y_nilBox rfl) ?_
    refine oy rfl rfl (y_fieldAddr_box (sz := 0) Try.runUnderlying59 rfl Try.sizeOf3 rfl) ?_
    refine oy rfl rfl (y_load_box 2 Try.isAgg3 rfl rfl rfl) ?_
    refine oy rfl rfl (y_add rfl rfl) ?_
    refine oy rfl rfl (y_nilBox rfl) ?_
    refine oy rfl rfl (y_fieldAddr_box (sz := 0) Try.runUnderlying59 rfl Try.sizeOf3 rfl) ?_
    refine ot rfl rfl (t_store 2 Try.sizeOf3 rfl rfl rfl rfl (by simp [Value.cells, boxP]) (by simp [Value.cells, Value.oneCell', boxP])) ?_
    rintro _ _ ⟨rfl, rfl⟩
    refine ops_turn (retell 2 (g := box f_0b [.int .i64 (IntKind.i64.wrap (f_0.Base + 1)), .int .i64 f_0.Done, .int .i64 f_0.Serial, .bool f_0.Stopped, f_0_Stagesv, f_0_Ordersv]) rfl rfl) ?_
    refine ops_nil ?_
    obtain rfl := some_eq h
    exact goes_cut hL19 ((IntKind.i64.wrap (f_0.Base + 1)), ()) [2, 0, 1] (qv1 rfl) (by decide) rfl rfl
   ·replace h := cond_f h hc21
    refine run_skip ?_
    obtain rfl := some_eq h
    exact goes_cut hL19 (f_0.Base, ()) [2, 0, 1] (qv1 rfl) (by decide) rfl rfl
  rintro ⟨x_16, _⟩ hj
  obtain rfl : o17 = _ := hj
  replace h := after_go ho18
  clear ho18
  change Run _ _ _ (VF.of [(0, boxP f_0b 0)]) [box f_0b [.int .i64 x_16, .int .i64 f_0.Done, .int .i64 f_0.Serial, .bool f_0.Stopped, f_0_Stagesv, f_0_Ordersv], nro f_0_Stagesv NC_L_int_35 f_0.Stages, row f_0_Ordersv 4 (f_0.Orders.map S_api_Order.enc)]
  refine run_seq ?_
  refine run_region' ?_
  refine oy rfl rfl (y_move rfl) ?_
  refine oy rfl rfl (y_move rfl) ?_
  refine oy rfl rfl (y_move rfl) ?_
  refine oy rfl rfl (y_nilBox rfl) ?_
  refine oy rfl rfl (y_fieldAddr_box (sz := 0) Try.runUnderlying59 rfl Try.sizeOf56 rfl) ?_
  refine ot rfl rfl (t_store 0 Try.sizeOf56 rfl rfl rfl rfl (by simp [Value.cells, boxP]) (by simp [Value.cells, Value.oneCell', boxP])) ?_
  rintro _ _ ⟨rfl, rfl⟩
  refine ops_turn (retell 0 (g := box f_0b [.int .i64 x_16, .int .i64 f_0.Done, .int .i64 f_0.Serial, .bool f_0.Stopped, .slice none 0 0, f_0_Ordersv]) rfl rfl) ?_
  refine oy rfl rfl (y_nilBox rfl) ?_
  refine oy rfl rfl (y_fieldAddr_box (sz := 0) Try.runUnderlying59 rfl Try.sizeOf3 rfl) ?_
  refine ot rfl rfl (t_store 0 Try.sizeOf3 rfl rfl rfl rfl (by simp [Value.cells, boxP]) (by simp [Value.cells, Value.oneCell', boxP])) ?_
  rintro _ _ ⟨rfl, rfl⟩
  refine ops_turn (retell 0 (g := box f_0b [.int .i64 x_16, .int .i64 0, .int .i64 f_0.Serial, .bool f_0.Stopped, .slice none 0 0, f_0_Ordersv]) rfl rfl) ?_
  refine oy rfl rfl (y_nilBox rfl) ?_
  refine oy rfl rfl (y_fieldAddr_box (sz := 0) Try.runUnderlying59 rfl Try.sizeOf4 rfl) ?_
  refine ot rfl rfl (t_store 0 Try.sizeOf4 rfl rfl rfl rfl (by simp [Value.cells, boxP]) (by simp [Value.cells, Value.oneCell', boxP])) ?_
  rintro _ _ ⟨rfl, rfl⟩
  refine ops_turn (retell 0 (g := box f_0b [.int .i64 x_16, .int .i64 0, .int .i64 f_0.Serial, .bool false, .slice none 0 0, f_0_Ordersv]) rfl rfl) ?_
  refine ops_nil ?_
  refine goes_code ?_
  refine run_seq ?_
  refine run_weak [] [0, 2] [box f_0b [.int .i64 x_16, .int .i64 0, .int .i64 f_0.Serial, .bool false, .slice none 0 0, f_0_Ordersv], row f_0_Ordersv 4 (f_0.Orders.map S_api_Order.enc)] vnil (by decide) rfl ?_
  refine run_region' ?_
  refine oy rfl rfl (y_assign rfl) ?_
  refine ops_nil ?_
  refine goes_code ?_
  refine run_ret ?_
  refine fin_turn (nilroN NC_L_int_35) ?_
  obtain rfl := some_eq h
  refine fin_slots [2] [.int .i64 0] [2, 1, 0] [nro (.slice none 0 0) NC_L_int_35 ([] : List (List Int)), row f_0_Ordersv 4 (f_0.Orders.map S_api_Order.enc), box f_0b [.int .i64 x_16, .int .i64 0, .int .i64 f_0.Serial, .bool false, (.slice none 0 0), f_0_Ordersv]] Try.results61 rfl (by decide) rfl ?_
  exact ⟨_, _, rfl, rfl⟩

def topo_change_v6 (n : Nat) (f_0 : S_api_Fleet) : Option (S_api_Fleet × Int) :=
 obind (topo_ValidFleet n f_0) fun r3 =>
 cond (!r3)
  (some ((S_api_Fleet.mk 0 0 0 false ([] : List (List Int)) ([] : List S_api_Order)), 1))
  (obind (slices_Clone_weirgate_api_Order_weirgate_api_Order_71 f_0.Orders) fun r6 =>
  obind (topo_End_1_61 n (S_api_Fleet.mk f_0.Base f_0.Done f_0.Serial f_0.Stopped f_0.Stages r6)) fun r10 =>
  cond (decide (r10.1 ≠ 0))
   (some ((S_api_Fleet.mk 0 0 0 false ([] : List (List Int)) ([] : List S_api_Order)), r10.1))
   (some (r10.2, 0)))
theorem topo_change_v6_ok (n : Nat) (f_0 : S_api_Fleet) (f_0_Stagesv : Value) (f_0_Ordersv : Value) {r : S_api_Fleet × Int} (h : topo_change_v6 n f_0 = some r) :
  Meets Try.prog 52 [.agg #[.int .i64 f_0.Base, .int .i64 f_0.Done, .int .i64 f_0.Serial, .bool f_0.Stopped, f_0_Stagesv, f_0_Ordersv], .func (.func 61) #[] #[]] [nro f_0_Stagesv NC_L_int_35 f_0.Stages, ro f_0_Ordersv 4 (f_0.Orders.map S_api_Order.enc)] (fun v G => ∃ v0 v1, v = .tuple #[.agg #[.int .i64 r.1.Base, .int .i64 r.1.Done, .int .i64 r.1.Serial, .bool r.1.Stopped, v0, v1], .int .i64 r.2] ∧ G = [nro v0 NC_L_int_35 r.1.Stages, row v1 4 (r.1.Orders.map S_api_Order.enc)]) := by
 refine fn_of_run Try.func52 rfl Try.ntmps52 rfl (fun w0 o0 => ?_)
 refine run_seq ?_
 refine run_region' ?_
 refine ot rfl rfl (t_box rfl) ?_
 rintro _ _ ⟨b1, rfl, rfl⟩
 refine ot rfl rfl (t_alloc Try.zeroValue59) ?_
 rintro _ _ ⟨b2, rfl, rfl⟩
 refine oy rfl rfl (y_assign rfl) ?_
 refine ops_nil ?_
 refine goes_code ?_
 refine run_seq ?_
 refine run_seq ?_
 refine run_region' ?_
 refine oy rfl rfl (y_load_boxagg (c := [.int .i64 f_0.Base, .int .i64 f_0.Done, .int .i64 f_0.Serial, .bool f_0.Stopped, f_0_Stagesv, f_0_Ordersv]) 2 Try.isAgg59 Try.sizeOf59 rfl rfl rfl) ?_
 obtain ⟨r3, hr4, h⟩ := obind_some h
 refine ot rfl rfl (t_callx (vs := [.agg #[.int .i64 f_0.Base, .int .i64 f_0.Done, .int .i64 f_0.Serial, .bool f_0.Stopped, f_0_Stagesv, f_0_Ordersv]]) (cs := []) [(0, 0), (1, 0)] rfl Try.call51 rfl (topo_ValidFleet_ok n f_0 f_0_Stagesv f_0_Ordersv hr4) (showsX_view 0 rfl views_nro (showsX_view 1 rfl views_ro showsX_nil)) rfl (.inl rfl)) ?_
 rintro _ _ ⟨_, ⟨rfl, rfl⟩, rfl⟩
 refine oy rfl rfl (y_not rfl) ?_
 refine ops_nil ?_
 refine goes_code ?_
 refine run_cond (!r3) rfl (fun hc5 => ?_) (fun hc5 => ?_)
 ·replace h := cond_t h hc5
  refine run_seq ?_
  refine run_region' ?_
  refine oy rfl rfl (y_build_struct (cells := #[.int .i64 0, .int .i64 0, .int .i64 0, .bool false, .slice none 0 0, .slice none 0 0]) [] [] Try.zeroValue59 Try.runUnderlying59 (fs_cons Try.sizeOf3 (fs_cons Try.sizeOf3 (fs_cons Try.sizeOf3 (fs_cons Try.sizeOf4 (fs_cons Try.sizeOf56 (fs_cons Try.sizeOf57 fs_nil)))))) rfl rfl rfl) ?_
  refine ot rfl rfl (t_store 3 Try.sizeOf59 rfl rfl rfl rfl (by simp [Value.cells, boxP]) (by simp [Value.cells, Value.oneCell', boxP])) ?_
  rintro _ _ ⟨rfl, rfl⟩
  refine ops_turn (retell 3 (g := box b2 [.int .i64 0, .int .i64 0, .int .i64 0, .bool false, .slice none 0 0, .slice none 0 0]) rfl rfl) ?_
  refine oy rfl rfl (y_assign rfl) ?_
  refine ops_nil ?_
  refine goes_code ?_
  refine run_ret ?_
  refine fin_turn (nilroN NC_L_int_35) ?_
  refine fin_turn (nilrow 4) ?_
  refine fin_turn (retell 5 (g := row (.slice none 0 0) 4 (([] : List S_api_Order).map S_api_Order.enc)) rfl rfl) ?_
  obtain rfl := some_eq h
  refine fin_res [.cell 4 59, .tmp 5] [.agg #[.int .i64 0, .int .i64 0, .int .i64 0, .bool false, (.slice none 0 0), (.slice none 0 0)], .int .i64 1] [4, 5] [nro (.slice none 0 0) NC_L_int_35 ([] : List (List Int)), row (.slice none 0 0) 4 (([] : List S_api_Order).map S_api_Order.enc)] Try.results52 rfl (rescons (res_box 3 Try.isAgg59 Try.sizeOf59 rfl rfl rfl) (rescons (res_tmp rfl) resnil)) (by decide) rfl ?_
  exact ⟨_, _, rfl, rfl⟩
 ·replace h := cond_f h hc5
  refine run_skip ?_
  refine goes_code ?_
  refine run_seq ?_
  refine run_region' ?_
  refine oy rfl rfl (y_fieldAddr_box (sz := 0) Try.runUnderlying59 rfl Try.sizeOf57 rfl) ?_
  refine oy rfl rfl (y_load_box 2 Try.isAgg57 rfl rfl rfl) ?_
  obtain ⟨r6, hr7, h⟩ := obind_some h
  refine ot rfl rfl (t_callx (vs := [f_0_Ordersv]) (cs := []) [(1, 0)] rfl Try.call71 rfl (slices_Clone_weirgate_api_Order_weirgate_api_Order_71_ok f_0.Orders f_0_Ordersv hr7) (showsX_view 1 rfl views_ro showsX_nil) rfl (.inl rfl)) ?_
  rintro v8 _ ⟨_, ⟨_, rfl, rfl⟩, rfl⟩
  refine oy rfl rfl (y_fieldAddr_box (sz := 0) Try.runUnderlying59 rfl Try.sizeOf57 rfl) ?_
  refine ops_slc 4 rfl reads_row (fun hs9 hs9o => ?_)
  refine ot rfl rfl (t_store 2 Try.sizeOf57 rfl rfl rfl (by rw [hs9]; rfl) (by simp [Value.cells, boxP]) (by rw [hs9]; exact allL_cons hs9o (allL_nil))) ?_
  rintro _ _ ⟨rfl, rfl⟩
  refine ops_turn (retell 2 (g := box b1 [.int .i64 f_0.Base, .int .i64 f_0.Done, .int .i64 f_0.Serial, .bool f_0.Stopped, f_0_Stagesv, v8]) rfl (by rw [hs9]; rfl)) ?_
  refine ops_nil ?_
  refine goes_code ?_
  refine run_seq ?_
  refine run_seq ?_
  refine run_weak [(1, .func (.func 61) #[] #[]), (2, boxP b1 0), (4, boxP b2 0)] [0, 2, 3, 4] [nro f_0_Stagesv NC_L_int_35 f_0.Stages, box b1 [.int .i64 f_0.Base, .int .i64 f_0.Done, .int .i64 f_0.Serial, .bool f_0.Stopped, f_0_Stagesv, v8], box b2 [.int .i64 0, .int .i64 0, .int .i64 0, .bool false, .slice none 0 0, .slice none 0 0], row v8 4 (r6.map S_api_Order.enc)] (qv3 rfl rfl rfl) (by decide) rfl ?_
  refine run_region' ?_
  refine oy rfl rfl (y_move rfl) ?_
  obtain ⟨r10, hr11, h⟩ := obind_some h
  refine ot rfl rfl (t_callx (vs := [boxP b1 0]) (cs := []) [(0, 0), (3, 2), (1, 2)] rfl Try.call61 rfl (topo_End_1_61_ok n (S_api_Fleet.mk f_0.Base f_0.Done f_0.Serial f_0.Stopped f_0.Stages r6) b1 f_0_Stagesv v8 hr11) (showsX_view 0 rfl views_nro (showsX_lend 3 rfl (showsX_lend 1 rfl showsX_nil))) rfl (.inl rfl)) ?_
  rintro _ _ ⟨_, ⟨v12, v13, rfl, rfl⟩, rfl⟩
  refine oy rfl rfl (y_assign rfl) ?_
  refine ops_nil ?_
  refine goes_code ?_
  refine run_seq ?_
  refine run_region' ?_
  refine oy rfl rfl (y_move rfl) ?_
  refine oy rfl rfl (y_neq rfl rfl) ?_
  refine ops_nil ?_
  refine goes_code ?_
  refine run_cond (decide (r10.1 ≠ 0)) rfl (fun hc14 => ?_) (fun hc14 => ?_)
  ·replace h := cond_t h hc14
   refine run_seq ?_
   refine run_region' ?_
   refine oy rfl rfl (y_build_struct (cells := #[.int .i64 0, .int .i64 0, .int .i64 0, .bool false, .slice none 0 0, .slice none 0 0]) [] [] Try.zeroValue59 Try.runUnderlying59 (fs_cons Try.sizeOf3 (fs_cons Try.sizeOf3 (fs_cons Try.sizeOf3 (fs_cons Try.sizeOf4 (fs_cons Try.sizeOf56 (fs_cons Try.sizeOf57 fs_nil)))))) rfl rfl rfl) ?_
   refine oy rfl rfl (y_move rfl) ?_
   refine ot rfl rfl (t_store 2 Try.sizeOf59 rfl rfl rfl rfl (by simp [Value.cells, boxP]) (by simp [Value.cells, Value.oneCell', boxP])) ?_
   rintro _ _ ⟨rfl, rfl⟩
   refine ops_turn (retell 2 (g := box b2 [.int .i64 0, .int .i64 0, .int .i64 0, .bool false, .slice none 0 0, .slice none 0 0]) rfl rfl) ?_
   refine oy rfl rfl (y_assign rfl) ?_
   refine ops_nil ?_
   refine goes_code ?_
   refine run_ret ?_
   refine fin_turn (nilroN NC_L_int_35) ?_
   refine fin_turn (nilrow 4) ?_
   refine fin_turn (retell 8 (g := row (.slice none 0 0) 4 (([] : List S_api_Order).map S_api_Order.enc)) rfl rfl) ?_
   obtain rfl := some_eq h
   refine fin_res [.cell 4 59, .tmp 5] [.agg #[.int .i64 0, .int .i64 0, .int .i64 0, .bool false, (.slice none 0 0), (.slice none 0 0)], .int .i64 r10.1] [7, 8] [nro (.slice none 0 0) NC_L_int_35 ([] : List (List Int)), row (.slice none 0 0) 4 (([] : List S_api_Order).map S_api_Order.enc)] Try.results52 rfl (rescons (res_box 2 Try.isAgg59 Try.sizeOf59 rfl rfl rfl) (rescons (res_tmp rfl) resnil)) (by decide) rfl ?_
   exact ⟨_, _, rfl, rfl⟩
  ·replace h := cond_f h hc14
   refine run_skip ?_
   refine goes_code ?_
   refine run_seq ?_
   refine run_region' ?_
   refine oy rfl rfl (y_load_boxagg (c := [.int .i64 r10.2.Base, .int .i64 r10.2.Done, .int .i64 r10.2.Serial, .bool r10.2.Stopped, v12, v13]) 6 Try.isAgg59 Try.sizeOf59 rfl rfl rfl) ?_
   refine ops_slcN 4 rfl readsN_ro (fun hs15 hs15o => ?_)
   refine ops_slc 5 rfl reads_row (fun hs16 hs16o => ?_)
   refine ot rfl rfl (t_store 2 Try.sizeOf59 rfl rfl rfl rfl (by simp [Value.cells, boxP]) (allL_cons rfl (allL_cons rfl (allL_cons rfl (allL_cons rfl (allL_cons hs15o (allL_cons hs16o (allL_nil)))))))) ?_
   rintro _ _ ⟨rfl, rfl⟩
   refine ops_turn (retell 2 (g := box b2 [.int .i64 r10.2.Base, .int .i64 r10.2.Done, .int .i64 r10.2.Serial, .bool r10.2.Stopped, v12, v13]) rfl rfl) ?_
   refine oy rfl rfl (y_assign rfl) ?_
   refine ops_nil ?_
   refine goes_code ?_
   refine run_ret ?_
   obtain rfl := some_eq h
   refine fin_res [.cell 4 59, .tmp 5] [.agg #[.int .i64 r10.2.Base, .int .i64 r10.2.Done, .int .i64 r10.2.Serial, .bool r10.2.Stopped, v12, v13], .int .i64 0] [4, 5] [nro v12 NC_L_int_35 r10.2.Stages, row v13 4 (r10.2.Orders.map S_api_Order.enc)] Try.results52 rfl (rescons (res_box 2 Try.isAgg59 Try.sizeOf59 rfl rfl rfl) (rescons (res_tmp rfl) resnil)) (by decide) rfl ?_
   exact ⟨_, _, rfl, rfl⟩

def topo_End (n : Nat) (f_0 : S_api_Fleet) : Option (S_api_Fleet × Int) :=
 obind (topo_change_v6 n f_0) fun r3 =>
 some (r3.1, r3.2)
theorem topo_End_ok (n : Nat) (f_0 : S_api_Fleet) (f_0_Stagesv : Value) (f_0_Ordersv : Value) {r : S_api_Fleet × Int} (h : topo_End n f_0 = some r) :
  Meets Try.prog 31 [.agg #[.int .i64 f_0.Base, .int .i64 f_0.Done, .int .i64 f_0.Serial, .bool f_0.Stopped, f_0_Stagesv, f_0_Ordersv]] [nro f_0_Stagesv NC_L_int_35 f_0.Stages, ro f_0_Ordersv 4 (f_0.Orders.map S_api_Order.enc)] (fun v G => ∃ v0 v1, v = .tuple #[.agg #[.int .i64 r.1.Base, .int .i64 r.1.Done, .int .i64 r.1.Serial, .bool r.1.Stopped, v0, v1], .int .i64 r.2] ∧ G = [nro v0 NC_L_int_35 r.1.Stages, row v1 4 (r.1.Orders.map S_api_Order.enc)]) := by
 refine fn_of_run Try.func31 rfl Try.ntmps31 rfl (fun w0 o0 => ?_)
 refine run_seq ?_
 refine run_region' ?_
 refine ot rfl rfl (t_box rfl) ?_
 rintro _ _ ⟨b1, rfl, rfl⟩
 refine ot rfl rfl (t_alloc Try.zeroValue59) ?_
 rintro _ _ ⟨b2, rfl, rfl⟩
 refine oy rfl rfl (y_assign rfl) ?_
 refine ops_nil ?_
 refine goes_code ?_
 refine run_seq ?_
 refine run_region' ?_
 refine oy rfl rfl (y_load_boxagg (c := [.int .i64 f_0.Base, .int .i64 f_0.Done, .int .i64 f_0.Serial, .bool f_0.Stopped, f_0_Stagesv, f_0_Ordersv]) 2 Try.isAgg59 Try.sizeOf59 rfl rfl rfl) ?_
 obtain ⟨r3, hr4, h⟩ := obind_some h
 refine ot rfl rfl (t_callx (vs := [.agg #[.int .i64 f_0.Base, .int .i64 f_0.Done, .int .i64 f_0.Serial, .bool f_0.Stopped, f_0_Stagesv, f_0_Ordersv], .func (.func 61) #[] #[]]) (cs := []) [(0, 0), (1, 0)] rfl Try.call52 rfl (topo_change_v6_ok n f_0 f_0_Stagesv f_0_Ordersv hr4) (showsX_view 0 rfl views_nro (showsX_view 1 rfl views_ro showsX_nil)) rfl (.inl rfl)) ?_
 rintro _ _ ⟨_, ⟨v5, v6, rfl, rfl⟩, rfl⟩
 refine oy rfl rfl (y_extract rfl rfl) ?_
 refine oy rfl rfl (y_extract rfl rfl) ?_
 refine ops_slcN 4 rfl readsN_ro (fun hs7 hs7o => ?_)
 refine ops_slc 5 rfl reads_row (fun hs8 hs8o => ?_)
 refine ot rfl rfl (t_store 3 Try.sizeOf59 rfl rfl rfl rfl (by simp [Value.cells, boxP]) (allL_cons rfl (allL_cons rfl (allL_cons rfl (allL_cons rfl (allL_cons hs7o (allL_cons hs8o (allL_nil)))))))) ?_
 rintro _ _ ⟨rfl, rfl⟩
 refine ops_turn (retell 3 (g := box b2 [.int .i64 r3.1.Base, .int .i64 r3.1.Done, .int .i64 r3.1.Serial, .bool r3.1.Stopped, v5, v6]) rfl rfl) ?_
 refine oy rfl rfl (y_assign rfl) ?_
 refine ops_nil ?_
 refine goes_code ?_
 refine run_ret ?_
 obtain rfl := some_eq h
 refine fin_res [.cell 2 59, .tmp 3] [.agg #[.int .i64 r3.1.Base, .int .i64 r3.1.Done, .int .i64 r3.1.Serial, .bool r3.1.Stopped, v5, v6], .int .i64 r3.2] [4, 5] [nro v5 NC_L_int_35 r3.1.Stages, row v6 4 (r3.1.Orders.map S_api_Order.enc)] Try.results31 rfl (rescons (res_box 3 Try.isAgg59 Try.sizeOf59 rfl rfl rfl) (rescons (res_tmp rfl) resnil)) (by decide) rfl ?_
 exact ⟨_, _, rfl, rfl⟩

end Go.Proofs.Ytigiikkenamneaa
