/-
  Functions of the program, lifted: part 2.
-/
import Derived.Test.YtgelifcckhemiaaFa
namespace Go.Proofs.Ytgelifcckhemiaa
open Go.Abs
set_option linter.unusedVariables false
set_option linter.unusedSimpArgs false
set_option maxRecDepth 20000
set_option maxHeartbeats 4000000

def graph_Order_L1 (n_0 : S_api_Net) : (Int × (List Int)) → Option (Lp (Int × (List Int)) (Lp ((List Int)) ((List Int) × (List Int) × Int))) :=
 fun (s_14, x_15) =>
  cond (decide (s_14 < (n_0.Arcs.length : Int)))
   (idx n_0.Arcs s_14 fun x21 =>
   idx x_15 x21.To fun x23 =>
   some (.go ((IntKind.i64.wrap (s_14 + 1)), (x_15.set ((x21.To).toNat) (IntKind.i64.wrap (x23 + 1))))))
   (some (.stop (.go x_15)))
def graph_Order_L2 (n : Nat) (x_9 : (List Int)) : (Int × (List Int)) → Option (Lp (Int × (List Int)) (Lp ((List Int)) ((List Int) × (List Int) × Int))) :=
 fun (s_34, x_35) =>
  cond (decide (s_34 < (x_9.length : Int)))
   (bindJ (S := (List Int))
    (idx x_9 s_34 fun x48 =>
    cond (decide (x48 = 0))
     (obind (container_heap_Push_36 n x_35 s_34) fun r50 =>
     some (.go r50))
     (some (.go x_35)))
   (fun x_42 =>
    some (.go ((IntKind.i64.wrap (s_34 + 1)), x_42))))
   (some (.stop (.go x_35)))
def graph_Order_R4 (n : Nat) : ((List Int) × (List Int)) → (Int × Int) → Option (((List Int) × (List Int)) × Option Nat) :=
 fun (x_85, x_86) (x83, x84) =>
  idx x_85 x84 fun x90 =>
  idx (x_85.set x84.toNat (IntKind.i64.wrap (x90 - 1))) x84 fun x91 =>
  cond (decide (x91 = 0))
   (obind (container_heap_Push_36 n x_86 x84) fun r93 =>
   some (((x_85.set x84.toNat (IntKind.i64.wrap (x90 - 1))), r93), none))
   (some (((x_85.set x84.toNat (IntKind.i64.wrap (x90 - 1))), x_86), none))
def graph_Order_L3 (n : Nat) (n_0 : S_api_Net) : ((List Int) × (List Int) × (List Int)) → Option (Lp ((List Int) × (List Int) × (List Int)) (Lp ((List Int) × (List Int)) ((List Int) × (List Int) × Int))) :=
 fun (order_60, x_61, x_62) =>
  obind (weirgate_graph_ints_Len_37 x_62) fun r69 =>
  cond (decide (0 < r69))
   (obind (container_heap_Pop_38 n x_62) fun r72 =>
   need (order_60.length + ([r72.1] : List Int).length ≤ 4294967296) (
   obind (graph_arcs n_0 r72.1 false) fun r78 =>
   obind (graph_arcs_1_61 n (yieldOf (graph_Order_R4 n)) ((x_61, r72.2), none) n_0 false r72.1) fun r88 =>
   onJump r88.2 (
    some (.go ((order_60 ++ ([r72.1] : List Int)), r88.1.1, r88.1.2))) []))
   (some (.stop (.go (order_60, x_61))))
def graph_Order_L5 (n_0 : S_api_Net) (x_54 : (List Int)) : (Int × (List Int)) → Option (Lp (Int × (List Int)) (Lp ((List Int)) ((List Int) × (List Int) × Int))) :=
 fun (s_104, x_105) =>
  cond (decide (s_104 < (n_0.Arcs.length : Int)))
   (bindJ (S := (List Int))
    (idx n_0.Arcs s_104 fun x116 =>
    idx x_54 x116.From fun x118 =>
    bindJ (S := Bool)
     (cond (decide (0 < x118))
      (idx x_54 x116.To fun x125 =>
      some (.go (decide (0 < x125))))
      (some (.go false)))
    (fun b119 =>
     cond b119
      (idx x_105 x116.To fun x127 =>
      some (.go (x_105.set ((x116.To).toNat) s_104)))
      (some (.go x_105))))
   (fun x_111 =>
    some (.go ((IntKind.i64.wrap (s_104 + 1)), x_111))))
   (some (.stop (.go x_105)))
def graph_Order (n : Nat) (n_0 : S_api_Net) : Option ((List Int) × (List Int) × Int) :=
 obind (graph_Valid n n_0) fun r2 =>
 cond (!r2)
  (some (([] : List Int), ([] : List Int), 1))
  (need (0 ≤ n_0.Nodes ∧ n_0.Nodes ≤ 4294967296) (
  bindJ (S := (List Int))
   (iter (graph_Order_L1 n_0) n (0, (List.replicate (n_0.Nodes).toNat (0 : Int))))
  (fun x_9 =>
   bindJ (S := (List Int))
    (iter (graph_Order_L2 n x_9) n (0, ([] : List Int)))
   (fun x_28 =>
    bindJ (S := (List Int) × (List Int))
     (iter (graph_Order_L3 n n_0) n (([] : List Int), x_9, x_28))
    (fun (order_53, x_54) =>
     cond (decide ((order_53.length : Int) = n_0.Nodes))
      (some (order_53, ([] : List Int), 0))
      (need (0 ≤ n_0.Nodes ∧ n_0.Nodes ≤ 4294967296) (
      bindJ (S := (List Int))
       (iter (graph_Order_L5 n_0 x_54) n (0, (List.replicate (n_0.Nodes).toNat (0 : Int))))
      (fun x_99 =>
       obind (slices_IndexFunc_int_int_41 n x_54) fun r128 =>
       obind (graph_around n n_0 x_99 r128) fun r130 =>
       some (([] : List Int), r130, 0)))))))))
theorem graph_Order_ok (n : Nat) (n_0 : S_api_Net) (n_0_Arcsv : Value) {r : (List Int) × (List Int) × Int} (h : graph_Order n n_0 = some r) :
  Meets Try.prog 13 [.agg #[.int .i64 n_0.Nodes, n_0_Arcsv]] [ro n_0_Arcsv 4 (n_0.Arcs.map S_api_Arc.enc)] (fun v G => ∃ v0 v1, v = .tuple #[v0, v1, .int .i64 r.2.2] ∧ G = [row v0 1 (r.1.map (eInt .i64)), row v1 1 (r.2.1.map (eInt .i64))]) := by
 refine fn_of_run Try.func13 rfl Try.ntmps13 rfl (fun w0 o0 => ?_)
 refine run_seq ?_
 refine run_region' ?_
 refine ot rfl rfl (t_box rfl) ?_
 rintro _ _ ⟨b1, rfl, rfl⟩
 refine oy rfl rfl (y_assign rfl) ?_
 refine oy rfl rfl (y_assign rfl) ?_
 refine oy rfl rfl (y_assign rfl) ?_
 refine ops_nil ?_
 refine goes_code ?_
 refine run_seq ?_
 refine run_seq ?_
 refine run_region' ?_
 refine oy rfl rfl (y_load_boxagg (c := [.int .i64 n_0.Nodes, n_0_Arcsv]) 1 Try.isAgg24 Try.sizeOf24 rfl rfl rfl) ?_
 obtain ⟨r2, hr3, h⟩ := obind_some h
 refine ot rfl rfl (t_callx (vs := [.agg #[.int .i64 n_0.Nodes, n_0_Arcsv]]) (cs := []) [(0, 0)] rfl Try.call17 rfl (graph_Valid_ok n n_0 n_0_Arcsv hr3) (showsX_view 0 rfl views_ro showsX_nil) rfl (.inl rfl)) ?_
 rintro _ _ ⟨_, ⟨rfl, rfl⟩, rfl⟩
 refine oy rfl rfl (y_not rfl) ?_
 refine ops_nil ?_
 refine goes_code ?_
 refine run_cond (!r2) rfl (fun hc4 => ?_) (fun hc4 => ?_)
 ·replace h := cond_t h hc4
  refine run_seq ?_
  refine run_region' ?_
  refine oy rfl rfl (y_assign rfl) ?_
  refine oy rfl rfl (y_assign rfl) ?_
  refine oy rfl rfl (y_assign rfl) ?_
  refine ops_nil ?_
  refine goes_code ?_
  refine run_ret ?_
  refine fin_turn (nilrow 1) ?_
  refine fin_turn (retell 2 (g := row (.slice none 0 0) 1 (([] : List Int).map (eInt .i64))) rfl rfl) ?_
  refine fin_turn (nilrow 1) ?_
  refine fin_turn (retell 3 (g := row (.slice none 0 0) 1 (([] : List Int).map (eInt .i64))) rfl rfl) ?_
  obtain rfl := some_eq h
  refine fin_slots [2, 3, 4] [(.slice none 0 0), (.slice none 0 0), .int .i64 1] [2, 3] [row (.slice none 0 0) 1 (([] : List Int).map (eInt .i64)), row (.slice none 0 0) 1 (([] : List Int).map (eInt .i64))] Try.results13 rfl (by decide) rfl ?_
  exact ⟨_, _, rfl, rfl⟩
 ·replace h := cond_f h hc4
  refine run_skip ?_
  refine goes_code ?_
  refine run_seq ?_
  refine run_region' ?_
  refine oy rfl rfl (y_fieldAddr_box (sz := 0) Try.runUnderlying24 rfl Try.sizeOf3 rfl) ?_
  refine oy rfl rfl (y_load_box 1 Try.isAgg3 rfl rfl rfl) ?_
  obtain ⟨hm6, h⟩ := need_some h
  refine ot rfl rfl (t_makeSlice (es := 1) Try.runUnderlying34 Try.typeInfo3 rfl Try.zeroValue3 rfl (by decide) rfl rfl hm6.1 hm6.2 (by decide)) ?_
  rintro v5 _ rfl
  refine ops_turn (retell 2 (g := row v5 1 ((List.replicate (n_0.Nodes).toNat (0 : Int)).map (eInt .i64))) rfl (congrArg (row _ _) (map_rep rfl))) ?_
  refine ot rfl rfl (t_alloc Try.zeroValue34) ?_
  rintro _ _ ⟨b7, rfl, rfl⟩
  refine ops_slc 2 rfl reads_row (fun hs8 hs8o => ?_)
  refine ot rfl rfl (t_store 3 Try.sizeOf34 rfl rfl rfl (by rw [hs8]; rfl) (by simp [Value.cells, boxP]) (by rw [hs8]; intro u hu; replace hu : u ∈ ([v5] : List Value) := hu; simp only [List.mem_cons, List.not_mem_nil, or_false] at hu; rcases hu with rfl <;> first | rfl | assumption)) ?_
  rintro _ _ ⟨rfl, rfl⟩
  refine ops_turn (retell 3 (g := box b7 [v5]) rfl (by rw [hs8]; rfl)) ?_
  refine ops_nil ?_
  refine goes_code ?_
  obtain ⟨o10, h, ho11⟩ := bindJ_some h
  refine run_cut (((List Int)) × (Unit)) (fun σ => [(1, boxP b1 0), (2, .slice none 0 0), (5, boxP b7 0)]) (fun σ => [box b1 [.int .i64 n_0.Nodes, n_0_Arcsv], ro n_0_Arcsv 4 (n_0.Arcs.map S_api_Arc.enc), box b7 [v5], row v5 1 (σ.1.map (eInt .i64))]) (fun σ => o10 = .go σ.1) (fun L13 hL12 => ?_) ?_
  ·
   refine run_seq ?_
   refine run_weak [(1, boxP b1 0), (2, .slice none 0 0), (5, boxP b7 0)] [0, 1, 2, 3] [ro n_0_Arcsv 4 (n_0.Arcs.map S_api_Arc.enc), box b1 [.int .i64 n_0.Nodes, n_0_Arcsv], row v5 1 ((List.replicate (n_0.Nodes).toNat (0 : Int)).map (eInt .i64)), box b7 [v5]] (qv3 rfl rfl rfl) (by decide) rfl ?_
   refine run_region' ?_
   refine oy rfl rfl (y_fieldAddr_box (sz := 0) Try.runUnderlying24 rfl Try.sizeOf22 rfl) ?_
   refine oy rfl rfl (y_load_box 1 Try.isAgg22 rfl rfl rfl) ?_
   refine oy rfl rfl ((y_len 0 rfl Try.runUnderlying22 rfl rfl reads_ro).to (v_len S_api_Arc.enc _)) ?_
   refine oy rfl rfl (y_move rfl) ?_
   refine ops_nil ?_
   refine goes_code ?_
   refine run_block ?_
   refine run_iter (step := graph_Order_L1 n_0) (n := n) (s0 := (0, (List.replicate (n_0.Nodes).toNat (0 : Int)))) h (G := Unit) () (fun σ γ => [(1, boxP b1 0), (2, .slice none 0 0), (5, boxP b7 0), (24, n_0_Arcsv), (25, .int .i64 (n_0.Arcs.length : Int)), (26, .int .i64 σ.1)]) (fun σ γ => [box b1 [.int .i64 n_0.Nodes, n_0_Arcsv], ro n_0_Arcsv 4 (n_0.Arcs.map S_api_Arc.enc), box b7 [v5], row v5 1 (σ.2.map (eInt .i64))]) [1, 0, 3, 2] (qv6 rfl rfl rfl rfl rfl rfl) (by decide) rfl ?_
   rintro ⟨s_14, x_15⟩ _ o16 h L19 hgo17 hstop18
   change Run _ _ _ (VF.of [(1, boxP b1 0), (2, .slice none 0 0), (5, boxP b7 0), (24, n_0_Arcsv), (25, .int .i64 (n_0.Arcs.length : Int)), (26, .int .i64 s_14)]) [box b1 [.int .i64 n_0.Nodes, n_0_Arcsv], ro n_0_Arcsv 4 (n_0.Arcs.map S_api_Arc.enc), box b7 [v5], row v5 1 (x_15.map (eInt .i64))]
   refine run_seq ?_
   refine run_region' ?_
   refine oy rfl rfl (y_lss rfl rfl) ?_
   refine ops_nil ?_
   refine goes_code ?_
   refine run_seq ?_
   refine run_cond (decide (s_14 < (n_0.Arcs.length : Int))) rfl (fun hc20 => ?_) (fun hc20 => ?_)
   ·replace h := cond_t h hc20
    refine run_skip ?_
    refine goes_code ?_
    refine run_seq ?_
    refine run_block ?_
    refine run_seq ?_
    refine run_region' ?_
    obtain ⟨x21, hzx21, hlx21, hxx21, h⟩ := idx_some h
    refine oy rfl rfl (y_indexAddrI (kd := .i64) (i := s_14) 1 Try.runUnderlying22 Try.sizeOf67 rfl rfl rfl reads_ro hzx21 (map_lt hlx21)) ?_
    refine oy rfl rfl (y_load_agg (i := s_14.toNat) (c := [.int .i64 x21.From, .int .i64 x21.To, .int .i64 x21.Cap, .int .i64 x21.Cost]) 1 Try.isAgg67 Try.sizeOf67 rfl rfl reads_ro (map_get hxx21)) ?_
    refine ot rfl rfl (t_alloc Try.zeroValue67) ?_
    rintro _ _ ⟨b22, rfl, rfl⟩
    refine ot rfl rfl (t_store 4 Try.sizeOf67 rfl rfl rfl rfl (by simp [Value.cells, boxP]) (by simp [Value.cells, Value.oneCell', boxP])) ?_
    rintro _ _ ⟨rfl, rfl⟩
    refine ops_turn (retell 4 (g := box b22 [.int .i64 x21.From, .int .i64 x21.To, .int .i64 x21.Cap, .int .i64 x21.Cost]) rfl rfl) ?_
    refine ops_nil ?_
    refine goes_code ?_
    refine run_region' ?_
    refine oy rfl rfl (y_load_box 2 Try.isAgg34 rfl rfl rfl) ?_
    refine oy rfl rfl (y_fieldAddr_box (sz := 0) Try.runUnderlying67 rfl Try.sizeOf3 rfl) ?_
    refine oy rfl rfl (y_load_box 4 Try.isAgg3 rfl rfl rfl) ?_
    obtain ⟨x23, hzx23, hlx23, hxx23, h⟩ := idx_some h
    refine oy rfl rfl (y_indexAddrI (kd := .i64) (i := x21.To) 3 Try.runUnderlying34 Try.sizeOf3 rfl rfl rfl reads_row hzx23 (map_lt hlx23)) ?_
    refine oy rfl rfl (y_load_elem (i := (x21.To).toNat) 3 Try.isAgg3 rfl rfl reads_row (map_get hxx23)) ?_
    refine oy rfl rfl (y_add rfl rfl) ?_
    refine oy rfl rfl (y_indexAddrI (kd := .i64) (i := x21.To) 3 Try.runUnderlying34 Try.sizeOf3 rfl rfl rfl reads_row hzx23 (map_lt hlx23)) ?_
    refine ot rfl rfl (t_store_row (i := (x21.To).toNat) (j := 0) (c := (eInt .i64) x23) 3 Try.sizeOf3 rfl rfl rfl rfl (map_get hxx23) (by decide) (by simp [Value.cells, Value.oneCell', boxP])) ?_
    rintro _ _ ⟨rfl, rfl⟩
    refine ops_turn (retell 3 (g := row v5 1 ((x_15.set ((x21.To).toNat) (IntKind.i64.wrap (x23 + 1))).map (eInt .i64))) rfl (congrArg (row _ _) (map_set_at rfl))) ?_
    refine ops_nil ?_
    refine goes_blk ?_
    refine goes_code ?_
    refine run_weak [(1, boxP b1 0), (2, .slice none 0 0), (5, boxP b7 0), (24, n_0_Arcsv), (25, .int .i64 (n_0.Arcs.length : Int)), (26, .int .i64 s_14)] [0, 1, 2, 3] [box b1 [.int .i64 n_0.Nodes, n_0_Arcsv], ro n_0_Arcsv 4 (n_0.Arcs.map S_api_Arc.enc), box b7 [v5], row v5 1 ((x_15.set ((x21.To).toNat) (IntKind.i64.wrap (x23 + 1))).map (eInt .i64))] (qv6 rfl rfl rfl rfl rfl rfl) (by decide) rfl ?_
    refine run_region' ?_
    refine oy rfl rfl (y_add rfl rfl) ?_
    refine oy rfl rfl (y_move rfl) ?_
    refine ops_nil ?_
    obtain rfl := some_eq h
    exact goes_iter hgo17 ((IntKind.i64.wrap (s_14 + 1)), (x_15.set ((x21.To).toNat) (IntKind.i64.wrap (x23 + 1)))) () [0, 1, 2, 3] rfl (qv6 rfl rfl rfl rfl rfl rfl) (by decide) rfl
   ·replace h := cond_f h hc20
    refine run_exit _ rfl ?_
    obtain rfl := some_eq h
    obtain rfl := hstop18 _ rfl
    exact goes_cut hL12 (x_15, ()) [0, 1, 2, 3] (qv3 rfl rfl rfl) (by decide) rfl rfl
  rintro ⟨x_9, _⟩ hj
  obtain rfl : o10 = _ := hj
  replace h := after_go ho11
  clear ho11
  change Run _ _ _ (VF.of [(1, boxP b1 0), (2, .slice none 0 0), (5, boxP b7 0)]) [box b1 [.int .i64 n_0.Nodes, n_0_Arcsv], ro n_0_Arcsv 4 (n_0.Arcs.map S_api_Arc.enc), box b7 [v5], row v5 1 (x_9.map (eInt .i64))]
  refine run_seq ?_
  refine run_region' ?_
  refine ot rfl rfl (t_lit [] Try.runUnderlying73 Try.sizeOf3 Try.zeroValue3 rfl (by decide) (by decide) rfl (by simp [Value.cells, boxP])) ?_
  rintro v24 _ ⟨rfl, _⟩
  refine ops_turn (retell 4 (g := row v24 1 (([] : List Int).map (eInt .i64))) rfl rfl) ?_
  refine ot rfl rfl (t_box rfl) ?_
  rintro _ _ ⟨b25, rfl, rfl⟩
  refine ops_slc 4 rfl reads_row (fun hs26 hs26o => ?_)
  refine ops_turn (retell 5 (g := box b25 [v24]) rfl (by rw [hs26])) ?_
  refine ot rfl rfl (t_alloc Try.zeroValue72) ?_
  rintro _ _ ⟨b27, rfl, rfl⟩
  refine ot rfl rfl (t_store 6 Try.sizeOf72 rfl rfl rfl rfl (by simp [Value.cells, boxP]) (by simp [Value.cells, Value.oneCell', boxP])) ?_
  rintro _ _ ⟨rfl, rfl⟩
  refine ops_turn (retell 6 (g := box b27 [boxP b25 0]) rfl rfl) ?_
  refine ops_nil ?_
  refine goes_code ?_
  obtain ⟨o30, h, ho31⟩ := bindJ_some h
  refine run_cut (((List Int)) × (Value)) (fun σ => [(1, boxP b1 0), (2, .slice none 0 0), (5, boxP b7 0), (8, boxP b27 0)]) (fun σ => [box b1 [.int .i64 n_0.Nodes, n_0_Arcsv], ro n_0_Arcsv 4 (n_0.Arcs.map S_api_Arc.enc), box b7 [v5], row v5 1 (x_9.map (eInt .i64)), box b27 [boxP b25 0], box b25 [σ.2], row σ.2 1 (σ.1.map (eInt .i64))]) (fun σ => o30 = .go σ.1) (fun L33 hL32 => ?_) ?_
  ·
   refine run_seq ?_
   refine run_region' ?_
   refine oy rfl rfl (y_load_box 2 Try.isAgg34 rfl rfl rfl) ?_
   refine oy rfl rfl ((y_len 3 rfl Try.runUnderlying34 rfl rfl reads_row).to (v_len (eInt .i64) _)) ?_
   refine oy rfl rfl (y_move rfl) ?_
   refine ops_nil ?_
   refine goes_code ?_
   refine run_block ?_
   refine run_iter (step := graph_Order_L2 n x_9) (n := n) (s0 := (0, ([] : List Int))) h (G := Value) v24 (fun σ γ => [(1, boxP b1 0), (2, .slice none 0 0), (5, boxP b7 0), (8, boxP b27 0), (40, v5), (41, .int .i64 (x_9.length : Int)), (42, .int .i64 σ.1)]) (fun σ γ => [box b1 [.int .i64 n_0.Nodes, n_0_Arcsv], ro n_0_Arcsv 4 (n_0.Arcs.map S_api_Arc.enc), box b7 [v5], row v5 1 (x_9.map (eInt .i64)), box b27 [boxP b25 0], box b25 [γ], row γ 1 (σ.2.map (eInt .i64))]) [0, 1, 2, 3, 6, 5, 4] (qv7 rfl rfl rfl rfl rfl rfl rfl) (by decide) rfl ?_
   rintro ⟨s_34, x_35⟩ v36 o37 h L40 hgo38 hstop39
   change Run _ _ _ (VF.of [(1, boxP b1 0), (2, .slice none 0 0), (5, boxP b7 0), (8, boxP b27 0), (40, v5), (41, .int .i64 (x_9.length : Int)), (42, .int .i64 s_34)]) [box b1 [.int .i64 n_0.Nodes, n_0_Arcsv], ro n_0_Arcsv 4 (n_0.Arcs.map S_api_Arc.enc), box b7 [v5], row v5 1 (x_9.map (eInt .i64)), box b27 [boxP b25 0], box b25 [v36], row v36 1 (x_35.map (eInt .i64))]
   refine run_seq ?_
   refine run_region' ?_
   refine oy rfl rfl (y_lss rfl rfl) ?_
   refine ops_nil ?_
   refine goes_code ?_
   refine run_seq ?_
   refine run_cond (decide (s_34 < (x_9.length : Int))) rfl (fun hc41 => ?_) (fun hc41 => ?_)
   ·replace h := cond_t h hc41
    refine run_skip ?_
    refine goes_code ?_
    obtain ⟨o44, h, ho45⟩ := bindJ_some h
    refine run_cut (((List Int)) × (Value)) (fun σ => [(1, boxP b1 0), (2, .slice none 0 0), (5, boxP b7 0), (8, boxP b27 0), (40, v5), (41, .int .i64 (x_9.length : Int)), (42, .int .i64 s_34)]) (fun σ => [box b1 [.int .i64 n_0.Nodes, n_0_Arcsv], ro n_0_Arcsv 4 (n_0.Arcs.map S_api_Arc.enc), box b7 [v5], row v5 1 (x_9.map (eInt .i64)), box b27 [boxP b25 0], box b25 [σ.2], row σ.2 1 (σ.1.map (eInt .i64))]) (fun σ => o44 = .go σ.1) (fun L47 hL46 => ?_) ?_
    ·
     refine run_block ?_
     refine run_seq ?_
     refine run_region' ?_
     refine oy rfl rfl (y_move rfl) ?_
     obtain ⟨x48, hzx48, hlx48, hxx48, h⟩ := idx_some h
     refine oy rfl rfl (y_indexAddrI (kd := .i64) (i := s_34) 3 Try.runUnderlying34 Try.sizeOf3 rfl rfl rfl reads_row hzx48 (map_lt hlx48)) ?_
     refine oy rfl rfl (y_load_elem (i := s_34.toNat) 3 Try.isAgg3 rfl rfl reads_row (map_get hxx48)) ?_
     refine oy rfl rfl (y_assign rfl) ?_
     refine oy rfl rfl (y_assign rfl) ?_
     refine ops_nil ?_
     refine goes_code ?_
     refine run_seq ?_
     refine run_region' ?_
     refine oy rfl rfl (y_move rfl) ?_
     refine oy rfl rfl (y_eql rfl rfl) ?_
     refine ops_nil ?_
     refine goes_code ?_
     refine run_cond (decide (x48 = 0)) rfl (fun hc49 => ?_) (fun hc49 => ?_)
     ·replace h := cond_t h hc49
      refine run_weak [(1, boxP b1 0), (2, .slice none 0 0), (5, boxP b7 0), (8, boxP b27 0), (40, v5), (41, .int .i64 (x_9.length : Int)), (42, .int .i64 s_34), (9, .int .i64 s_34)] [0, 1, 2, 3, 4, 5, 6] [box b1 [.int .i64 n_0.Nodes, n_0_Arcsv], ro n_0_Arcsv 4 (n_0.Arcs.map S_api_Arc.enc), box b7 [v5], row v5 1 (x_9.map (eInt .i64)), box b27 [boxP b25 0], box b25 [v36], row v36 1 (x_35.map (eInt .i64))] (qv8 rfl rfl rfl rfl rfl rfl rfl rfl) (by decide) rfl ?_
      refine run_region' ?_
      refine oy rfl rfl (y_load_box 4 Try.isAgg72 rfl rfl rfl) ?_
      refine oy rfl rfl (y_mkIface Try.runUnderlying72 rfl rfl) ?_
      refine oy rfl rfl (y_move rfl) ?_
      refine oy rfl rfl (y_mkIface Try.runUnderlying3 rfl rfl) ?_
      obtain ⟨r50, hr51, h⟩ := obind_some h
      refine ot rfl rfl (t_callx (vs := [.iface 72 (boxP b25 0), .iface 3 (.int .i64 s_34)]) (cs := []) [(6, 2), (5, 2)] rfl Try.call36 rfl (container_heap_Push_36_ok n x_35 s_34 b25 v36 hr51) (showsX_lend 6 rfl (showsX_lend 5 rfl showsX_nil)) rfl (.inl rfl)) ?_
      rintro _ _ ⟨_, ⟨v52, rfl, rfl⟩, rfl⟩
      refine ops_nil ?_
      refine goes_blk ?_
      obtain rfl := some_eq h
      exact goes_cut hL46 (r50, v52) [0, 1, 2, 3, 4, 8, 7] (qv7 rfl rfl rfl rfl rfl rfl rfl) (by decide) rfl rfl
     ·replace h := cond_f h hc49
      refine run_skip ?_
      refine goes_blk ?_
      obtain rfl := some_eq h
      exact goes_cut hL46 (x_35, v36) [0, 1, 2, 3, 4, 5, 6] (qv7 rfl rfl rfl rfl rfl rfl rfl) (by decide) rfl rfl
    rintro ⟨x_42, v43⟩ hj
    obtain rfl : o44 = _ := hj
    replace h := after_go ho45
    clear ho45
    change Run _ _ _ (VF.of [(1, boxP b1 0), (2, .slice none 0 0), (5, boxP b7 0), (8, boxP b27 0), (40, v5), (41, .int .i64 (x_9.length : Int)), (42, .int .i64 s_34)]) [box b1 [.int .i64 n_0.Nodes, n_0_Arcsv], ro n_0_Arcsv 4 (n_0.Arcs.map S_api_Arc.enc), box b7 [v5], row v5 1 (x_9.map (eInt .i64)), box b27 [boxP b25 0], box b25 [v43], row v43 1 (x_42.map (eInt .i64))]
    refine run_region' ?_
    refine oy rfl rfl (y_add rfl rfl) ?_
    refine oy rfl rfl (y_move rfl) ?_
    refine ops_nil ?_
    obtain rfl := some_eq h
    exact goes_iter hgo38 ((IntKind.i64.wrap (s_34 + 1)), x_42) v43 [0, 1, 2, 3, 4, 5, 6] rfl (qv7 rfl rfl rfl rfl rfl rfl rfl) (by decide) rfl
   ·replace h := cond_f h hc41
    refine run_exit _ rfl ?_
    obtain rfl := some_eq h
    obtain rfl := hstop39 _ rfl
    exact goes_cut hL32 (x_35, v36) [0, 1, 2, 3, 4, 5, 6] (qv4 rfl rfl rfl rfl) (by decide) rfl rfl
  rintro ⟨x_28, v29⟩ hj
  obtain rfl : o30 = _ := hj
  replace h := after_go ho31
  clear ho31
  change Run _ _ _ (VF.of [(1, boxP b1 0), (2, .slice none 0 0), (5, boxP b7 0), (8, boxP b27 0)]) [box b1 [.int .i64 n_0.Nodes, n_0_Arcsv], ro n_0_Arcsv 4 (n_0.Arcs.map S_api_Arc.enc), box b7 [v5], row v5 1 (x_9.map (eInt .i64)), box b27 [boxP b25 0], box b25 [v29], row v29 1 (x_28.map (eInt .i64))]
  obtain ⟨o56, h, ho57⟩ := bindJ_some h
  refine run_cut (((List Int) × (List Int)) × (Value)) (fun σ => [(1, boxP b1 0), (2, σ.2), (5, boxP b7 0)]) (fun σ => [box b1 [.int .i64 n_0.Nodes, n_0_Arcsv], ro n_0_Arcsv 4 (n_0.Arcs.map S_api_Arc.enc), row σ.2 1 (σ.1.1.map (eInt .i64)), box b7 [v5], row v5 1 (σ.1.2.map (eInt .i64))]) (fun σ => o56 = .go σ.1) (fun L59 hL58 => ?_) ?_
  ·
   refine run_block ?_
   refine run_turn (nilrow 1) ?_
   refine run_turn (retell 7 (g := row (.slice none 0 0) 1 (([] : List Int).map (eInt .i64))) rfl rfl) ?_
   refine run_iter (step := graph_Order_L3 n n_0) (n := n) (s0 := (([] : List Int), x_9, x_28)) h (G := Value × Value) ((.slice none 0 0), v29) (fun σ γ => [(1, boxP b1 0), (2, γ.1), (5, boxP b7 0), (8, boxP b27 0)]) (fun σ γ => [box b1 [.int .i64 n_0.Nodes, n_0_Arcsv], ro n_0_Arcsv 4 (n_0.Arcs.map S_api_Arc.enc), row γ.1 1 (σ.1.map (eInt .i64)), box b7 [v5], row v5 1 (σ.2.1.map (eInt .i64)), box b27 [boxP b25 0], box b25 [γ.2], row γ.2 1 (σ.2.2.map (eInt .i64))]) [0, 1, 7, 2, 3, 4, 5, 6] (qv4 rfl rfl rfl rfl) (by decide) rfl ?_
   rintro ⟨order_60, x_61, x_62⟩ ⟨v63, v64⟩ o65 h L68 hgo66 hstop67
   change Run _ _ _ (VF.of [(1, boxP b1 0), (2, v63), (5, boxP b7 0), (8, boxP b27 0)]) [box b1 [.int .i64 n_0.Nodes, n_0_Arcsv], ro n_0_Arcsv 4 (n_0.Arcs.map S_api_Arc.enc), row v63 1 (order_60.map (eInt .i64)), box b7 [v5], row v5 1 (x_61.map (eInt .i64)), box b27 [boxP b25 0], box b25 [v64], row v64 1 (x_62.map (eInt .i64))]
   refine run_seq ?_
   refine run_seq ?_
   refine run_region' ?_
   refine oy rfl rfl (y_load_box 5 Try.isAgg72 rfl rfl rfl) ?_
   refine oy rfl rfl (y_nilBox rfl) ?_
   refine oy rfl rfl (y_load_box 6 Try.isAgg73 rfl rfl rfl) ?_
   obtain ⟨r69, hr70, h⟩ := obind_some h
   refine ot rfl rfl (t_callx (vs := [v64]) (cs := []) [(7, 1)] rfl Try.call37 rfl (weirgate_graph_ints_Len_37_ok x_62 v64 hr70) (showsX_look 7 rfl views_row showsX_nil) rfl (.inr (by rintro _ _ ⟨rfl, rfl⟩ g hg; first | (cases hg; done) | (simp only [List.mem_cons, List.not_mem_nil, or_false] at hg; first | (subst hg; first | exact strict_row | exact strict_box) | (rcases hg with rfl | rfl <;> first | exact strict_row | exact strict_box) | (rcases hg with rfl | rfl | rfl <;> first | exact strict_row | exact strict_box))))) ?_
   rintro _ _ ⟨_, ⟨rfl, rfl⟩, rfl⟩
   refine oy rfl rfl (y_gtr rfl rfl) ?_
   refine ops_nil ?_
   refine goes_code ?_
   refine run_cond (decide (0 < r69)) rfl (fun hc71 => ?_) (fun hc71 => ?_)
   ·replace h := cond_t h hc71
    refine run_skip ?_
    refine goes_code ?_
    refine run_block ?_
    refine run_seq ?_
    refine run_region' ?_
    refine oy rfl rfl (y_load_box 5 Try.isAgg72 rfl rfl rfl) ?_
    refine oy rfl rfl (y_mkIface Try.runUnderlying72 rfl rfl) ?_
    obtain ⟨r72, hr73, h⟩ := obind_some h
    refine ot rfl rfl (t_callx (vs := [.iface 72 (boxP b25 0)]) (cs := []) [(7, 2), (6, 2)] rfl Try.call38 rfl (container_heap_Pop_38_ok n x_62 b25 v64 hr73) (showsX_lend 7 rfl (showsX_lend 6 rfl showsX_nil)) rfl (.inl rfl)) ?_
    rintro _ _ ⟨_, ⟨v74, rfl, rfl⟩, rfl⟩
    refine oy rfl rfl (y_assert Try.runUnderlying3 rfl rfl) ?_
    refine oy rfl rfl (y_assign rfl) ?_
    refine ops_nil ?_
    refine goes_code ?_
    refine run_seq ?_
    refine run_weak [(1, boxP b1 0), (2, v63), (5, boxP b7 0), (8, boxP b27 0), (11, .int .i64 r72.1)] [0, 1, 2, 3, 4, 5, 8, 9] [box b1 [.int .i64 n_0.Nodes, n_0_Arcsv], ro n_0_Arcsv 4 (n_0.Arcs.map S_api_Arc.enc), row v63 1 (order_60.map (eInt .i64)), box b7 [v5], row v5 1 (x_61.map (eInt .i64)), box b27 [boxP b25 0], row v74 1 (r72.2.map (eInt .i64)), box b25 [v74]] (qv5 rfl rfl rfl rfl rfl) (by decide) rfl ?_
    refine run_region' ?_
    refine oy rfl rfl (y_move rfl) ?_
    refine oy rfl rfl (y_move rfl) ?_
    refine ot rfl rfl (t_lit [.int .i64 r72.1] Try.runUnderlying34 Try.sizeOf3 Try.zeroValue3 rfl (by decide) (by decide) rfl (by simp [Value.cells, boxP])) ?_
    rintro v75 _ ⟨rfl, _⟩
    refine ops_turn (retell 8 (g := row v75 1 (([r72.1] : List Int).map (eInt .i64))) rfl rfl) ?_
    obtain ⟨hr77, h⟩ := need_some h
    refine ot rfl rfl (t_append (es := 1) 2 rfl Try.runUnderlying34 rfl Try.runUnderlying34 (.inr ⟨_, rfl⟩) Try.typeInfo3 rfl (by decide) Try.zeroValue3 rfl rfl rfl rfl (src_reads 8 rfl reads_row (map_ok (eInt_ok _) _)) (map_room hr77 (by decide)) (map_fit hr77)) ?_
    rintro v76 _ rfl
    refine ops_turn (retell 2 (g := row v76 1 ((order_60 ++ ([r72.1] : List Int)).map (eInt .i64))) rfl (congrArg (row _ _) List.map_append.symm)) ?_
    refine oy rfl rfl (y_assign rfl) ?_
    refine ops_nil ?_
    refine goes_code ?_
    refine run_seq ?_
    refine run_region' ?_
    refine oy rfl rfl (y_load_boxagg (c := [.int .i64 n_0.Nodes, n_0_Arcsv]) 0 Try.isAgg24 Try.sizeOf24 rfl rfl rfl) ?_
    refine oy rfl rfl (y_move rfl) ?_
    obtain ⟨r78, hr79, h⟩ := obind_some h
    refine ot rfl rfl (t_callx (vs := [.agg #[.int .i64 n_0.Nodes, n_0_Arcsv], .int .i64 r72.1, .bool false]) (cs := []) [(1, 0)] rfl Try.call39 rfl (graph_arcs_ok n_0 r72.1 false n_0_Arcsv hr79) (showsX_view 1 rfl views_ro showsX_nil) rfl (.inl rfl)) ?_
    rintro _ _ ⟨_, ⟨v80, v81, v82, rfl, rfl⟩, rfl⟩
    refine ops_nil ?_
    refine goes_code ?_
    refine run_block ?_
    refine run_weak [(1, boxP b1 0), (2, v76), (5, boxP b7 0), (8, boxP b27 0), (70, .func (.func 61) #[] #[boxP v80 0, boxP v81 0, boxP v82 0])] [0, 1, 2, 3, 4, 5, 6, 7, 9, 10, 11] [box b1 [.int .i64 n_0.Nodes, n_0_Arcsv], ro n_0_Arcsv 4 (n_0.Arcs.map S_api_Arc.enc), row v76 1 ((order_60 ++ ([r72.1] : List Int)).map (eInt .i64)), box b7 [v5], row v5 1 (x_61.map (eInt .i64)), box b27 [boxP b25 0], row v74 1 (r72.2.map (eInt .i64)), box b25 [v74], box v80 [.int .i64 n_0.Nodes, n_0_Arcsv], box v81 [.bool false], box v82 [.int .i64 r72.1]] (qv5 rfl rfl rfl rfl rfl) (by decide) rfl ?_
    obtain ⟨r88, hr89, h⟩ := obind_some h
    refine run_rangeFunc (S := (List Int) × (List Int)) (G := Value) (jumps := []) (Hs := fun σ γ => [box b7 [v5], row v5 1 (σ.1.map (eInt .i64)), box b27 [boxP b25 0], box b25 [γ], row γ 1 (σ.2.map (eInt .i64))]) (step := (graph_Order_R4 n)) (ps := [71, 72]) (Gr := [box v80 [.int .i64 n_0.Nodes, n_0_Arcsv], box v81 [.bool false], box v82 [.int .i64 r72.1]]) (fun x => [.int .i64 x.1, .int .i64 x.2]) (x_61, r72.2) v74 [3, 4, 5, 7, 6] [(1, 0), (8, 2), (9, 2), (10, 2)] (r := r88) rfl rfl Try.call61 (fun _ => rfl) rfl (by decide) rfl ?_ (fun l A hy => graph_arcs_1_61_ok n (yieldOf (graph_Order_R4 n)) ((x_61, r72.2), none) n_0 false r72.1 l A hy v80 n_0_Arcsv v81 v82 hr89) (showsX_view 1 rfl views_ro (showsX_lend 8 rfl (showsX_lend 9 rfl (showsX_lend 10 rfl showsX_nil)))) rfl rfl ?_ ?_
    ·rintro l ⟨x_85, x_86⟩ ⟨x83, x84⟩ sN jN hN v87 w0 o0 L hL
     obtain ⟨pN, hp⟩ : ∃ pN, pN = (sN, jN) := ⟨_, rfl⟩
     rw [← hp] at hN
     replace h := hN
     clear hN
     change Run _ _ _ (VF.of [(72, .int .i64 x84), (71, .int .i64 x83), (1, boxP b1 0), (2, v76), (5, boxP b7 0), (8, boxP b27 0), (70, .func (.func 61) #[] #[boxP v80 0, boxP v81 0, boxP v82 0])]) [box b7 [v5], row v5 1 (x_85.map (eInt .i64)), box b27 [boxP b25 0], box b25 [v87], row v87 1 (x_86.map (eInt .i64))]
     refine run_weak [(5, boxP b7 0), (8, boxP b27 0), (71, .int .i64 x83), (72, .int .i64 x84)] [0, 1, 2, 3, 4] [box b7 [v5], row v5 1 (x_85.map (eInt .i64)), box b27 [boxP b25 0], box b25 [v87], row v87 1 (x_86.map (eInt .i64))] (qv4 rfl rfl rfl rfl) (by decide) rfl ?_
     refine run_region' ?_
     refine oy rfl rfl (y_assign rfl) ?_
     refine ops_nil ?_
     refine goes_round hL (fun w1 o1 => ?_)
     refine run_block ?_
     refine run_seq ?_
     refine run_region' ?_
     refine oy rfl rfl (y_load_box 0 Try.isAgg34 rfl rfl rfl) ?_
     refine oy rfl rfl (y_move rfl) ?_
     obtain ⟨x90, hzx90, hlx90, hxx90, h⟩ := idx_some h
     refine oy rfl rfl (y_indexAddrI (kd := .i64) (i := x84) 1 Try.runUnderlying34 Try.sizeOf3 rfl rfl rfl reads_row hzx90 (map_lt hlx90)) ?_
     refine oy rfl rfl (y_load_elem (i := x84.toNat) 1 Try.isAgg3 rfl rfl reads_row (map_get hxx90)) ?_
     refine oy rfl rfl (y_sub rfl rfl) ?_
     refine oy rfl rfl (y_indexAddrI (kd := .i64) (i := x84) 1 Try.runUnderlying34 Try.sizeOf3 rfl rfl rfl reads_row hzx90 (map_lt hlx90)) ?_
     refine ot rfl rfl (t_store_row (i := x84.toNat) (j := 0) (c := (eInt .i64) x90) 1 Try.sizeOf3 rfl rfl rfl rfl (map_get hxx90) (by decide) (by simp [Value.cells, Value.oneCell', boxP])) ?_
     rintro _ _ ⟨rfl, rfl⟩
     refine ops_turn (retell 1 (g := row v5 1 ((x_85.set x84.toNat (IntKind.i64.wrap (x90 - 1))).map (eInt .i64))) rfl (congrArg (row _ _) (map_set_at rfl))) ?_
     refine ops_nil ?_
     refine goes_code ?_
     refine run_seq ?_
     refine run_weak [(5, boxP b7 0), (8, boxP b27 0), (13, .int .i64 x84)] [0, 1, 2, 3, 4] [box b7 [v5], row v5 1 ((x_85.set x84.toNat (IntKind.i64.wrap (x90 - 1))).map (eInt .i64)), box b27 [boxP b25 0], box b25 [v87], row v87 1 (x_86.map (eInt .i64))] (qv3 rfl rfl rfl) (by decide) rfl ?_
     refine run_region' ?_
     refine oy rfl rfl (y_load_box 0 Try.isAgg34 rfl rfl rfl) ?_
     refine oy rfl rfl (y_move rfl) ?_
     obtain ⟨x91, hzx91, hlx91, hxx91, h⟩ := idx_some h
     refine oy rfl rfl (y_indexAddrI (kd := .i64) (i := x84) 1 Try.runUnderlying34 Try.sizeOf3 rfl rfl rfl reads_row hzx91 (map_lt hlx91)) ?_
     refine oy rfl rfl (y_load_elem (i := x84.toNat) 1 Try.isAgg3 rfl rfl reads_row (map_get hxx91)) ?_
     refine oy rfl rfl (y_eql rfl rfl) ?_
     refine ops_nil ?_
     refine goes_code ?_
     refine run_cond (decide (x91 = 0)) rfl (fun hc92 => ?_) (fun hc92 => ?_)
     ·replace h := cond_t h hc92
      refine run_region' ?_
      refine oy rfl rfl (y_load_box 2 Try.isAgg72 rfl rfl rfl) ?_
      refine oy rfl rfl (y_mkIface Try.runUnderlying72 rfl rfl) ?_
      refine oy rfl rfl (y_move rfl) ?_
      refine oy rfl rfl (y_mkIface Try.runUnderlying3 rfl rfl) ?_
      obtain ⟨r93, hr94, h⟩ := obind_some h
      refine ot rfl rfl (t_callx (vs := [.iface 72 (boxP b25 0), .iface 3 (.int .i64 x84)]) (cs := []) [(4, 2), (3, 2)] rfl Try.call36 rfl (container_heap_Push_36_ok n x_86 x84 b25 v87 hr94) (showsX_lend 4 rfl (showsX_lend 3 rfl showsX_nil)) rfl (.inl rfl)) ?_
      rintro _ _ ⟨_, ⟨v95, rfl, rfl⟩, rfl⟩
      refine ops_nil ?_
      refine goes_blk ?_
      obtain rfl := some_eq h
      obtain ⟨rfl, rfl⟩ := Prod.mk.inj hp
      exact round_go v95 [0, 1, 2, 6, 5] (by decide) rfl rfl
     ·replace h := cond_f h hc92
      refine run_skip ?_
      refine goes_blk ?_
      obtain rfl := some_eq h
      obtain ⟨rfl, rfl⟩ := Prod.mk.inj hp
      exact round_go v87 [0, 1, 2, 3, 4] (by decide) rfl rfl
    ·intro hn γ
     replace h := onJump_none hn h
     change Goes _ _ (VF.of [(1, boxP b1 0), (2, v76), (5, boxP b7 0), (8, boxP b27 0), (70, .func (.func 61) #[] #[boxP v80 0, boxP v81 0, boxP v82 0])]) [box b1 [.int .i64 n_0.Nodes, n_0_Arcsv], ro n_0_Arcsv 4 (n_0.Arcs.map S_api_Arc.enc), row v76 1 ((order_60 ++ ([r72.1] : List Int)).map (eInt .i64)), HA.emp, HA.emp, HA.emp, HA.emp, HA.emp, HA.emp, HA.emp, HA.emp, box v80 [.int .i64 n_0.Nodes, n_0_Arcsv], box v81 [.bool false], box v82 [.int .i64 r72.1], box b7 [v5], row v5 1 (r88.1.1.map (eInt .i64)), box b27 [boxP b25 0], box b25 [γ], row γ 1 (r88.1.2.map (eInt .i64))]
     refine goes_blk ?_
     refine goes_blk ?_
     obtain rfl := some_eq h
     exact goes_iter hgo66 ((order_60 ++ ([r72.1] : List Int)), r88.1.1, r88.1.2) (v76, γ) [0, 1, 2, 14, 15, 16, 17, 18] rfl (qv4 rfl rfl rfl rfl) (by decide) rfl
    ·intro iJ hi
     obtain ⟨xJ, hx, h⟩ := onJump_some hi h
     simp at hx
   ·replace h := cond_f h hc71
    refine run_exit _ rfl ?_
    obtain rfl := some_eq h
    obtain rfl := hstop67 _ rfl
    exact goes_cut hL58 ((order_60, x_61), v63) [0, 1, 2, 3, 4] (qv3 rfl rfl rfl) (by decide) rfl rfl
  rintro ⟨⟨order_53, x_54⟩, v55⟩ hj
  obtain rfl : o56 = _ := hj
  replace h := after_go ho57
  clear ho57
  change Run _ _ _ (VF.of [(1, boxP b1 0), (2, v55), (5, boxP b7 0)]) [box b1 [.int .i64 n_0.Nodes, n_0_Arcsv], ro n_0_Arcsv 4 (n_0.Arcs.map S_api_Arc.enc), row v55 1 (order_53.map (eInt .i64)), box b7 [v5], row v5 1 (x_54.map (eInt .i64))]
  refine run_seq ?_
  refine run_seq ?_
  refine run_region' ?_
  refine oy rfl rfl (y_move rfl) ?_
  refine oy rfl rfl ((y_len 2 rfl Try.runUnderlying34 rfl rfl reads_row).to (v_len (eInt .i64) _)) ?_
  refine oy rfl rfl (y_fieldAddr_box (sz := 0) Try.runUnderlying24 rfl Try.sizeOf3 rfl) ?_
  refine oy rfl rfl (y_load_box 0 Try.isAgg3 rfl rfl rfl) ?_
  refine oy rfl rfl (y_eql rfl rfl) ?_
  refine ops_nil ?_
  refine goes_code ?_
  refine run_cond (decide ((order_53.length : Int) = n_0.Nodes)) rfl (fun hc96 => ?_) (fun hc96 => ?_)
  ·replace h := cond_t h hc96
   refine run_seq ?_
   refine run_region' ?_
   refine oy rfl rfl (y_move rfl) ?_
   refine oy rfl rfl (y_assign rfl) ?_
   refine oy rfl rfl (y_assign rfl) ?_
   refine oy rfl rfl (y_assign rfl) ?_
   refine ops_nil ?_
   refine goes_code ?_
   refine run_ret ?_
   refine fin_turn (nilrow 1) ?_
   refine fin_turn (retell 5 (g := row (.slice none 0 0) 1 (([] : List Int).map (eInt .i64))) rfl rfl) ?_
   obtain rfl := some_eq h
   refine fin_slots [2, 3, 4] [v55, (.slice none 0 0), .int .i64 0] [2, 5] [row v55 1 (order_53.map (eInt .i64)), row (.slice none 0 0) 1 (([] : List Int).map (eInt .i64))] Try.results13 rfl (by decide) rfl ?_
   exact ⟨_, _, rfl, rfl⟩
  ·replace h := cond_f h hc96
   refine run_skip ?_
   refine goes_code ?_
   refine run_seq ?_
   refine run_region' ?_
   refine oy rfl rfl (y_fieldAddr_box (sz := 0) Try.runUnderlying24 rfl Try.sizeOf3 rfl) ?_
   refine oy rfl rfl (y_load_box 0 Try.isAgg3 rfl rfl rfl) ?_
   obtain ⟨hm98, h⟩ := need_some h
   refine ot rfl rfl (t_makeSlice (es := 1) Try.runUnderlying34 Try.typeInfo3 rfl Try.zeroValue3 rfl (by decide) rfl rfl hm98.1 hm98.2 (by decide)) ?_
   rintro v97 _ rfl
   refine ops_turn (retell 5 (g := row v97 1 ((List.replicate (n_0.Nodes).toNat (0 : Int)).map (eInt .i64))) rfl (congrArg (row _ _) (map_rep rfl))) ?_
   refine oy rfl rfl (y_assign rfl) ?_
   refine ops_nil ?_
   refine goes_code ?_
   obtain ⟨o100, h, ho101⟩ := bindJ_some h
   refine run_cut (((List Int)) × (Unit)) (fun σ => [(1, boxP b1 0), (5, boxP b7 0), (14, v97)]) (fun σ => [box b1 [.int .i64 n_0.Nodes, n_0_Arcsv], ro n_0_Arcsv 4 (n_0.Arcs.map S_api_Arc.enc), box b7 [v5], row v5 1 (x_54.map (eInt .i64)), row v97 1 (σ.1.map (eInt .i64))]) (fun σ => o100 = .go σ.1) (fun L103 hL102 => ?_) ?_
   ·
    refine run_seq ?_
    refine run_weak [(1, boxP b1 0), (5, boxP b7 0), (14, v97)] [0, 1, 3, 4, 5] [box b1 [.int .i64 n_0.Nodes, n_0_Arcsv], ro n_0_Arcsv 4 (n_0.Arcs.map S_api_Arc.enc), box b7 [v5], row v5 1 (x_54.map (eInt .i64)), row v97 1 ((List.replicate (n_0.Nodes).toNat (0 : Int)).map (eInt .i64))] (qv3 rfl rfl rfl) (by decide) rfl ?_
    refine run_region' ?_
    refine oy rfl rfl (y_fieldAddr_box (sz := 0) Try.runUnderlying24 rfl Try.sizeOf22 rfl) ?_
    refine oy rfl rfl (y_load_box 0 Try.isAgg22 rfl rfl rfl) ?_
    refine oy rfl rfl ((y_len 1 rfl Try.runUnderlying22 rfl rfl reads_ro).to (v_len S_api_Arc.enc _)) ?_
    refine oy rfl rfl (y_move rfl) ?_
    refine ops_nil ?_
    refine goes_code ?_
    refine run_block ?_
    refine run_iter (step := graph_Order_L5 n_0 x_54) (n := n) (s0 := (0, (List.replicate (n_0.Nodes).toNat (0 : Int)))) h (G := Unit) () (fun σ γ => [(1, boxP b1 0), (5, boxP b7 0), (14, v97), (99, n_0_Arcsv), (100, .int .i64 (n_0.Arcs.length : Int)), (101, .int .i64 σ.1)]) (fun σ γ => [box b1 [.int .i64 n_0.Nodes, n_0_Arcsv], ro n_0_Arcsv 4 (n_0.Arcs.map S_api_Arc.enc), box b7 [v5], row v5 1 (x_54.map (eInt .i64)), row v97 1 (σ.2.map (eInt .i64))]) [0, 1, 2, 3, 4] (qv6 rfl rfl rfl rfl rfl rfl) (by decide) rfl ?_
    rintro ⟨s_104, x_105⟩ _ o106 h L109 hgo107 hstop108
    change Run _ _ _ (VF.of [(1, boxP b1 0), (5, boxP b7 0), (14, v97), (99, n_0_Arcsv), (100, .int .i64 (n_0.Arcs.length : Int)), (101, .int .i64 s_104)]) [box b1 [.int .i64 n_0.Nodes, n_0_Arcsv], ro n_0_Arcsv 4 (n_0.Arcs.map S_api_Arc.enc), box b7 [v5], row v5 1 (x_54.map (eInt .i64)), row v97 1 (x_105.map (eInt .i64))]
    refine run_seq ?_
    refine run_region' ?_
    refine oy rfl rfl (y_lss rfl rfl) ?_
    refine ops_nil ?_
    refine goes_code ?_
    refine run_seq ?_
    refine run_cond (decide (s_104 < (n_0.Arcs.length : Int))) rfl (fun hc110 => ?_) (fun hc110 => ?_)
    ·replace h := cond_t h hc110
     refine run_skip ?_
     refine goes_code ?_
     obtain ⟨o112, h, ho113⟩ := bindJ_some h
     refine run_cut (((List Int)) × (Unit)) (fun σ => [(1, boxP b1 0), (5, boxP b7 0), (14, v97), (99, n_0_Arcsv), (100, .int .i64 (n_0.Arcs.length : Int)), (101, .int .i64 s_104)]) (fun σ => [box b1 [.int .i64 n_0.Nodes, n_0_Arcsv], ro n_0_Arcsv 4 (n_0.Arcs.map S_api_Arc.enc), box b7 [v5], row v5 1 (x_54.map (eInt .i64)), row v97 1 (σ.1.map (eInt .i64))]) (fun σ => o112 = .go σ.1) (fun L115 hL114 => ?_) ?_
     ·
      refine run_block ?_
      refine run_seq ?_
      refine run_region' ?_
      refine oy rfl rfl (y_move rfl) ?_
      obtain ⟨x116, hzx116, hlx116, hxx116, h⟩ := idx_some h
      refine oy rfl rfl (y_indexAddrI (kd := .i64) (i := s_104) 1 Try.runUnderlying22 Try.sizeOf67 rfl rfl rfl reads_ro hzx116 (map_lt hlx116)) ?_
      refine oy rfl rfl (y_load_agg (i := s_104.toNat) (c := [.int .i64 x116.From, .int .i64 x116.To, .int .i64 x116.Cap, .int .i64 x116.Cost]) 1 Try.isAgg67 Try.sizeOf67 rfl rfl reads_ro (map_get hxx116)) ?_
      refine ot rfl rfl (t_alloc Try.zeroValue67) ?_
      rintro _ _ ⟨b117, rfl, rfl⟩
      refine oy rfl rfl (y_assign rfl) ?_
      refine ot rfl rfl (t_store 5 Try.sizeOf67 rfl rfl rfl rfl (by simp [Value.cells, boxP]) (by simp [Value.cells, Value.oneCell', boxP])) ?_
      rintro _ _ ⟨rfl, rfl⟩
      refine ops_turn (retell 5 (g := box b117 [.int .i64 x116.From, .int .i64 x116.To, .int .i64 x116.Cap, .int .i64 x116.Cost]) rfl rfl) ?_
      refine ops_nil ?_
      refine goes_code ?_
      refine run_seq ?_
      refine run_region' ?_
      refine oy rfl rfl (y_load_box 2 Try.isAgg34 rfl rfl rfl) ?_
      refine oy rfl rfl (y_fieldAddr_box (sz := 0) Try.runUnderlying67 rfl Try.sizeOf3 rfl) ?_
      refine oy rfl rfl (y_load_box 5 Try.isAgg3 rfl rfl rfl) ?_
      obtain ⟨x118, hzx118, hlx118, hxx118, h⟩ := idx_some h
      refine oy rfl rfl (y_indexAddrI (kd := .i64) (i := x116.From) 3 Try.runUnderlying34 Try.sizeOf3 rfl rfl rfl reads_row hzx118 (map_lt hlx118)) ?_
      refine oy rfl rfl (y_load_elem (i := (x116.From).toNat) 3 Try.isAgg3 rfl rfl reads_row (map_get hxx118)) ?_
      refine oy rfl rfl (y_gtr rfl rfl) ?_
      refine oy rfl rfl (y_move rfl) ?_
      obtain ⟨o120, h, ho121⟩ := bindJ_some h
      refine ops_cut 7 (Bool) (fun σ => [(1, boxP b1 0), (5, boxP b7 0), (14, v97), (99, n_0_Arcsv), (100, .int .i64 (n_0.Arcs.length : Int)), (101, .int .i64 s_104), (16, boxP b117 0), (15, .int .i64 s_104), (119, .bool σ)]) (fun σ => [box b1 [.int .i64 n_0.Nodes, n_0_Arcsv], ro n_0_Arcsv 4 (n_0.Arcs.map S_api_Arc.enc), box b7 [v5], row v5 1 (x_54.map (eInt .i64)), row v97 1 (x_105.map (eInt .i64)), box b117 [.int .i64 x116.From, .int .i64 x116.To, .int .i64 x116.Cap, .int .i64 x116.Cost]]) (fun σ => o120 = .go σ) (fun L122 hL123 => ?_) ?_
      ·refine ops_split 112 (decide (0 < x118)) rfl (fun hg124 => ?_) (fun hg124 => ?_)
       ·replace h := cond_t h hg124
        refine ops_y (wg 6 true 112 rfl rfl rfl rfl) rfl (y_load_box 2 Try.isAgg34 rfl rfl rfl) ?_
        refine ops_weak [(1, boxP b1 0), (5, boxP b7 0), (14, v97), (99, n_0_Arcsv), (100, .int .i64 (n_0.Arcs.length : Int)), (101, .int .i64 s_104), (16, boxP b117 0), (15, .int .i64 s_104), (112, .bool true), (113, v5)] [0, 1, 2, 3, 4, 5] [box b1 [.int .i64 n_0.Nodes, n_0_Arcsv], ro n_0_Arcsv 4 (n_0.Arcs.map S_api_Arc.enc), box b7 [v5], row v5 1 (x_54.map (eInt .i64)), row v97 1 (x_105.map (eInt .i64)), box b117 [.int .i64 x116.From, .int .i64 x116.To, .int .i64 x116.Cap, .int .i64 x116.Cost]] (qv10 rfl rfl rfl rfl rfl rfl rfl rfl rfl rfl) (by decide) rfl ?_
        refine ops_y (wg 6 true 112 rfl rfl rfl rfl) rfl (y_fieldAddr_box (sz := 0) Try.runUnderlying67 rfl Try.sizeOf3 rfl) ?_
        refine ops_y (wg 6 true 112 rfl rfl rfl rfl) rfl (y_load_box 5 Try.isAgg3 rfl rfl rfl) ?_
        obtain ⟨x125, hzx125, hlx125, hxx125, h⟩ := idx_some h
        refine ops_y (wg 6 true 112 rfl rfl rfl rfl) rfl (y_indexAddrI (kd := .i64) (i := x116.To) 3 Try.runUnderlying34 Try.sizeOf3 rfl rfl rfl reads_row hzx125 (map_lt hlx125)) ?_
        refine ops_y (wg 6 true 112 rfl rfl rfl rfl) rfl (y_load_elem (i := (x116.To).toNat) 3 Try.isAgg3 rfl rfl reads_row (map_get hxx125)) ?_
        refine ops_y (wg 6 true 112 rfl rfl rfl rfl) rfl (y_gtr rfl rfl) ?_
        refine oy rfl rfl (y_pick (b := true) rfl rfl) ?_
        refine ops_nil ?_
        obtain rfl := some_eq h
        exact goes_cut hL123 (decide (0 < x125)) [0, 1, 2, 3, 4, 5] (qv9 rfl rfl rfl rfl rfl rfl rfl rfl rfl) (by decide) rfl rfl
       ·replace h := cond_f h hg124
        refine ops_no 6 true 112 rfl rfl rfl rfl rfl ?_
        refine ops_weak [(1, boxP b1 0), (5, boxP b7 0), (14, v97), (99, n_0_Arcsv), (100, .int .i64 (n_0.Arcs.length : Int)), (101, .int .i64 s_104), (16, boxP b117 0), (15, .int .i64 s_104), (112, .bool false)] [0, 1, 2, 3, 4, 5] [box b1 [.int .i64 n_0.Nodes, n_0_Arcsv], ro n_0_Arcsv 4 (n_0.Arcs.map S_api_Arc.enc), box b7 [v5], row v5 1 (x_54.map (eInt .i64)), row v97 1 (x_105.map (eInt .i64)), box b117 [.int .i64 x116.From, .int .i64 x116.To, .int .i64 x116.Cap, .int .i64 x116.Cost]] (qv9 rfl rfl rfl rfl rfl rfl rfl rfl rfl) (by decide) rfl ?_
        refine ops_no 6 true 112 rfl rfl rfl rfl rfl ?_
        refine ops_no 6 true 112 rfl rfl rfl rfl rfl ?_
        refine ops_no 6 true 112 rfl rfl rfl rfl rfl ?_
        refine ops_no 6 true 112 rfl rfl rfl rfl rfl ?_
        refine ops_no 6 true 112 rfl rfl rfl rfl rfl ?_
        refine oy rfl rfl (y_pick (b := false) rfl rfl) ?_
        refine ops_nil ?_
        obtain rfl := some_eq h
        exact goes_cut hL123 false [0, 1, 2, 3, 4, 5] (qv9 rfl rfl rfl rfl rfl rfl rfl rfl rfl) (by decide) rfl rfl
      rintro b119 hj
      obtain rfl : o120 = _ := hj
      replace h := after_go ho121
      clear ho121
      refine ops_nil ?_
      refine goes_code ?_
      refine run_cond b119 rfl (fun hc126 => ?_) (fun hc126 => ?_)
      ·replace h := cond_t h hc126
       refine run_region' ?_
       refine oy rfl rfl (y_move rfl) ?_
       refine oy rfl rfl (y_fieldAddr_box (sz := 0) Try.runUnderlying67 rfl Try.sizeOf3 rfl) ?_
       refine oy rfl rfl (y_load_box 5 Try.isAgg3 rfl rfl rfl) ?_
       refine oy rfl rfl (y_move rfl) ?_
       obtain ⟨x127, hzx127, hlx127, hxx127, h⟩ := idx_some h
       refine oy rfl rfl (y_indexAddrI (kd := .i64) (i := x116.To) 4 Try.runUnderlying34 Try.sizeOf3 rfl rfl rfl reads_row hzx127 (map_lt hlx127)) ?_
       refine ot rfl rfl (t_store_row (i := (x116.To).toNat) (j := 0) (c := (eInt .i64) x127) 4 Try.sizeOf3 rfl rfl rfl rfl (map_get hxx127) (by decide) (by simp [Value.cells, Value.oneCell', boxP])) ?_
       rintro _ _ ⟨rfl, rfl⟩
       refine ops_turn (retell 4 (g := row v97 1 ((x_105.set ((x116.To).toNat) s_104).map (eInt .i64))) rfl (congrArg (row _ _) (map_set_at rfl))) ?_
       refine ops_nil ?_
       refine goes_blk ?_
       obtain rfl := some_eq h
       exact goes_cut hL114 ((x_105.set ((x116.To).toNat) s_104), ()) [0, 1, 2, 3, 4] (qv6 rfl rfl rfl rfl rfl rfl) (by decide) rfl rfl
      ·replace h := cond_f h hc126
       refine run_skip ?_
       refine goes_blk ?_
       obtain rfl := some_eq h
       exact goes_cut hL114 (x_105, ()) [0, 1, 2, 3, 4] (qv6 rfl rfl rfl rfl rfl rfl) (by decide) rfl rfl
     rintro ⟨x_111, _⟩ hj
     obtain rfl : o112 = _ := hj
     replace h := after_go ho113
     clear ho113
     change Run _ _ _ (VF.of [(1, boxP b1 0), (5, boxP b7 0), (14, v97), (99, n_0_Arcsv), (100, .int .i64 (n_0.Arcs.length : Int)), (101, .int .i64 s_104)]) [box b1 [.int .i64 n_0.Nodes, n_0_Arcsv], ro n_0_Arcsv 4 (n_0.Arcs.map S_api_Arc.enc), box b7 [v5], row v5 1 (x_54.map (eInt .i64)), row v97 1 (x_111.map (eInt .i64))]
     refine run_region' ?_
     refine oy rfl rfl (y_add rfl rfl) ?_
     refine oy rfl rfl (y_move rfl) ?_
     refine ops_nil ?_
     obtain rfl := some_eq h
     exact goes_iter hgo107 ((IntKind.i64.wrap (s_104 + 1)), x_111) () [0, 1, 2, 3, 4] rfl (qv6 rfl rfl rfl rfl rfl rfl) (by decide) rfl
    ·replace h := cond_f h hc110
     refine run_exit _ rfl ?_
     obtain rfl := some_eq h
     obtain rfl := hstop108 _ rfl
     exact goes_cut hL102 (x_105, ()) [0, 1, 2, 3, 4] (qv3 rfl rfl rfl) (by decide) rfl rfl
   rintro ⟨x_99, _⟩ hj
   obtain rfl : o100 = _ := hj
   replace h := after_go ho101
   clear ho101
   change Run _ _ _ (VF.of [(1, boxP b1 0), (5, boxP b7 0), (14, v97)]) [box b1 [.int .i64 n_0.Nodes, n_0_Arcsv], ro n_0_Arcsv 4 (n_0.Arcs.map S_api_Arc.enc), box b7 [v5], row v5 1 (x_54.map (eInt .i64)), row v97 1 (x_99.map (eInt .i64))]
   refine run_seq ?_
   refine run_drawany [box b1 [.int .i64 n_0.Nodes, n_0_Arcsv], ro n_0_Arcsv 4 (n_0.Arcs.map S_api_Arc.enc), box b7 [v5], row v5 1 (x_54.map (eInt .i64)), row v97 1 (x_99.map (eInt .i64))] (by kernel_rfl) ?_
   refine any_y 0 rfl (by kernel_rfl) (by kernel_rfl) (by kernel_rfl) (ss (ss (ss (ss (ss (sn)))))) (wn rfl) rfl (y_load_boxagg (c := [.int .i64 n_0.Nodes, n_0_Arcsv]) 0 Try.isAgg24 Try.sizeOf24 rfl rfl rfl) ?_
   refine any_y 1 rfl (by kernel_rfl) (by kernel_rfl) (by kernel_rfl) (ss (ss (ss (ss (ss (sn)))))) (wn rfl) rfl (y_move rfl) ?_
   refine any_y 2 rfl (by kernel_rfl) (by kernel_rfl) (by kernel_rfl) (ss (ss (ss (ss (ss (sn)))))) (wn rfl) rfl (y_load_box 2 Try.isAgg34 rfl rfl rfl) ?_
   refine any_all [3] (by kernel_rfl) rfl (anyo_cons ?_ anyo_nil)
   obtain ⟨r128, hr129, h⟩ := obind_some h
   refine any_t rfl (wn rfl) rfl (t_callx (vs := [v5, .func (.func 42) #[] #[]]) (cs := []) [(3, 1)] rfl Try.call41 rfl (slices_IndexFunc_int_int_41_ok n x_54 v5 hr129) (showsX_look 3 rfl views_row showsX_nil) rfl (.inr (by rintro _ _ ⟨rfl, rfl⟩ g hg; first | (cases hg; done) | (simp only [List.mem_cons, List.not_mem_nil, or_false] at hg; first | (subst hg; first | exact strict_row | exact strict_box) | (rcases hg with rfl | rfl <;> first | exact strict_row | exact strict_box) | (rcases hg with rfl | rfl | rfl <;> first | exact strict_row | exact strict_box))))) ?_
   rintro _ _ ⟨_, ⟨rfl, rfl⟩, rfl⟩
   refine ⟨(ss (ss (ss (ss (ss (sn)))))), ?_⟩
   refine any_all [4] (by kernel_rfl) rfl (anyo_cons ?_ anyo_nil)
   obtain ⟨r130, hr131, h⟩ := obind_some h
   refine any_t rfl (wn rfl) rfl (t_callx (vs := [.agg #[.int .i64 n_0.Nodes, n_0_Arcsv], v97, .int .i64 r128]) (cs := []) [(1, 0), (4, 1)] rfl Try.call40 rfl (graph_around_ok n n_0 x_99 r128 n_0_Arcsv v97 hr131) (showsX_view 1 rfl views_ro (showsX_look 4 rfl views_row showsX_nil)) rfl (.inr (by rintro _ _ ⟨_, rfl, rfl⟩ g hg; first | (cases hg; done) | (simp only [List.mem_cons, List.not_mem_nil, or_false] at hg; first | (subst hg; first | exact strict_row | exact strict_box) | (rcases hg with rfl | rfl <;> first | exact strict_row | exact strict_box) | (rcases hg with rfl | rfl | rfl <;> first | exact strict_row | exact strict_box))))) ?_
   rintro v132 _ ⟨_, ⟨_, rfl, rfl⟩, rfl⟩
   refine ⟨(ss (ss (ss (ss (ss (sn)))))), ?_⟩
   refine any_y 5 rfl (by kernel_rfl) (by kernel_rfl) (by kernel_rfl) (ss (ss (ss (ss (ss (sn)))))) (wn rfl) rfl (y_assign rfl) ?_
   refine any_y 6 rfl (by kernel_rfl) (by kernel_rfl) (by kernel_rfl) (ss (ss (ss (ss (ss (sn)))))) (wn rfl) rfl (y_assign rfl) ?_
   refine any_y 7 rfl (by kernel_rfl) (by kernel_rfl) (by kernel_rfl) (ss (ss (ss (ss (ss (sn)))))) (wn rfl) rfl (y_assign rfl) ?_
   refine any_nil (by kernel_rfl) ?_
   refine goes_code ?_
   refine run_ret ?_
   refine fin_turn (nilrow 1) ?_
   refine fin_turn (retell 6 (g := row (.slice none 0 0) 1 (([] : List Int).map (eInt .i64))) rfl rfl) ?_
   obtain rfl := some_eq h
   refine fin_slots [2, 3, 4] [(.slice none 0 0), v132, .int .i64 0] [6, 5] [row (.slice none 0 0) 1 (([] : List Int).map (eInt .i64)), row v132 1 (r130.map (eInt .i64))] Try.results13 rfl (by decide) rfl ?_
   exact ⟨_, _, rfl, rfl⟩

def graph_Parts_L2 (n_0 : S_api_Net) (r31 : (List Bool)) (r34 : (List Bool)) : ((List Int) × Int × (List Bool)) → Option (Lp ((List Int) × Int × (List Bool)) (Lp ((List Int) × (List Bool)) (Lp ((List (List Int)) × (List Bool)) (Lp ((List (List Int)) × Int × (List Bool)) (Lp ((List (List Int))) ((List (List Int)) × Int)))))) :=
 fun (set_44, s_45, x_46) =>
  cond (decide (s_45 < n_0.Nodes))
   (bindJ (S := (List Int) × (List Bool))
    (idx r31 s_45 fun x60 =>
    bindJ (S := Bool)
     (cond x60
      (idx r34 s_45 fun x67 =>
      some (.go x67))
      (some (.go false)))
    (fun b61 =>
     cond b61
      (need (set_44.length + ([s_45] : List Int).length ≤ 4294967296) (
      idx x_46 s_45 fun x72 =>
      some (.go ((set_44 ++ ([s_45] : List Int)), (x_46.set s_45.toNat true)))))
      (some (.go (set_44, x_46)))))
   (fun (set_53, x_54) =>
    some (.go (set_53, (IntKind.i64.wrap (s_45 + 1)), x_54))))
   (some (.stop (.go (set_44, x_46))))
def graph_Parts_L1 (n : Nat) (n_0 : S_api_Net) : ((List (List Int)) × Int × (List Bool)) → Option (Lp ((List (List Int)) × Int × (List Bool)) (Lp ((List (List Int))) ((List (List Int)) × Int))) :=
 fun (out_13, s_14, x_15) =>
  cond (decide (s_14 < n_0.Nodes))
   (bindJ (S := (List (List Int)) × (List Bool))
    (idx x_15 s_14 fun x29 =>
    cond x29
     (some (.go (out_13, x_15)))
     (obind (graph_search n n_0 s_14 false) fun r31 =>
     obind (graph_search n n_0 s_14 true) fun r34 =>
     bindJ (S := (List Int) × (List Bool))
      (iter (graph_Parts_L2 n_0 r31 r34) n (([] : List Int), 0, x_15))
     (fun (set_37, x_38) =>
      need (out_13.length + ([set_37] : List (List Int)).length ≤ 4294967296) (
      some (.go ((out_13 ++ ([set_37] : List (List Int))), x_38))))))
   (fun (out_22, x_23) =>
    some (.go (out_22, (IntKind.i64.wrap (s_14 + 1)), x_23))))
   (some (.stop (.go out_13)))
def graph_Parts (n : Nat) (n_0 : S_api_Net) : Option ((List (List Int)) × Int) :=
 obind (graph_Valid n n_0) fun r2 =>
 cond (!r2)
  (some (([] : List (List Int)), 1))
  (need (0 ≤ n_0.Nodes ∧ n_0.Nodes ≤ 4294967296) (
  bindJ (S := (List (List Int)))
   (iter (graph_Parts_L1 n n_0) n (([] : List (List Int)), 0, (List.replicate (n_0.Nodes).toNat (false : Bool))))
  (fun out_7 =>
   some (out_7, 0))))
theorem graph_Parts_ok (n : Nat) (n_0 : S_api_Net) (n_0_Arcsv : Value) {r : (List (List Int)) × Int} (h : graph_Parts n n_0 = some r) :
  Meets Try.prog 12 [.agg #[.int .i64 n_0.Nodes, n_0_Arcsv]] [ro n_0_Arcsv 4 (n_0.Arcs.map S_api_Arc.enc)] (fun v G => ∃ v0, v = .tuple #[v0, .int .i64 r.2] ∧ G = [nrow v0 NC_L_int_34 r.1]) := by
 refine fn_of_run Try.func12 rfl Try.ntmps12 rfl (fun w0 o0 => ?_)
 refine run_seq ?_
 refine run_region' ?_
 refine ot rfl rfl (t_box rfl) ?_
 rintro _ _ ⟨b1, rfl, rfl⟩
 refine oy rfl rfl (y_assign rfl) ?_
 refine oy rfl rfl (y_assign rfl) ?_
 refine ops_nil ?_
 refine goes_code ?_
 refine run_seq ?_
 refine run_seq ?_
 refine run_region' ?_
 refine oy rfl rfl (y_load_boxagg (c := [.int .i64 n_0.Nodes, n_0_Arcsv]) 1 Try.isAgg24 Try.sizeOf24 rfl rfl rfl) ?_
 obtain ⟨r2, hr3, h⟩ := obind_some h
 refine ot rfl rfl (t_callx (vs := [.agg #[.int .i64 n_0.Nodes, n_0_Arcsv]]) (cs := []) [(0, 0)] rfl Try.call17 rfl (graph_Valid_ok n n_0 n_0_Arcsv hr3) (showsX_view 0 rfl views_ro showsX_nil) rfl (.inl rfl)) ?_
 rintro _ _ ⟨_, ⟨rfl, rfl⟩, rfl⟩
 refine oy rfl rfl (y_not rfl) ?_
 refine ops_nil ?_
 refine goes_code ?_
 refine run_cond (!r2) rfl (fun hc4 => ?_) (fun hc4 => ?_)
 ·replace h := cond_t h hc4
  refine run_seq ?_
  refine run_region' ?_
  refine oy rfl rfl (y_assign rfl) ?_
  refine oy rfl rfl (y_assign rfl) ?_
  refine ops_nil ?_
  refine goes_code ?_
  refine run_ret ?_
  refine fin_turn (nilrowN NC_L_int_34) ?_
  obtain rfl := some_eq h
  refine fin_slots [2, 3] [(.slice none 0 0), .int .i64 1] [2] [nrow (.slice none 0 0) NC_L_int_34 ([] : List (List Int))] Try.results12 rfl (by decide) rfl ?_
  exact ⟨_, rfl, rfl⟩
 ·replace h := cond_f h hc4
  refine run_skip ?_
  refine goes_code ?_
  refine run_seq ?_
  refine run_region' ?_
  refine oy rfl rfl (y_assign rfl) ?_
  refine ops_nil ?_
  refine goes_code ?_
  refine run_seq ?_
  refine run_region' ?_
  refine oy rfl rfl (y_fieldAddr_box (sz := 0) Try.runUnderlying24 rfl Try.sizeOf3 rfl) ?_
  refine oy rfl rfl (y_load_box 1 Try.isAgg3 rfl rfl rfl) ?_
  obtain ⟨hm6, h⟩ := need_some h
  refine ot rfl rfl (t_makeSlice (es := 1) Try.runUnderlying27 Try.typeInfo4 rfl Try.zeroValue4 rfl (by decide) rfl rfl hm6.1 hm6.2 (by decide)) ?_
  rintro v5 _ rfl
  refine ops_turn (retell 2 (g := row v5 1 ((List.replicate (n_0.Nodes).toNat (false : Bool)).map eBool)) rfl (congrArg (row _ _) (map_rep rfl))) ?_
  refine oy rfl rfl (y_assign rfl) ?_
  refine ops_nil ?_
  refine goes_code ?_
  obtain ⟨o9, h, ho10⟩ := bindJ_some h
  refine run_cut (((List (List Int))) × (Value)) (fun σ => [(4, σ.2)]) (fun σ => [nrow σ.2 NC_L_int_34 σ.1]) (fun σ => o9 = .go σ.1) (fun L12 hL11 => ?_) ?_
  ·
   refine run_seq ?_
   refine run_weak [(1, boxP b1 0), (4, .slice none 0 0), (5, v5)] [0, 1, 2] [ro n_0_Arcsv 4 (n_0.Arcs.map S_api_Arc.enc), box b1 [.int .i64 n_0.Nodes, n_0_Arcsv], row v5 1 ((List.replicate (n_0.Nodes).toNat (false : Bool)).map eBool)] (qv3 rfl rfl rfl) (by decide) rfl ?_
   refine run_region' ?_
   refine oy rfl rfl (y_fieldAddr_box (sz := 0) Try.runUnderlying24 rfl Try.sizeOf3 rfl) ?_
   refine oy rfl rfl (y_load_box 1 Try.isAgg3 rfl rfl rfl) ?_
   refine oy rfl rfl (y_move rfl) ?_
   refine ops_nil ?_
   refine goes_code ?_
   refine run_block ?_
   refine run_turn (nilrowN NC_L_int_34) ?_
   refine run_iter (step := graph_Parts_L1 n n_0) (n := n) (s0 := (([] : List (List Int)), 0, (List.replicate (n_0.Nodes).toNat (false : Bool)))) h (G := Value) (.slice none 0 0) (fun σ γ => [(1, boxP b1 0), (4, γ), (5, v5), (18, .int .i64 n_0.Nodes), (19, .int .i64 σ.2.1)]) (fun σ γ => [box b1 [.int .i64 n_0.Nodes, n_0_Arcsv], ro n_0_Arcsv 4 (n_0.Arcs.map S_api_Arc.enc), nrow γ NC_L_int_34 σ.1, row v5 1 (σ.2.2.map eBool)]) [1, 0, 3, 2] (qv5 rfl rfl rfl rfl rfl) (by decide) rfl ?_
   rintro ⟨out_13, s_14, x_15⟩ v16 o17 h L20 hgo18 hstop19
   change Run _ _ _ (VF.of [(1, boxP b1 0), (4, v16), (5, v5), (18, .int .i64 n_0.Nodes), (19, .int .i64 s_14)]) [box b1 [.int .i64 n_0.Nodes, n_0_Arcsv], ro n_0_Arcsv 4 (n_0.Arcs.map S_api_Arc.enc), nrow v16 NC_L_int_34 out_13, row v5 1 (x_15.map eBool)]
   refine run_seq ?_
   refine run_region' ?_
   refine oy rfl rfl (y_lss rfl rfl) ?_
   refine ops_nil ?_
   refine goes_code ?_
   refine run_seq ?_
   refine run_cond (decide (s_14 < n_0.Nodes)) rfl (fun hc21 => ?_) (fun hc21 => ?_)
   ·replace h := cond_t h hc21
    refine run_skip ?_
    refine goes_code ?_
    obtain ⟨o25, h, ho26⟩ := bindJ_some h
    refine run_cut (((List (List Int)) × (List Bool)) × (Value)) (fun σ => [(1, boxP b1 0), (4, σ.2), (5, v5), (18, .int .i64 n_0.Nodes), (19, .int .i64 s_14)]) (fun σ => [box b1 [.int .i64 n_0.Nodes, n_0_Arcsv], ro n_0_Arcsv 4 (n_0.Arcs.map S_api_Arc.enc), nrow σ.2 NC_L_int_34 σ.1.1, row v5 1 (σ.1.2.map eBool)]) (fun σ => o25 = .go σ.1) (fun L28 hL27 => ?_) ?_
    ·
     refine run_block ?_
     refine run_seq ?_
     refine run_region' ?_
     refine oy rfl rfl (y_move rfl) ?_
     refine oy rfl rfl (y_assign rfl) ?_
     refine ops_nil ?_
     refine goes_code ?_
     refine run_seq ?_
     refine run_seq ?_
     refine run_region' ?_
     refine oy rfl rfl (y_move rfl) ?_
     refine oy rfl rfl (y_move rfl) ?_
     obtain ⟨x29, hzx29, hlx29, hxx29, h⟩ := idx_some h
     refine oy rfl rfl (y_indexAddrI (kd := .i64) (i := s_14) 3 Try.runUnderlying27 Try.sizeOf4 rfl rfl rfl reads_row hzx29 (map_lt hlx29)) ?_
     refine oy rfl rfl (y_load_elem (i := s_14.toNat) 3 Try.isAgg4 rfl rfl reads_row (map_get hxx29)) ?_
     refine ops_nil ?_
     refine goes_code ?_
     refine run_cond x29 rfl (fun hc30 => ?_) (fun hc30 => ?_)
     ·replace h := cond_t h hc30
      refine run_exit _ rfl ?_
      obtain rfl := some_eq h
      exact goes_cut hL27 ((out_13, x_15), v16) [0, 1, 2, 3] (qv5 rfl rfl rfl rfl rfl) (by decide) rfl rfl
     ·replace h := cond_f h hc30
      refine run_skip ?_
      refine goes_code ?_
      refine run_seq ?_
      refine run_drawany [box b1 [.int .i64 n_0.Nodes, n_0_Arcsv], ro n_0_Arcsv 4 (n_0.Arcs.map S_api_Arc.enc), nrow v16 NC_L_int_34 out_13, row v5 1 (x_15.map eBool)] (by kernel_rfl) ?_
      refine any_y 0 rfl (by kernel_rfl) (by kernel_rfl) (by kernel_rfl) (ss (ss (ss (ss (sn))))) (wn rfl) rfl (y_load_boxagg (c := [.int .i64 n_0.Nodes, n_0_Arcsv]) 0 Try.isAgg24 Try.sizeOf24 rfl rfl rfl) ?_
      refine any_y 1 rfl (by kernel_rfl) (by kernel_rfl) (by kernel_rfl) (ss (ss (ss (ss (sn))))) (wn rfl) rfl (y_move rfl) ?_
      refine any_y 3 rfl (by kernel_rfl) (by kernel_rfl) (by kernel_rfl) (ss (ss (ss (ss (sn))))) (wn rfl) rfl (y_load_boxagg (c := [.int .i64 n_0.Nodes, n_0_Arcsv]) 0 Try.isAgg24 Try.sizeOf24 rfl rfl rfl) ?_
      refine any_y 4 rfl (by kernel_rfl) (by kernel_rfl) (by kernel_rfl) (ss (ss (ss (ss (sn))))) (wn rfl) rfl (y_move rfl) ?_
      refine any_all [2] (by kernel_rfl) rfl (anyo_cons ?_ anyo_nil)
      obtain ⟨r31, hr32, h⟩ := obind_some h
      refine any_t rfl (wn rfl) rfl (t_callx (vs := [.agg #[.int .i64 n_0.Nodes, n_0_Arcsv], .int .i64 s_14, .bool false]) (cs := []) [(1, 0)] rfl Try.call35 rfl (graph_search_ok n n_0 s_14 false n_0_Arcsv hr32) (showsX_view 1 rfl views_ro showsX_nil) rfl (.inl rfl)) ?_
      rintro v33 _ ⟨_, ⟨_, rfl, rfl⟩, rfl⟩
      refine ⟨(ss (ss (ss (ss (sn))))), ?_⟩
      refine any_all [5] (by kernel_rfl) rfl (anyo_cons ?_ anyo_nil)
      obtain ⟨r34, hr35, h⟩ := obind_some h
      refine any_t rfl (wn rfl) rfl (t_callx (vs := [.agg #[.int .i64 n_0.Nodes, n_0_Arcsv], .int .i64 s_14, .bool true]) (cs := []) [(1, 0)] rfl Try.call35 rfl (graph_search_ok n n_0 s_14 true n_0_Arcsv hr35) (showsX_view 1 rfl views_ro showsX_nil) rfl (.inl rfl)) ?_
      rintro v36 _ ⟨_, ⟨_, rfl, rfl⟩, rfl⟩
      refine ⟨(ss (ss (ss (ss (sn))))), ?_⟩
      refine any_y 6 rfl (by kernel_rfl) (by kernel_rfl) (by kernel_rfl) (ss (ss (ss (ss (sn))))) (wn rfl) rfl (y_assign rfl) ?_
      refine any_y 7 rfl (by kernel_rfl) (by kernel_rfl) (by kernel_rfl) (ss (ss (ss (ss (sn))))) (wn rfl) rfl (y_assign rfl) ?_
      refine any_nil (by kernel_rfl) ?_
      refine goes_code ?_
      refine run_seq ?_
      refine run_weak [(1, boxP b1 0), (4, v16), (5, v5), (18, .int .i64 n_0.Nodes), (19, .int .i64 s_14), (7, v33), (8, v36)] [0, 1, 2, 3, 4, 5] [box b1 [.int .i64 n_0.Nodes, n_0_Arcsv], ro n_0_Arcsv 4 (n_0.Arcs.map S_api_Arc.enc), nrow v16 NC_L_int_34 out_13, row v5 1 (x_15.map eBool), row v33 1 (r31.map eBool), row v36 1 (r34.map eBool)] (qv7 rfl rfl rfl rfl rfl rfl rfl) (by decide) rfl ?_
      refine run_region' ?_
      refine oy rfl rfl (y_assign rfl) ?_
      refine ops_nil ?_
      refine goes_code ?_
      obtain ⟨o40, h, ho41⟩ := bindJ_some h
      refine run_cut (((List Int) × (List Bool)) × (Value)) (fun σ => [(1, boxP b1 0), (4, v16), (5, v5), (9, σ.2), (18, .int .i64 n_0.Nodes), (19, .int .i64 s_14)]) (fun σ => [box b1 [.int .i64 n_0.Nodes, n_0_Arcsv], ro n_0_Arcsv 4 (n_0.Arcs.map S_api_Arc.enc), nrow v16 NC_L_int_34 out_13, row v5 1 (σ.1.2.map eBool), row σ.2 1 (σ.1.1.map (eInt .i64))]) (fun σ => o40 = .go σ.1) (fun L43 hL42 => ?_) ?_
      ·
       refine run_seq ?_
       refine run_region' ?_
       refine oy rfl rfl (y_fieldAddr_box (sz := 0) Try.runUnderlying24 rfl Try.sizeOf3 rfl) ?_
       refine oy rfl rfl (y_load_box 0 Try.isAgg3 rfl rfl rfl) ?_
       refine oy rfl rfl (y_move rfl) ?_
       refine ops_nil ?_
       refine goes_code ?_
       refine run_block ?_
       refine run_turn (nilrow 1) ?_
       refine run_turn (retell 6 (g := row (.slice none 0 0) 1 (([] : List Int).map (eInt .i64))) rfl rfl) ?_
       refine run_iter (step := graph_Parts_L2 n_0 r31 r34) (n := n) (s0 := (([] : List Int), 0, x_15)) h (G := Value) (.slice none 0 0) (fun σ γ => [(1, boxP b1 0), (4, v16), (5, v5), (7, v33), (8, v36), (9, γ), (18, .int .i64 n_0.Nodes), (19, .int .i64 s_14), (33, .int .i64 n_0.Nodes), (34, .int .i64 σ.2.1)]) (fun σ γ => [box b1 [.int .i64 n_0.Nodes, n_0_Arcsv], ro n_0_Arcsv 4 (n_0.Arcs.map S_api_Arc.enc), nrow v16 NC_L_int_34 out_13, row v5 1 (σ.2.2.map eBool), row v33 1 (r31.map eBool), row v36 1 (r34.map eBool), row γ 1 (σ.1.map (eInt .i64))]) [0, 1, 2, 3, 4, 5, 6] (qv10 rfl rfl rfl rfl rfl rfl rfl rfl rfl rfl) (by decide) rfl ?_
       rintro ⟨set_44, s_45, x_46⟩ v47 o48 h L51 hgo49 hstop50
       change Run _ _ _ (VF.of [(1, boxP b1 0), (4, v16), (5, v5), (7, v33), (8, v36), (9, v47), (18, .int .i64 n_0.Nodes), (19, .int .i64 s_14), (33, .int .i64 n_0.Nodes), (34, .int .i64 s_45)]) [box b1 [.int .i64 n_0.Nodes, n_0_Arcsv], ro n_0_Arcsv 4 (n_0.Arcs.map S_api_Arc.enc), nrow v16 NC_L_int_34 out_13, row v5 1 (x_46.map eBool), row v33 1 (r31.map eBool), row v36 1 (r34.map eBool), row v47 1 (set_44.map (eInt .i64))]
       refine run_seq ?_
       refine run_region' ?_
       refine oy rfl rfl (y_lss rfl rfl) ?_
       refine ops_nil ?_
       refine goes_code ?_
       refine run_seq ?_
       refine run_cond (decide (s_45 < n_0.Nodes)) rfl (fun hc52 => ?_) (fun hc52 => ?_)
       ·replace h := cond_t h hc52
        refine run_skip ?_
        refine goes_code ?_
        obtain ⟨o56, h, ho57⟩ := bindJ_some h
        refine run_cut (((List Int) × (List Bool)) × (Value)) (fun σ => [(1, boxP b1 0), (4, v16), (5, v5), (7, v33), (8, v36), (9, σ.2), (18, .int .i64 n_0.Nodes), (19, .int .i64 s_14), (33, .int .i64 n_0.Nodes), (34, .int .i64 s_45)]) (fun σ => [box b1 [.int .i64 n_0.Nodes, n_0_Arcsv], ro n_0_Arcsv 4 (n_0.Arcs.map S_api_Arc.enc), nrow v16 NC_L_int_34 out_13, row v5 1 (σ.1.2.map eBool), row v33 1 (r31.map eBool), row v36 1 (r34.map eBool), row σ.2 1 (σ.1.1.map (eInt .i64))]) (fun σ => o56 = .go σ.1) (fun L59 hL58 => ?_) ?_
        ·
         refine run_block ?_
         refine run_seq ?_
         refine run_region' ?_
         refine oy rfl rfl (y_move rfl) ?_
         refine oy rfl rfl (y_assign rfl) ?_
         refine ops_nil ?_
         refine goes_code ?_
         refine run_seq ?_
         refine run_region' ?_
         refine oy rfl rfl (y_move rfl) ?_
         refine oy rfl rfl (y_move rfl) ?_
         obtain ⟨x60, hzx60, hlx60, hxx60, h⟩ := idx_some h
         refine oy rfl rfl (y_indexAddrI (kd := .i64) (i := s_45) 4 Try.runUnderlying27 Try.sizeOf4 rfl rfl rfl reads_row hzx60 (map_lt hlx60)) ?_
         refine oy rfl rfl (y_load_elem (i := s_45.toNat) 4 Try.isAgg4 rfl rfl reads_row (map_get hxx60)) ?_
         refine oy rfl rfl (y_move rfl) ?_
         obtain ⟨o62, h, ho63⟩ := bindJ_some h
         refine ops_cut 5 (Bool) (fun σ => [(1, boxP b1 0), (4, v16), (5, v5), (7, v33), (8, v36), (9, v47), (18, .int .i64 n_0.Nodes), (19, .int .i64 s_14), (33, .int .i64 n_0.Nodes), (34, .int .i64 s_45), (10, .int .i64 s_45), (46, .bool σ)]) (fun σ => [box b1 [.int .i64 n_0.Nodes, n_0_Arcsv], ro n_0_Arcsv 4 (n_0.Arcs.map S_api_Arc.enc), nrow v16 NC_L_int_34 out_13, row v5 1 (x_46.map eBool), row v33 1 (r31.map eBool), row v36 1 (r34.map eBool), row v47 1 (set_44.map (eInt .i64))]) (fun σ => o62 = .go σ) (fun L64 hL65 => ?_) ?_
         ·refine ops_split 41 x60 rfl (fun hg66 => ?_) (fun hg66 => ?_)
          ·replace h := cond_t h hg66
           refine ops_y (wg 4 true 41 rfl rfl rfl rfl) rfl (y_move rfl) ?_
           refine ops_y (wg 4 true 41 rfl rfl rfl rfl) rfl (y_move rfl) ?_
           obtain ⟨x67, hzx67, hlx67, hxx67, h⟩ := idx_some h
           refine ops_y (wg 4 true 41 rfl rfl rfl rfl) rfl (y_indexAddrI (kd := .i64) (i := s_45) 5 Try.runUnderlying27 Try.sizeOf4 rfl rfl rfl reads_row hzx67 (map_lt hlx67)) ?_
           refine ops_y (wg 4 true 41 rfl rfl rfl rfl) rfl (y_load_elem (i := s_45.toNat) 5 Try.isAgg4 rfl rfl reads_row (map_get hxx67)) ?_
           refine oy rfl rfl (y_pick (b := true) rfl rfl) ?_
           refine ops_nil ?_
           obtain rfl := some_eq h
           exact goes_cut hL65 x67 [0, 1, 2, 3, 4, 5, 6] (qv12 rfl rfl rfl rfl rfl rfl rfl rfl rfl rfl rfl rfl) (by decide) rfl rfl
          ·replace h := cond_f h hg66
           refine ops_no 4 true 41 rfl rfl rfl rfl rfl ?_
           refine ops_no 4 true 41 rfl rfl rfl rfl rfl ?_
           refine ops_no 4 true 41 rfl rfl rfl rfl rfl ?_
           refine ops_no 4 true 41 rfl rfl rfl rfl rfl ?_
           refine oy rfl rfl (y_pick (b := false) rfl rfl) ?_
           refine ops_nil ?_
           obtain rfl := some_eq h
           exact goes_cut hL65 false [0, 1, 2, 3, 4, 5, 6] (qv12 rfl rfl rfl rfl rfl rfl rfl rfl rfl rfl rfl rfl) (by decide) rfl rfl
         rintro b61 hj
         obtain rfl : o62 = _ := hj
         replace h := after_go ho63
         clear ho63
         refine ops_nil ?_
         refine goes_code ?_
         refine run_cond b61 rfl (fun hc68 => ?_) (fun hc68 => ?_)
         ·replace h := cond_t h hc68
          refine run_region' ?_
          refine oy rfl rfl (y_move rfl) ?_
          refine oy rfl rfl (y_move rfl) ?_
          refine oy rfl rfl (y_move rfl) ?_
          refine oy rfl rfl (y_move rfl) ?_
          refine ot rfl rfl (t_lit [.int .i64 s_45] Try.runUnderlying34 Try.sizeOf3 Try.zeroValue3 rfl (by decide) (by decide) rfl (by simp [Value.cells, boxP])) ?_
          rintro v69 _ ⟨rfl, _⟩
          refine ops_turn (retell 7 (g := row v69 1 (([s_45] : List Int).map (eInt .i64))) rfl rfl) ?_
          obtain ⟨hr71, h⟩ := need_some h
          refine ot rfl rfl (t_append (es := 1) 6 rfl Try.runUnderlying34 rfl Try.runUnderlying34 (.inr ⟨_, rfl⟩) Try.typeInfo3 rfl (by decide) Try.zeroValue3 rfl rfl rfl rfl (src_reads 7 rfl reads_row (map_ok (eInt_ok _) _)) (map_room hr71 (by decide)) (map_fit hr71)) ?_
          rintro v70 _ rfl
          refine ops_turn (retell 6 (g := row v70 1 ((set_44 ++ ([s_45] : List Int)).map (eInt .i64))) rfl (congrArg (row _ _) List.map_append.symm)) ?_
          refine oy rfl rfl (y_assign rfl) ?_
          obtain ⟨x72, hzx72, hlx72, hxx72, h⟩ := idx_some h
          refine oy rfl rfl (y_indexAddrI (kd := .i64) (i := s_45) 3 Try.runUnderlying27 Try.sizeOf4 rfl rfl rfl reads_row hzx72 (map_lt hlx72)) ?_
          refine ot rfl rfl (t_store_row (i := s_45.toNat) (j := 0) (c := eBool x72) 3 Try.sizeOf4 rfl rfl rfl rfl (map_get hxx72) (by decide) (by simp [Value.cells, Value.oneCell', boxP])) ?_
          rintro _ _ ⟨rfl, rfl⟩
          refine ops_turn (retell 3 (g := row v5 1 ((x_46.set s_45.toNat true).map eBool)) rfl (congrArg (row _ _) (map_set_at rfl))) ?_
          refine ops_nil ?_
          refine goes_blk ?_
          obtain rfl := some_eq h
          exact goes_cut hL58 (((set_44 ++ ([s_45] : List Int)), (x_46.set s_45.toNat true)), v70) [0, 1, 2, 3, 4, 5, 6] (qv10 rfl rfl rfl rfl rfl rfl rfl rfl rfl rfl) (by decide) rfl rfl
         ·replace h := cond_f h hc68
          refine run_skip ?_
          refine goes_blk ?_
          obtain rfl := some_eq h
          exact goes_cut hL58 ((set_44, x_46), v47) [0, 1, 2, 3, 4, 5, 6] (qv10 rfl rfl rfl rfl rfl rfl rfl rfl rfl rfl) (by decide) rfl rfl
        rintro ⟨⟨set_53, x_54⟩, v55⟩ hj
        obtain rfl : o56 = _ := hj
        replace h := after_go ho57
        clear ho57
        change Run _ _ _ (VF.of [(1, boxP b1 0), (4, v16), (5, v5), (7, v33), (8, v36), (9, v55), (18, .int .i64 n_0.Nodes), (19, .int .i64 s_14), (33, .int .i64 n_0.Nodes), (34, .int .i64 s_45)]) [box b1 [.int .i64 n_0.Nodes, n_0_Arcsv], ro n_0_Arcsv 4 (n_0.Arcs.map S_api_Arc.enc), nrow v16 NC_L_int_34 out_13, row v5 1 (x_54.map eBool), row v33 1 (r31.map eBool), row v36 1 (r34.map eBool), row v55 1 (set_53.map (eInt .i64))]
        refine run_region' ?_
        refine oy rfl rfl (y_add rfl rfl) ?_
        refine oy rfl rfl (y_move rfl) ?_
        refine ops_nil ?_
        obtain rfl := some_eq h
        exact goes_iter hgo49 (set_53, (IntKind.i64.wrap (s_45 + 1)), x_54) v55 [0, 1, 2, 3, 4, 5, 6] rfl (qv10 rfl rfl rfl rfl rfl rfl rfl rfl rfl rfl) (by decide) rfl
       ·replace h := cond_f h hc52
        refine run_exit _ rfl ?_
        obtain rfl := some_eq h
        obtain rfl := hstop50 _ rfl
        exact goes_cut hL42 ((set_44, x_46), v47) [0, 1, 2, 3, 6] (qv6 rfl rfl rfl rfl rfl rfl) (by decide) rfl rfl
      rintro ⟨⟨set_37, x_38⟩, v39⟩ hj
      obtain rfl : o40 = _ := hj
      replace h := after_go ho41
      clear ho41
      change Run _ _ _ (VF.of [(1, boxP b1 0), (4, v16), (5, v5), (9, v39), (18, .int .i64 n_0.Nodes), (19, .int .i64 s_14)]) [box b1 [.int .i64 n_0.Nodes, n_0_Arcsv], ro n_0_Arcsv 4 (n_0.Arcs.map S_api_Arc.enc), nrow v16 NC_L_int_34 out_13, row v5 1 (x_38.map eBool), row v39 1 (set_37.map (eInt .i64))]
      refine run_region' ?_
      refine oy rfl rfl (y_move rfl) ?_
      refine oy rfl rfl (y_move rfl) ?_
      refine ops_turn (Go.Abs.freeze 4 rfl) ?_
      refine ops_slc 4 rfl reads_ro (fun hs74 hs74o => ?_)
      refine ot rfl rfl (t_lit [v39] Try.runUnderlying31 Try.sizeOf34 Try.zeroValue34 rfl (by decide) (by decide) rfl (by intro q hq; simp only [List.mem_cons, List.not_mem_nil, or_false] at hq; rcases hq with rfl <;> first | rfl | (rw [hs74]; rfl))) ?_
      rintro v73 _ ⟨rfl, _⟩
      refine ops_turn (turn_closeR (C := NC_L_int_34) (l := ([set_37] : List (List Int))) 5 [(set_37, v39)] rfl (by simp only [List.map_cons, List.map_nil, hs74]; rfl) rfl (hasall_cons (has_cons 4 rfl has_nil) hasall_nil)) ?_
      obtain ⟨hr76, h⟩ := need_some h
      refine ot rfl rfl (t_appendN (C := NC_L_int_34) 2 5 (by decide) rfl Try.runUnderlying31 rfl Try.runUnderlying31 Try.typeInfo34 rfl (by decide) (by decide) Try.zeroValue34 rfl rfl rfl rfl (srcN_row 5 rfl) hr76) ?_
      rintro v75 _ rfl
      refine oy rfl rfl (y_assign rfl) ?_
      refine ops_nil ?_
      refine goes_blk ?_
      obtain rfl := some_eq h
      exact goes_cut hL27 (((out_13 ++ ([set_37] : List (List Int))), x_38), v75) [0, 1, 2, 3] (qv5 rfl rfl rfl rfl rfl) (by decide) rfl rfl
    rintro ⟨⟨out_22, x_23⟩, v24⟩ hj
    obtain rfl : o25 = _ := hj
    replace h := after_go ho26
    clear ho26
    change Run _ _ _ (VF.of [(1, boxP b1 0), (4, v24), (5, v5), (18, .int .i64 n_0.Nodes), (19, .int .i64 s_14)]) [box b1 [.int .i64 n_0.Nodes, n_0_Arcsv], ro n_0_Arcsv 4 (n_0.Arcs.map S_api_Arc.enc), nrow v24 NC_L_int_34 out_22, row v5 1 (x_23.map eBool)]
    refine run_region' ?_
    refine oy rfl rfl (y_add rfl rfl) ?_
    refine oy rfl rfl (y_move rfl) ?_
    refine ops_nil ?_
    obtain rfl := some_eq h
    exact goes_iter hgo18 (out_22, (IntKind.i64.wrap (s_14 + 1)), x_23) v24 [0, 1, 2, 3] rfl (qv5 rfl rfl rfl rfl rfl) (by decide) rfl
   ·replace h := cond_f h hc21
    refine run_exit _ rfl ?_
    obtain rfl := some_eq h
    obtain rfl := hstop19 _ rfl
    exact goes_cut hL11 (out_13, v16) [2] (qv1 rfl) (by decide) rfl rfl
  rintro ⟨out_7, v8⟩ hj
  obtain rfl : o9 = _ := hj
  replace h := after_go ho10
  clear ho10
  change Run _ _ _ (VF.of [(4, v8)]) [nrow v8 NC_L_int_34 out_7]
  refine run_seq ?_
  refine run_region' ?_
  refine oy rfl rfl (y_move rfl) ?_
  refine oy rfl rfl (y_assign rfl) ?_
  refine oy rfl rfl (y_assign rfl) ?_
  refine ops_nil ?_
  refine goes_code ?_
  refine run_ret ?_
  obtain rfl := some_eq h
  refine fin_slots [2, 3] [v8, .int .i64 0] [0] [nrow v8 NC_L_int_34 out_7] Try.results12 rfl (by decide) rfl ?_
  exact ⟨_, rfl, rfl⟩

def math_bits_Mul64_70 (x_0 : Int) (y_1 : Int) : Option (Int × Int) :=
 some ((IntKind.u64.wrap ((IntKind.u64.wrap ((IntKind.u64.wrap ((Int.fdiv x_0 (2 ^ (min ((32 : Int).toNat) IntKind.u64.bits))) * (Int.fdiv y_1 (2 ^ (min ((32 : Int).toNat) IntKind.u64.bits))))) + (Int.fdiv (IntKind.u64.wrap ((IntKind.u64.wrap ((Int.fdiv x_0 (2 ^ (min ((32 : Int).toNat) IntKind.u64.bits))) * (bitAnd .u64 y_1 4294967295))) + (Int.fdiv (IntKind.u64.wrap ((bitAnd .u64 x_0 4294967295) * (bitAnd .u64 y_1 4294967295))) (2 ^ (min ((32 : Int).toNat) IntKind.u64.bits))))) (2 ^ (min ((32 : Int).toNat) IntKind.u64.bits))))) + (Int.fdiv (IntKind.u64.wrap ((bitAnd .u64 (IntKind.u64.wrap ((IntKind.u64.wrap ((Int.fdiv x_0 (2 ^ (min ((32 : Int).toNat) IntKind.u64.bits))) * (bitAnd .u64 y_1 4294967295))) + (Int.fdiv (IntKind.u64.wrap ((bitAnd .u64 x_0 4294967295) * (bitAnd .u64 y_1 4294967295))) (2 ^ (min ((32 : Int).toNat) IntKind.u64.bits))))) 4294967295) + (IntKind.u64.wrap ((bitAnd .u64 x_0 4294967295) * (Int.fdiv y_1 (2 ^ (min ((32 : Int).toNat) IntKind.u64.bits))))))) (2 ^ (min ((32 : Int).toNat) IntKind.u64.bits))))), (IntKind.u64.wrap (x_0 * y_1)))
theorem math_bits_Mul64_70_ok (x_0 : Int) (y_1 : Int)  {r : Int × Int} (h : math_bits_Mul64_70 x_0 y_1 = some r) :
  Meets Try.prog 70 [.int .u64 x_0, .int .u64 y_1] [] (fun v G => v = .tuple #[.int .u64 r.1, .int .u64 r.2] ∧ G = []) := by
 refine fn_of_run Try.func70 rfl Try.ntmps70 rfl (fun w0 o0 => ?_)
 refine run_seq ?_
 refine run_region' ?_
 refine oy rfl rfl (y_assign rfl) ?_
 refine oy rfl rfl (y_assign rfl) ?_
 refine ops_nil ?_
 refine goes_code ?_
 refine run_seq ?_
 refine run_region' ?_
 refine oy rfl rfl (y_move rfl) ?_
 refine oy rfl rfl (y_and rfl rfl) ?_
 refine oy rfl rfl (y_assign rfl) ?_
 refine ops_nil ?_
 refine goes_code ?_
 refine run_seq ?_
 refine run_region' ?_
 refine oy rfl rfl (y_move rfl) ?_
 refine oy rfl rfl (y_shr rfl rfl (by decide)) ?_
 refine oy rfl rfl (y_assign rfl) ?_
 refine ops_nil ?_
 refine goes_code ?_
 refine run_seq ?_
 refine run_weak [(0, .int .u64 x_0), (1, .int .u64 y_1), (6, .int .u64 (bitAnd .u64 x_0 4294967295)), (7, .int .u64 (Int.fdiv x_0 (2 ^ (min ((32 : Int).toNat) IntKind.u64.bits))))] [] [] (qv4 rfl rfl rfl rfl) (by decide) rfl ?_
 refine run_region' ?_
 refine oy rfl rfl (y_move rfl) ?_
 refine oy rfl rfl (y_and rfl rfl) ?_
 refine oy rfl rfl (y_assign rfl) ?_
 refine ops_nil ?_
 refine goes_code ?_
 refine run_seq ?_
 refine run_region' ?_
 refine oy rfl rfl (y_move rfl) ?_
 refine oy rfl rfl (y_shr rfl rfl (by decide)) ?_
 refine oy rfl rfl (y_assign rfl) ?_
 refine ops_nil ?_
 refine goes_code ?_
 refine run_seq ?_
 refine run_region' ?_
 refine oy rfl rfl (y_move rfl) ?_
 refine oy rfl rfl (y_move rfl) ?_
 refine oy rfl rfl (y_mul rfl rfl) ?_
 refine oy rfl rfl (y_assign rfl) ?_
 refine ops_nil ?_
 refine goes_code ?_
 refine run_seq ?_
 refine run_weak [(0, .int .u64 x_0), (1, .int .u64 y_1), (6, .int .u64 (bitAnd .u64 x_0 4294967295)), (7, .int .u64 (Int.fdiv x_0 (2 ^ (min ((32 : Int).toNat) IntKind.u64.bits)))), (8, .int .u64 (bitAnd .u64 y_1 4294967295)), (9, .int .u64 (Int.fdiv y_1 (2 ^ (min ((32 : Int).toNat) IntKind.u64.bits)))), (10, .int .u64 (IntKind.u64.wrap ((bitAnd .u64 x_0 4294967295) * (bitAnd .u64 y_1 4294967295))))] [] [] (qv7 rfl rfl rfl rfl rfl rfl rfl) (by decide) rfl ?_
 refine run_region' ?_
 refine oy rfl rfl (y_move rfl) ?_
 refine oy rfl rfl (y_move rfl) ?_
 refine oy rfl rfl (y_mul rfl rfl) ?_
 refine oy rfl rfl (y_move rfl) ?_
 refine oy rfl rfl (y_shr rfl rfl (by decide)) ?_
 refine oy rfl rfl (y_add rfl rfl) ?_
 refine oy rfl rfl (y_assign rfl) ?_
 refine ops_nil ?_
 refine goes_code ?_
 refine run_seq ?_
 refine run_region' ?_
 refine oy rfl rfl (y_move rfl) ?_
 refine oy rfl rfl (y_and rfl rfl) ?_
 refine oy rfl rfl (y_assign rfl) ?_
 refine ops_nil ?_
 refine goes_code ?_
 refine run_seq ?_
 refine run_weak [(0, .int .u64 x_0), (1, .int .u64 y_1), (6, .int .u64 (bitAnd .u64 x_0 4294967295)), (7, .int .u64 (Int.fdiv x_0 (2 ^ (min ((32 : Int).toNat) IntKind.u64.bits)))), (9, .int .u64 (Int.fdiv y_1 (2 ^ (min ((32 : Int).toNat) IntKind.u64.bits)))), (11, .int .u64 (IntKind.u64.wrap ((IntKind.u64.wrap ((Int.fdiv x_0 (2 ^ (min ((32 : Int).toNat) IntKind.u64.bits))) * (bitAnd .u64 y_1 4294967295))) + (Int.fdiv (IntKind.u64.wrap ((bitAnd .u64 x_0 4294967295) * (bitAnd .u64 y_1 4294967295))) (2 ^ (min ((32 : Int).toNat) IntKind.u64.bits)))))), (12, .int .u64 (bitAnd .u64 (IntKind.u64.wrap ((IntKind.u64.wrap ((Int.fdiv x_0 (2 ^ (min ((32 : Int).toNat) IntKind.u64.bits))) * (bitAnd .u64 y_1 4294967295))) + (Int.fdiv (IntKind.u64.wrap ((bitAnd .u64 x_0 4294967295) * (bitAnd .u64 y_1 4294967295))) (2 ^ (min ((32 : Int).toNat) IntKind.u64.bits))))) 4294967295))] [] [] (qv7 rfl rfl rfl rfl rfl rfl rfl) (by decide) rfl ?_
 refine run_region' ?_
 refine oy rfl rfl (y_move rfl) ?_
 refine oy rfl rfl (y_shr rfl rfl (by decide)) ?_
 refine oy rfl rfl (y_assign rfl) ?_
 refine ops_nil ?_
 refine goes_code ?_
 refine run_seq ?_
 refine run_region' ?_
 refine oy rfl rfl (y_move rfl) ?_
 refine oy rfl rfl (y_move rfl) ?_
 refine oy rfl rfl (y_move rfl) ?_
 refine oy rfl rfl (y_mul rfl rfl) ?_
 refine oy rfl rfl (y_add rfl rfl) ?_
 refine oy rfl rfl (y_assign rfl) ?_
 refine ops_nil ?_
 refine goes_code ?_
 refine run_seq ?_
 refine run_weak [(0, .int .u64 x_0), (1, .int .u64 y_1), (7, .int .u64 (Int.fdiv x_0 (2 ^ (min ((32 : Int).toNat) IntKind.u64.bits)))), (9, .int .u64 (Int.fdiv y_1 (2 ^ (min ((32 : Int).toNat) IntKind.u64.bits)))), (12, .int .u64 (IntKind.u64.wrap ((bitAnd .u64 (IntKind.u64.wrap ((IntKind.u64.wrap ((Int.fdiv x_0 (2 ^ (min ((32 : Int).toNat) IntKind.u64.bits))) * (bitAnd .u64 y_1 4294967295))) + (Int.fdiv (IntKind.u64.wrap ((bitAnd .u64 x_0 4294967295) * (bitAnd .u64 y_1 4294967295))) (2 ^ (min ((32 : Int).toNat) IntKind.u64.bits))))) 4294967295) + (IntKind.u64.wrap ((bitAnd .u64 x_0 4294967295) * (Int.fdiv y_1 (2 ^ (min ((32 : Int).toNat) IntKind.u64.bits)))))))), (13, .int .u64 (Int.fdiv (IntKind.u64.wrap ((IntKind.u64.wrap ((Int.fdiv x_0 (2 ^ (min ((32 : Int).toNat) IntKind.u64.bits))) * (bitAnd .u64 y_1 4294967295))) + (Int.fdiv (IntKind.u64.wrap ((bitAnd .u64 x_0 4294967295) * (bitAnd .u64 y_1 4294967295))) (2 ^ (min ((32 : Int).toNat) IntKind.u64.bits))))) (2 ^ (min ((32 : Int).toNat) IntKind.u64.bits))))] [] [] (qv6 rfl rfl rfl rfl rfl rfl) (by decide) rfl ?_
 refine run_region' ?_
 refine oy rfl rfl (y_move rfl) ?_
 refine oy rfl rfl (y_move rfl) ?_
 refine oy rfl rfl (y_mul rfl rfl) ?_
 refine oy rfl rfl (y_move rfl) ?_
 refine oy rfl rfl (y_add rfl rfl) ?_
 refine oy rfl rfl (y_move rfl) ?_
 refine oy rfl rfl (y_shr rfl rfl (by decide)) ?_
 refine oy rfl rfl (y_add rfl rfl) ?_
 refine oy rfl rfl (y_assign rfl) ?_
 refine ops_nil ?_
 refine goes_code ?_
 refine run_seq ?_
 refine run_weak [(0, .int .u64 x_0), (1, .int .u64 y_1), (4, .int .u64 (IntKind.u64.wrap ((IntKind.u64.wrap ((IntKind.u64.wrap ((Int.fdiv x_0 (2 ^ (min ((32 : Int).toNat) IntKind.u64.bits))) * (Int.fdiv y_1 (2 ^ (min ((32 : Int).toNat) IntKind.u64.bits))))) + (Int.fdiv (IntKind.u64.wrap ((IntKind.u64.wrap ((Int.fdiv x_0 (2 ^ (min ((32 : Int).toNat) IntKind.u64.bits))) * (bitAnd .u64 y_1 4294967295))) + (Int.fdiv (IntKind.u64.wrap ((bitAnd .u64 x_0 4294967295) * (bitAnd .u64 y_1 4294967295))) (2 ^ (min ((32 : Int).toNat) IntKind.u64.bits))))) (2 ^ (min ((32 : Int).toNat) IntKind.u64.bits))))) + (Int.fdiv (IntKind.u64.wrap ((bitAnd .u64 (IntKind.u64.wrap ((IntKind.u64.wrap ((Int.fdiv x_0 (2 ^ (min ((32 : Int).toNat) IntKind.u64.bits))) * (bitAnd .u64 y_1 4294967295))) + (Int.fdiv (IntKind.u64.wrap ((bitAnd .u64 x_0 4294967295) * (bitAnd .u64 y_1 4294967295))) (2 ^ (min ((32 : Int).toNat) IntKind.u64.bits))))) 4294967295) + (IntKind.u64.wrap ((bitAnd .u64 x_0 4294967295) * (Int.fdiv y_1 (2 ^ (min ((32 : Int).toNat) IntKind.u64.bits))))))) (2 ^ (min ((32 : Int).toNat) IntKind.u64.bits))))))] [] [] (qv3 rfl rfl rfl) (by decide) rfl ?_
 refine run_region' ?_
 refine oy rfl rfl (y_move rfl) ?_
 refine oy rfl rfl (y_move rfl) ?_
 refine oy rfl rfl (y_mul rfl rfl) ?_
 refine oy rfl rfl (y_assign rfl) ?_
 refine ops_nil ?_
 refine goes_code ?_
 refine run_ret ?_
 obtain rfl := some_eq h
 refine fin_slots [4, 5] [.int .u64 (IntKind.u64.wrap ((IntKind.u64.wrap ((IntKind.u64.wrap ((Int.fdiv x_0 (2 ^ (min ((32 : Int).toNat) IntKind.u64.bits))) * (Int.fdiv y_1 (2 ^ (min ((32 : Int).toNat) IntKind.u64.bits))))) + (Int.fdiv (IntKind.u64.wrap ((IntKind.u64.wrap ((Int.fdiv x_0 (2 ^ (min ((32 : Int).toNat) IntKind.u64.bits))) * (bitAnd .u64 y_1 4294967295))) + (Int.fdiv (IntKind.u64.wrap ((bitAnd .u64 x_0 4294967295) * (bitAnd .u64 y_1 4294967295))) (2 ^ (min ((32 : Int).toNat) IntKind.u64.bits))))) (2 ^ (min ((32 : Int).toNat) IntKind.u64.bits))))) + (Int.fdiv (IntKind.u64.wrap ((bitAnd .u64 (IntKind.u64.wrap ((IntKind.u64.wrap ((Int.fdiv x_0 (2 ^ (min ((32 : Int).toNat) IntKind.u64.bits))) * (bitAnd .u64 y_1 4294967295))) + (Int.fdiv (IntKind.u64.wrap ((bitAnd .u64 x_0 4294967295) * (bitAnd .u64 y_1 4294967295))) (2 ^ (min ((32 : Int).toNat) IntKind.u64.bits))))) 4294967295) + (IntKind.u64.wrap ((bitAnd .u64 x_0 4294967295) * (Int.fdiv y_1 (2 ^ (min ((32 : Int).toNat) IntKind.u64.bits))))))) (2 ^ (min ((32 : Int).toNat) IntKind.u64.bits))))), .int .u64 (IntKind.u64.wrap (x_0 * y_1))] [] [] Try.results70 rfl (by decide) rfl ?_
 exact ⟨rfl, rfl⟩

def math_bits_Mul_64 (x_0 : Int) (y_1 : Int) : Option (Int × Int) :=
 obind (math_bits_Mul64_70 x_0 y_1) fun r1 =>
 some (r1.1, r1.2)
theorem math_bits_Mul_64_ok (x_0 : Int) (y_1 : Int)  {r : Int × Int} (h : math_bits_Mul_64 x_0 y_1 = some r) :
  Meets Try.prog 64 [.int .u64 x_0, .int .u64 y_1] [] (fun v G => v = .tuple #[.int .u64 r.1, .int .u64 r.2] ∧ G = []) := by
 refine fn_of_run Try.func64 rfl Try.ntmps64 rfl (fun w0 o0 => ?_)
 refine run_seq ?_
 refine run_region' ?_
 refine oy rfl rfl (y_assign rfl) ?_
 refine oy rfl rfl (y_assign rfl) ?_
 refine ops_nil ?_
 refine goes_code ?_
 refine run_seq ?_
 refine run_cond_f rfl ?_
 refine run_skip ?_
 refine goes_code ?_
 refine run_seq ?_
 refine run_region' ?_
 refine oy rfl rfl (y_move rfl) ?_
 refine oy rfl rfl (y_move rfl) ?_
 obtain ⟨r1, hr2, h⟩ := obind_some h
 refine ot rfl rfl (t_callx (vs := [.int .u64 x_0, .int .u64 y_1]) (cs := []) [] rfl Try.call70 rfl (math_bits_Mul64_70_ok x_0 y_1  hr2) showsX_nil rfl (.inl rfl)) ?_
 rintro _ _ ⟨_, ⟨rfl, rfl⟩, rfl⟩
 refine oy rfl rfl (y_move rfl) ?_
 refine oy rfl rfl (y_extract rfl rfl) ?_
 refine oy rfl rfl (y_extract rfl rfl) ?_
 refine oy rfl rfl (y_assign rfl) ?_
 refine oy rfl rfl (y_assign rfl) ?_
 refine ops_nil ?_
 refine goes_code ?_
 refine run_seq ?_
 refine run_weak [(8, .int .u64 r1.1), (9, .int .u64 r1.2)] [] [] (qv2 rfl rfl) (by decide) rfl ?_
 refine run_region' ?_
 refine oy rfl rfl (y_move rfl) ?_
 refine oy rfl rfl (y_move rfl) ?_
 refine oy rfl rfl (y_assign rfl) ?_
 refine oy rfl rfl (y_assign rfl) ?_
 refine ops_nil ?_
 refine goes_code ?_
 refine run_ret ?_
 obtain rfl := some_eq h
 refine fin_slots [4, 5] [.int .u64 r1.1, .int .u64 r1.2] [] [] Try.results64 rfl (by decide) rfl ?_
 exact ⟨rfl, rfl⟩

def slices_Repeat_int_int_48_L1 : (Int × (List Int)) → Option (Lp (Int × (List Int)) (Lp ((List Int)) ((List Int)))) :=
 fun (n_15, x_16) =>
  cond (decide (n_15 < (x_16.length : Int)))
   (need (0 ≤ n_15 ∧ n_15 ≤ (x_16.length : Int) ∧ (x_16.length : Int) ≤ (x_16.length : Int)) (
   need (0 ≤ (0 : Int) ∧ 0 ≤ n_15 ∧ n_15 ≤ (x_16.length : Int)) (
   some (.go ((IntKind.i64.wrap (n_15 + ((min ((x_16.take n_15.toNat).drop (0 : Int).toNat).length ((((x_16.length : Int)).toNat) - n_15.toNat) : Nat) : Int))), (cpy x_16 n_15.toNat (((x_16.length : Int)).toNat) ((x_16.take n_15.toNat).drop (0 : Int).toNat)))))))
   (some (.stop (.go x_16)))
def slices_Repeat_int_int_48 (n : Nat) (x_0 : (List Int)) (count_1 : Int) : Option ((List Int)) :=
 cond (decide (count_1 < 0))
  (none)
  (obind (math_bits_Mul_64 (IntKind.u64.wrap (x_0.length : Int)) (IntKind.u64.wrap count_1)) fun r2 =>
  cond (decide (0 < r2.1) || decide (9223372036854775807 < r2.2))
   (none)
   (need (0 ≤ (IntKind.i64.wrap r2.2) ∧ (IntKind.i64.wrap r2.2) ≤ 4294967296) (
   bindJ (S := (List Int))
    (iter (slices_Repeat_int_int_48_L1) n (((min x_0.length (((List.replicate ((IntKind.i64.wrap r2.2)).toNat (0 : Int)).length) - 0) : Nat) : Int), (cpy (List.replicate ((IntKind.i64.wrap r2.2)).toNat (0 : Int)) 0 ((List.replicate ((IntKind.i64.wrap r2.2)).toNat (0 : Int)).length) x_0)))
   (fun x_10 =>
    some x_10))))
theorem slices_Repeat_int_int_48_ok (n : Nat) (x_0 : (List Int)) (count_1 : Int) (x_0v : Value) {r : (List Int)} (h : slices_Repeat_int_int_48 n x_0 count_1 = some r) :
  Meets Try.prog 48 [x_0v, .int .i64 count_1] [ro x_0v 1 (x_0.map (eInt .i64))] (fun v G => ∃ v0, v = v0 ∧ G = [row v0 1 (r.map (eInt .i64))]) := by
 refine fn_of_run Try.func48 rfl Try.ntmps48 rfl (fun w0 o0 => ?_)
 refine run_seq ?_
 refine run_region' ?_
 refine oy rfl rfl (y_assign rfl) ?_
 refine ops_nil ?_
 refine goes_code ?_
 refine run_seq ?_
 refine run_seq ?_
 refine run_region' ?_
 refine oy rfl rfl (y_move rfl) ?_
 refine oy rfl rfl (y_lss rfl rfl) ?_
 refine ops_nil ?_
 refine goes_code ?_
 refine run_cond (decide (count_1 < 0)) rfl (fun hc1 => ?_) (fun hc1 => ?_)
 ·replace h := cond_t h hc1
  cases h
 ·replace h := cond_f h hc1
  refine run_skip ?_
  refine goes_code ?_
  refine run_seq ?_
  refine run_region' ?_
  refine oy rfl rfl (y_move rfl) ?_
  refine oy rfl rfl ((y_len 0 rfl Try.runUnderlying34 rfl rfl reads_ro).to (v_len (eInt .i64) _)) ?_
  refine oy rfl rfl (y_conv Try.runUnderlying3 Try.runUnderlying113 rfl) ?_
  refine oy rfl rfl (y_move rfl) ?_
  refine oy rfl rfl (y_conv Try.runUnderlying3 Try.runUnderlying113 rfl) ?_
  obtain ⟨r2, hr3, h⟩ := obind_some h
  refine ot rfl rfl (t_callx (vs := [.int .u64 (IntKind.u64.wrap (x_0.length : Int)), .int .u64 (IntKind.u64.wrap count_1)]) (cs := []) [] rfl Try.call64 rfl (math_bits_Mul_64_ok (IntKind.u64.wrap (x_0.length : Int)) (IntKind.u64.wrap count_1)  hr3) showsX_nil rfl (.inl rfl)) ?_
  rintro _ _ ⟨_, ⟨rfl, rfl⟩, rfl⟩
  refine oy rfl rfl (y_move rfl) ?_
  refine oy rfl rfl (y_extract rfl rfl) ?_
  refine oy rfl rfl (y_extract rfl rfl) ?_
  refine oy rfl rfl (y_assign rfl) ?_
  refine oy rfl rfl (y_assign rfl) ?_
  refine ops_nil ?_
  refine goes_code ?_
  refine run_seq ?_
  refine run_seq ?_
  refine run_weak [(0, x_0v), (5, .int .u64 r2.1), (6, .int .u64 r2.2)] [0] [ro x_0v 1 (x_0.map (eInt .i64))] (qv3 rfl rfl rfl) (by decide) rfl ?_
  refine run_region' ?_
  refine oy rfl rfl (y_move rfl) ?_
  refine oy rfl rfl (y_gtr rfl rfl) ?_
  refine oy rfl rfl (y_move rfl) ?_
  refine ops_cut 3 (Bool) (fun σ => [(0, x_0v), (6, .int .u64 r2.2), (26, .bool σ)]) (fun σ => [ro x_0v 1 (x_0.map (eInt .i64))]) (fun σ => σ = (decide (0 < r2.1) || decide (9223372036854775807 < r2.2))) (fun L4 hL5 => ?_) ?_
  ·refine ops_split 23 (decide (0 < r2.1)) rfl (fun hg6 => ?_) (fun hg6 => ?_)
   ·skip
    refine ops_no 2 false 23 rfl rfl rfl rfl rfl ?_
    refine ops_no 2 false 23 rfl rfl rfl rfl rfl ?_
    refine oy rfl rfl (y_pick (b := true) rfl rfl) ?_
    refine ops_nil ?_
    exact goes_cut hL5 true [0] (qv3 rfl rfl rfl) (by decide) rfl (by rw [hg6]; simp)
   ·skip
    refine ops_y (wg 2 false 23 rfl rfl rfl rfl) rfl (y_move rfl) ?_
    refine ops_y (wg 2 false 23 rfl rfl rfl rfl) rfl (y_gtr rfl rfl) ?_
    refine oy rfl rfl (y_pick (b := false) rfl rfl) ?_
    refine ops_nil ?_
    exact goes_cut hL5 (decide (9223372036854775807 < r2.2)) [0] (qv3 rfl rfl rfl) (by decide) rfl (by rw [hg6]; simp)
  rintro _ rfl
  refine ops_nil ?_
  refine goes_code ?_
  refine run_cond (decide (0 < r2.1) || decide (9223372036854775807 < r2.2)) rfl (fun hc7 => ?_) (fun hc7 => ?_)
  ·replace h := cond_t h hc7
   cases h
  ·replace h := cond_f h hc7
   refine run_skip ?_
   refine goes_code ?_
   refine run_seq ?_
   refine run_region' ?_
   refine oy rfl rfl (y_move rfl) ?_
   refine oy rfl rfl (y_conv Try.runUnderlying113 Try.runUnderlying3 rfl) ?_
   obtain ⟨hm9, h⟩ := need_some h
   refine ot rfl rfl (t_makeSlice (es := 1) Try.runUnderlying34 Try.typeInfo3 rfl Try.zeroValue3 rfl (by decide) rfl rfl hm9.1 hm9.2 (by decide)) ?_
   rintro v8 _ rfl
   refine ops_turn (retell 1 (g := row v8 1 ((List.replicate ((IntKind.i64.wrap r2.2)).toNat (0 : Int)).map (eInt .i64))) rfl (congrArg (row _ _) (map_rep rfl))) ?_
   refine oy rfl rfl (y_assign rfl) ?_
   refine ops_nil ?_
   refine goes_code ?_
   refine run_seq ?_
   refine run_region' ?_
   refine oy rfl rfl (y_move rfl) ?_
   refine oy rfl rfl (y_move rfl) ?_
   refine ot rfl rfl (t_copyL (F := (eInt .i64)) (l := (List.replicate ((IntKind.i64.wrap r2.2)).toNat (0 : Int))) (ns := x_0) (es := 1) (a := 0) (b := ((List.replicate ((IntKind.i64.wrap r2.2)).toNat (0 : Int)).map (eInt .i64)).length) (b2 := (List.replicate ((IntKind.i64.wrap r2.2)).toNat (0 : Int)).length) 1 rfl Try.runUnderlying34 Try.sizeOf3 rfl part_all (by first | exact Nat.zero_le _ | omega) (by first | exact Nat.le_refl _ | omega | (simp only [List.length_map]; omega)) rfl rfl (srcp_reads 0 rfl reads_ro (map_ok (eInt_ok _) _)) rfl (List.length_map _)) ?_
   rintro _ _ ⟨rfl, rfl⟩
   refine oy rfl rfl (y_assign rfl) ?_
   refine ops_nil ?_
   refine goes_code ?_
   obtain ⟨o11, h, ho12⟩ := bindJ_some h
   refine run_cut (((List Int)) × (Unit)) (fun σ => [(7, v8)]) (fun σ => [row v8 1 (σ.1.map (eInt .i64))]) (fun σ => o11 = .go σ.1) (fun L14 hL13 => ?_) ?_
   ·
    refine run_block ?_
    refine run_iter (step := slices_Repeat_int_int_48_L1) (n := n) (s0 := (((min x_0.length (((List.replicate ((IntKind.i64.wrap r2.2)).toNat (0 : Int)).length) - 0) : Nat) : Int), (cpy (List.replicate ((IntKind.i64.wrap r2.2)).toNat (0 : Int)) 0 ((List.replicate ((IntKind.i64.wrap r2.2)).toNat (0 : Int)).length) x_0))) h (G := Unit) () (fun σ γ => [(7, v8), (8, .int .i64 σ.1)]) (fun σ γ => [row v8 1 (σ.2.map (eInt .i64))]) [1] (qv2 rfl rfl) (by decide) rfl ?_
    rintro ⟨n_15, x_16⟩ _ o17 h L20 hgo18 hstop19
    change Run _ _ _ (VF.of [(7, v8), (8, .int .i64 n_15)]) [row v8 1 (x_16.map (eInt .i64))]
    refine run_seq ?_
    refine run_seq ?_
    refine run_region' ?_
    refine oy rfl rfl (y_move rfl) ?_
    refine oy rfl rfl (y_move rfl) ?_
    refine oy rfl rfl ((y_len 0 rfl Try.runUnderlying34 rfl rfl reads_row).to (v_len (eInt .i64) _)) ?_
    refine oy rfl rfl (y_lss rfl rfl) ?_
    refine ops_nil ?_
    refine goes_code ?_
    refine run_cond (decide (n_15 < (x_16.length : Int))) rfl (fun hc21 => ?_) (fun hc21 => ?_)
    ·replace h := cond_t h hc21
     refine run_skip ?_
     refine goes_code ?_
     refine run_block ?_
     obtain ⟨hb22, h⟩ := need_some h
     obtain ⟨hb23, h⟩ := need_some h
     refine run_drawany [HA.emp] (by kernel_rfl) ?_
     refine any_y 0 rfl (by kernel_rfl) (by kernel_rfl) (by kernel_rfl) (se (sn)) (wn rfl) rfl (y_move rfl) ?_
     refine any_y 1 rfl (by kernel_rfl) (by kernel_rfl) (by kernel_rfl) (se (sn)) (wn rfl) rfl (y_move rfl) ?_
     refine any_y 2 rfl (by kernel_rfl) (by kernel_rfl) (by kernel_rfl) (se (sn)) (wn rfl) rfl (y_move rfl) ?_
     refine any_y 4 rfl (by kernel_rfl) (by kernel_rfl) (by kernel_rfl) (se (sn)) (wn rfl) rfl (y_move rfl) ?_
     refine any_y 5 rfl (by kernel_rfl) (by kernel_rfl) (by kernel_rfl) (se (sn)) (wn rfl) rfl (y_move rfl) ?_
     refine any_cut2 #[true, true, true, true, true, true, true, true, true, true] 0 (Unit) (fun σ => [(7, v8), (8, .int .i64 (IntKind.i64.wrap (n_15 + ((min ((x_16.take n_15.toNat).drop (0 : Int).toNat).length ((((x_16.length : Int)).toNat) - n_15.toNat) : Nat) : Int))))]) (fun σ => [row v8 1 ((cpy x_16 n_15.toNat (((x_16.length : Int)).toNat) ((x_16.take n_15.toNat).drop (0 : Int).toNat)).map (eInt .i64))]) ?_ (fun hK24 => ?_)
     ·rintro _
      change AnyL _ _ _ _ _ (VF.of [(7, v8), (8, .int .i64 (IntKind.i64.wrap (n_15 + ((min ((x_16.take n_15.toNat).drop (0 : Int).toNat).length ((((x_16.length : Int)).toNat) - n_15.toNat) : Nat) : Int))))]) [row v8 1 ((cpy x_16 n_15.toNat (((x_16.length : Int)).toNat) ((x_16.take n_15.toNat).drop (0 : Int).toNat)).map (eInt .i64))] _
      refine any_nil (by kernel_rfl) ?_
      refine goes_blk ?_
      obtain rfl := some_eq h
      exact goes_iter hgo18 ((IntKind.i64.wrap (n_15 + ((min ((x_16.take n_15.toNat).drop (0 : Int).toNat).length ((((x_16.length : Int)).toNat) - n_15.toNat) : Nat) : Int))), (cpy x_16 n_15.toNat (((x_16.length : Int)).toNat) ((x_16.take n_15.toNat).drop (0 : Int).toNat))) () [0] rfl (qv2 rfl rfl) (by decide) rfl
     refine any_cut2 #[true, true, true, true, true, true, true, false, false, false] 3 (Unit) (fun σ => [(7, v8), (8, .int .i64 n_15), (38, .int .i64 n_15), (41, (subS v8 1 n_15.toNat (((x_16.length : Int)).toNat))), (44, (subS v8 1 ((0 : Int).toNat) n_15.toNat))]) (fun σ => [row v8 1 (x_16.map (eInt .i64))]) ?_ (fun hK25 => ?_)
     ·rintro _
      change AnyL _ _ _ _ _ (VF.of [(7, v8), (8, .int .i64 n_15), (38, .int .i64 n_15), (41, (subS v8 1 n_15.toNat (((x_16.length : Int)).toNat))), (44, (subS v8 1 ((0 : Int).toNat) n_15.toNat))]) [row v8 1 (x_16.map (eInt .i64))] _
      refine any_all [7] (by kernel_rfl) rfl ?_
      refine anyo_cons ?_ ?_
      ·
       refine any_t rfl (wn rfl) rfl (t_copyL (F := (eInt .i64)) (l := x_16) (ns := ((x_16.take n_15.toNat).drop (0 : Int).toNat)) (es := 1) (a := n_15.toNat) (b := ((x_16.length : Int)).toNat) (b2 := ((x_16.length : Int)).toNat) 0 rfl Try.runUnderlying34 Try.sizeOf3 rfl part_sub (by first | exact Nat.zero_le _ | omega) (by first | exact Nat.le_refl _ | omega | (simp only [List.length_map]; omega)) rfl rfl (srcp_sub 0 rfl reads_row (by omega) (by first | omega | (simp only [List.length_map]; omega)) (map_ok (eInt_ok _) _)) (map_sub _ _ _) rfl) ?_
       rintro _ _ ⟨rfl, rfl⟩
       refine ⟨(se (sn)), ?_⟩
       refine any_y 8 rfl (by kernel_rfl) (by kernel_rfl) (by kernel_rfl) (se (sn)) (wn rfl) rfl (y_add rfl rfl) ?_
       refine any_y 9 rfl (by kernel_rfl) (by kernel_rfl) (by kernel_rfl) (se (sn)) (wn rfl) rfl (y_assign rfl) ?_
       exact any_weak2 (hK24 ()) [0] (by kernel_rfl) (qv2 rfl rfl) (by decide) rfl
      exact anyo_nil
     refine any_cut2 #[true, true, true, true, true, true, false, false, false, false] 4 (Unit) (fun σ => [(7, v8), (8, .int .i64 n_15), (38, .int .i64 n_15), (42, v8), (43, .int .i64 n_15), (41, (subS v8 1 n_15.toNat (((x_16.length : Int)).toNat)))]) (fun σ => [row v8 1 (x_16.map (eInt .i64))]) ?_ (fun hK26 => ?_)
     ·rintro _
      change AnyL _ _ _ _ _ (VF.of [(7, v8), (8, .int .i64 n_15), (38, .int .i64 n_15), (42, v8), (43, .int .i64 n_15), (41, (subS v8 1 n_15.toNat (((x_16.length : Int)).toNat)))]) [row v8 1 (x_16.map (eInt .i64))] _
      refine any_all [6] (by kernel_rfl) rfl ?_
      refine anyo_cons ?_ ?_
      ·
       refine any_ty rfl (wn rfl) rfl (y_slice (l := 0) (r := n_15) 0 Try.runUnderlying34 Try.sizeOf3 rfl rfl reads_row bi0 (bi1 (kd := .i64) rfl) hb23.1 hb23.2.1 (map_len_le hb23.2.2)) ⟨(se (sn)), ?_⟩
       exact any_weak2 (hK25 ()) [0] (by kernel_rfl) (qv5 rfl rfl rfl rfl rfl) (by decide) rfl
      exact anyo_nil
     refine any_cut2 #[true, true, true, false, true, true, true, false, false, false] 4 (Unit) (fun σ => [(7, v8), (8, .int .i64 n_15), (38, .int .i64 n_15), (39, v8), (40, .int .i64 n_15), (44, (subS v8 1 ((0 : Int).toNat) n_15.toNat))]) (fun σ => [row v8 1 (x_16.map (eInt .i64))]) ?_ (fun hK27 => ?_)
     ·rintro _
      change AnyL _ _ _ _ _ (VF.of [(7, v8), (8, .int .i64 n_15), (38, .int .i64 n_15), (39, v8), (40, .int .i64 n_15), (44, (subS v8 1 ((0 : Int).toNat) n_15.toNat))]) [row v8 1 (x_16.map (eInt .i64))] _
      refine any_all [3] (by kernel_rfl) rfl ?_
      refine anyo_cons ?_ ?_
      ·
       refine any_ty rfl (wn rfl) rfl (y_slice (l := n_15) (r := (x_16.length : Int)) 0 Try.runUnderlying34 Try.sizeOf3 rfl rfl reads_row (bi1 (kd := .i64) rfl) (by rw [← List.length_map (f := (eInt .i64))]; exact bi0) hb22.1 hb22.2.1 (map_len_le hb22.2.2)) ⟨(se (sn)), ?_⟩
       exact any_weak2 (hK25 ()) [0] (by kernel_rfl) (qv5 rfl rfl rfl rfl rfl) (by decide) rfl
      exact anyo_nil
     refine any_all [3, 6] (by kernel_rfl) rfl ?_
     refine anyo_cons ?_ ?_
     ·
      refine any_ty rfl (wn rfl) rfl (y_slice (l := n_15) (r := (x_16.length : Int)) 0 Try.runUnderlying34 Try.sizeOf3 rfl rfl reads_row (bi1 (kd := .i64) rfl) (by rw [← List.length_map (f := (eInt .i64))]; exact bi0) hb22.1 hb22.2.1 (map_len_le hb22.2.2)) ⟨(se (sn)), ?_⟩
      exact any_weak2 (hK26 ()) [0] (by kernel_rfl) (qv6 rfl rfl rfl rfl rfl rfl) (by decide) rfl
     refine anyo_cons ?_ ?_
     ·
      refine any_ty rfl (wn rfl) rfl (y_slice (l := 0) (r := n_15) 0 Try.runUnderlying34 Try.sizeOf3 rfl rfl reads_row bi0 (bi1 (kd := .i64) rfl) hb23.1 hb23.2.1 (map_len_le hb23.2.2)) ⟨(se (sn)), ?_⟩
      exact any_weak2 (hK27 ()) [0] (by kernel_rfl) (qv6 rfl rfl rfl rfl rfl rfl) (by decide) rfl
     exact anyo_nil
    ·replace h := cond_f h hc21
     refine run_exit _ rfl ?_
     obtain rfl := some_eq h
     obtain rfl := hstop19 _ rfl
     exact goes_cut hL13 (x_16, ()) [0] (qv1 rfl) (by decide) rfl rfl
   rintro ⟨x_10, _⟩ hj
   obtain rfl : o11 = _ := hj
   replace h := after_go ho12
   clear ho12
   change Run _ _ _ (VF.of [(7, v8)]) [row v8 1 (x_10.map (eInt .i64))]
   refine run_seq ?_
   refine run_region' ?_
   refine oy rfl rfl (y_move rfl) ?_
   refine oy rfl rfl (y_assign rfl) ?_
   refine ops_nil ?_
   refine goes_code ?_
   refine run_ret ?_
   obtain rfl := some_eq h
   refine fin_slots [4] [v8] [0] [row v8 1 (x_10.map (eInt .i64))] Try.results48 rfl (by decide) rfl ?_
   exact ⟨_, rfl, rfl⟩

def cmp_isNaN_int_71 (x_0 : Int) : Option (Bool) :=
 some (decide (x_0 ≠ x_0))
theorem cmp_isNaN_int_71_ok (x_0 : Int)  {r : Bool} (h : cmp_isNaN_int_71 x_0 = some r) :
  Meets Try.prog 71 [.int .i64 x_0] [] (fun v G => v = .bool r ∧ G = []) := by
 refine fn_of_run Try.func71 rfl Try.ntmps71 rfl (fun w0 o0 => ?_)
 refine run_seq ?_
 refine run_region' ?_
 refine oy rfl rfl (y_assign rfl) ?_
 refine ops_nil ?_
 refine goes_code ?_
 refine run_seq ?_
 refine run_region' ?_
 refine oy rfl rfl (y_move rfl) ?_
 refine oy rfl rfl (y_move rfl) ?_
 refine oy rfl rfl (y_neq rfl rfl) ?_
 refine oy rfl rfl (y_assign rfl) ?_
 refine ops_nil ?_
 refine goes_code ?_
 refine run_ret ?_
 obtain rfl := some_eq h
 refine fin_slots [2] [.bool (decide (x_0 ≠ x_0))] [] [] Try.results71 rfl (by decide) rfl ?_
 exact ⟨rfl, rfl⟩

def cmp_Compare_int_66 (x_0 : Int) (y_1 : Int) : Option (Int) :=
 obind (cmp_isNaN_int_71 x_0) fun r1 =>
 obind (cmp_isNaN_int_71 y_1) fun r3 =>
 cond r1
  (cond r3
   (some 0)
   (some (-1)))
  (cond r3
   (some 1)
   (cond (decide (x_0 < y_1))
    (some (-1))
    (cond (decide (y_1 < x_0))
     (some 1)
     (some 0))))
theorem cmp_Compare_int_66_ok (x_0 : Int) (y_1 : Int)  {r : Int} (h : cmp_Compare_int_66 x_0 y_1 = some r) :
  Meets Try.prog 66 [.int .i64 x_0, .int .i64 y_1] [] (fun v G => v = .int .i64 r ∧ G = []) := by
 refine fn_of_run Try.func66 rfl Try.ntmps66 rfl (fun w0 o0 => ?_)
 refine run_seq ?_
 refine run_region' ?_
 refine oy rfl rfl (y_assign rfl) ?_
 refine ops_nil ?_
 refine goes_code ?_
 refine run_seq ?_
 refine run_region' ?_
 refine oy rfl rfl (y_move rfl) ?_
 obtain ⟨r1, hr2, h⟩ := obind_some h
 refine ot rfl rfl (t_callx (vs := [.int .i64 x_0]) (cs := []) [] rfl Try.call71 rfl (cmp_isNaN_int_71_ok x_0  hr2) showsX_nil rfl (.inl rfl)) ?_
 rintro _ _ ⟨_, ⟨rfl, rfl⟩, rfl⟩
 refine oy rfl rfl (y_assign rfl) ?_
 refine ops_nil ?_
 refine goes_code ?_
 refine run_seq ?_
 refine run_region' ?_
 refine oy rfl rfl (y_move rfl) ?_
 obtain ⟨r3, hr4, h⟩ := obind_some h
 refine ot rfl rfl (t_callx (vs := [.int .i64 y_1]) (cs := []) [] rfl Try.call71 rfl (cmp_isNaN_int_71_ok y_1  hr4) showsX_nil rfl (.inl rfl)) ?_
 rintro _ _ ⟨_, ⟨rfl, rfl⟩, rfl⟩
 refine oy rfl rfl (y_assign rfl) ?_
 refine ops_nil ?_
 refine goes_code ?_
 refine run_seq ?_
 refine run_seq ?_
 refine run_region' ?_
 refine oy rfl rfl (y_move rfl) ?_
 refine ops_nil ?_
 refine goes_code ?_
 refine run_cond r1 rfl (fun hc5 => ?_) (fun hc5 => ?_)
 ·replace h := cond_t h hc5
  refine run_seq ?_
  refine run_seq ?_
  refine run_weak [(6, .bool r3)] [] [] (qv1 rfl) (by decide) rfl ?_
  refine run_region' ?_
  refine oy rfl rfl (y_move rfl) ?_
  refine ops_nil ?_
  refine goes_code ?_
  refine run_cond r3 rfl (fun hc6 => ?_) (fun hc6 => ?_)
  ·replace h := cond_t h hc6
   refine run_seq ?_
   refine run_region' ?_
   refine oy rfl rfl (y_assign rfl) ?_
   refine ops_nil ?_
   refine goes_code ?_
   refine run_ret ?_
   obtain rfl := some_eq h
   refine fin_slots [4] [.int .i64 0] [] [] Try.results66 rfl (by decide) rfl ?_
   exact ⟨rfl, rfl⟩
  ·replace h := cond_f h hc6
   refine run_skip ?_
   refine goes_code ?_
   refine run_seq ?_
   refine run_region' ?_
   refine oy rfl rfl (y_assign rfl) ?_
   refine ops_nil ?_
   refine goes_code ?_
   refine run_ret ?_
   obtain rfl := some_eq h
   refine fin_slots [4] [.int .i64 (-1)] [] [] Try.results66 rfl (by decide) rfl ?_
   exact ⟨rfl, rfl⟩
 ·replace h := cond_f h hc5
  refine run_skip ?_
  refine goes_code ?_
  refine run_seq ?_
  refine run_seq ?_
  refine run_weak [(0, .int .i64 x_0), (1, .int .i64 y_1), (6, .bool r3)] [] [] (qv3 rfl rfl rfl) (by decide) rfl ?_
  refine run_region' ?_
  refine oy rfl rfl (y_move rfl) ?_
  refine ops_nil ?_
  refine goes_code ?_
  refine run_cond r3 rfl (fun hc7 => ?_) (fun hc7 => ?_)
  ·replace h := cond_t h hc7
   refine run_seq ?_
   refine run_region' ?_
   refine oy rfl rfl (y_assign rfl) ?_
   refine ops_nil ?_
   refine goes_code ?_
   refine run_ret ?_
   obtain rfl := some_eq h
   refine fin_slots [4] [.int .i64 1] [] [] Try.results66 rfl (by decide) rfl ?_
   exact ⟨rfl, rfl⟩
  ·replace h := cond_f h hc7
   refine run_skip ?_
   refine goes_code ?_
   refine run_seq ?_
   refine run_seq ?_
   refine run_region' ?_
   refine oy rfl rfl (y_move rfl) ?_
   refine oy rfl rfl (y_move rfl) ?_
   refine oy rfl rfl (y_lss rfl rfl) ?_
   refine ops_nil ?_
   refine goes_code ?_
   refine run_cond (decide (x_0 < y_1)) rfl (fun hc8 => ?_) (fun hc8 => ?_)
   ·replace h := cond_t h hc8
    refine run_seq ?_
    refine run_region' ?_
    refine oy rfl rfl (y_assign rfl) ?_
    refine ops_nil ?_
    refine goes_code ?_
    refine run_ret ?_
    obtain rfl := some_eq h
    refine fin_slots [4] [.int .i64 (-1)] [] [] Try.results66 rfl (by decide) rfl ?_
    exact ⟨rfl, rfl⟩
   ·replace h := cond_f h hc8
    refine run_skip ?_
    refine goes_code ?_
    refine run_seq ?_
    refine run_seq ?_
    refine run_region' ?_
    refine oy rfl rfl (y_move rfl) ?_
    refine oy rfl rfl (y_move rfl) ?_
    refine oy rfl rfl (y_gtr rfl rfl) ?_
    refine ops_nil ?_
    refine goes_code ?_
    refine run_cond (decide (y_1 < x_0)) rfl (fun hc9 => ?_) (fun hc9 => ?_)
    ·replace h := cond_t h hc9
     refine run_seq ?_
     refine run_region' ?_
     refine oy rfl rfl (y_assign rfl) ?_
     refine ops_nil ?_
     refine goes_code ?_
     refine run_ret ?_
     obtain rfl := some_eq h
     refine fin_slots [4] [.int .i64 1] [] [] Try.results66 rfl (by decide) rfl ?_
     exact ⟨rfl, rfl⟩
    ·replace h := cond_f h hc9
     refine run_skip ?_
     refine goes_code ?_
     refine run_seq ?_
     refine run_region' ?_
     refine oy rfl rfl (y_assign rfl) ?_
     refine ops_nil ?_
     refine goes_code ?_
     refine run_ret ?_
     obtain rfl := some_eq h
     refine fin_slots [4] [.int .i64 0] [] [] Try.results66 rfl (by decide) rfl ?_
     exact ⟨rfl, rfl⟩

def cmp_Or_int_65_L1 (vals_0 : (List Int)) : (Int) → Option (Lp (Int) (Lp (Unit) (Int))) :=
 fun s_5 =>
  cond (decide (s_5 < (vals_0.length : Int)))
   (idx vals_0 s_5 fun x11 =>
   cond (decide (x11 ≠ 0))
    (some (.stop (.stop x11)))
    (some (.go (IntKind.i64.wrap (s_5 + 1)))))
   (some (.stop (.go ())))
def cmp_Or_int_65 (n : Nat) (vals_0 : (List Int)) : Option (Int) :=
 bindJ (S := Unit)
  (iter (cmp_Or_int_65_L1 vals_0) n 0)
 (fun _ =>
  some 0)
theorem cmp_Or_int_65_ok (n : Nat) (vals_0 : (List Int)) (vals_0v : Value) {r : Int} (h : cmp_Or_int_65 n vals_0 = some r) :
  Meets Try.prog 65 [vals_0v] [ro vals_0v 1 (vals_0.map (eInt .i64))] (fun v G => v = .int .i64 r ∧ G = []) := by
 refine fn_of_run Try.func65 rfl Try.ntmps65 rfl (fun w0 o0 => ?_)
 refine run_seq ?_
 refine run_region' ?_
 refine oy rfl rfl (y_assign rfl) ?_
 refine ops_nil ?_
 refine goes_code ?_
 refine run_seq ?_
 refine run_region' ?_
 refine oy rfl rfl (y_assign rfl) ?_
 refine ops_nil ?_
 refine goes_code ?_
 obtain ⟨o1, h, ho2⟩ := bindJ_some h
 refine run_cut ((Unit) × (Unit)) (fun σ => [(3, .int .i64 0)]) (fun σ => []) (fun σ => o1 = .go σ.1) (fun L4 hL3 => ?_) ?_
 ·
  refine run_seq ?_
  refine run_region' ?_
  refine oy rfl rfl (y_move rfl) ?_
  refine oy rfl rfl ((y_len 0 rfl Try.runUnderlying34 rfl rfl reads_ro).to (v_len (eInt .i64) _)) ?_
  refine oy rfl rfl (y_move rfl) ?_
  refine ops_nil ?_
  refine goes_code ?_
  refine run_block ?_
  refine run_iter (step := cmp_Or_int_65_L1 vals_0) (n := n) (s0 := 0) h (G := Unit) () (fun σ γ => [(3, .int .i64 0), (6, vals_0v), (7, .int .i64 (vals_0.length : Int)), (8, .int .i64 σ)]) (fun σ γ => [ro vals_0v 1 (vals_0.map (eInt .i64))]) [0] (qv4 rfl rfl rfl rfl) (by decide) rfl ?_
  rintro s_5 _ o6 h L9 hgo7 hstop8
  change Run _ _ _ (VF.of [(3, .int .i64 0), (6, vals_0v), (7, .int .i64 (vals_0.length : Int)), (8, .int .i64 s_5)]) [ro vals_0v 1 (vals_0.map (eInt .i64))]
  refine run_seq ?_
  refine run_region' ?_
  refine oy rfl rfl (y_lss rfl rfl) ?_
  refine ops_nil ?_
  refine goes_code ?_
  refine run_seq ?_
  refine run_cond (decide (s_5 < (vals_0.length : Int))) rfl (fun hc10 => ?_) (fun hc10 => ?_)
  ·replace h := cond_t h hc10
   refine run_skip ?_
   refine goes_code ?_
   refine run_seq ?_
   refine run_block ?_
   refine run_seq ?_
   refine run_region' ?_
   obtain ⟨x11, hzx11, hlx11, hxx11, h⟩ := idx_some h
   refine oy rfl rfl (y_indexAddrI (kd := .i64) (i := s_5) 0 Try.runUnderlying34 Try.sizeOf3 rfl rfl rfl reads_ro hzx11 (map_lt hlx11)) ?_
   refine oy rfl rfl (y_load_elem (i := s_5.toNat) 0 Try.isAgg3 rfl rfl reads_ro (map_get hxx11)) ?_
   refine oy rfl rfl (y_assign rfl) ?_
   refine ops_nil ?_
   refine goes_code ?_
   refine run_seq ?_
   refine run_region' ?_
   refine oy rfl rfl (y_move rfl) ?_
   refine oy rfl rfl (y_move rfl) ?_
   refine oy rfl rfl (y_neq rfl rfl) ?_
   refine ops_nil ?_
   refine goes_code ?_
   refine run_cond (decide (x11 ≠ 0)) rfl (fun hc12 => ?_) (fun hc12 => ?_)
   ·replace h := cond_t h hc12
    refine run_seq ?_
    refine run_region' ?_
    refine oy rfl rfl (y_move rfl) ?_
    refine oy rfl rfl (y_assign rfl) ?_
    refine ops_nil ?_
    refine goes_code ?_
    refine run_ret ?_
    obtain rfl := some_eq h
    obtain rfl := hstop8 _ rfl
    skip
    obtain rfl := after_stop ho2
    refine fin_slots [2] [.int .i64 x11] [] [] Try.results65 rfl (by decide) rfl ?_
    exact ⟨rfl, rfl⟩
   ·replace h := cond_f h hc12
    refine run_skip ?_
    refine goes_blk ?_
    refine goes_code ?_
    refine run_region' ?_
    refine oy rfl rfl (y_add rfl rfl) ?_
    refine oy rfl rfl (y_move rfl) ?_
    refine ops_nil ?_
    obtain rfl := some_eq h
    exact goes_iter hgo7 (IntKind.i64.wrap (s_5 + 1)) () [0] rfl (qv4 rfl rfl rfl rfl) (by decide) rfl
  ·replace h := cond_f h hc10
   refine run_exit _ rfl ?_
   obtain rfl := some_eq h
   obtain rfl := hstop8 _ rfl
   exact goes_cut hL3 ((), ()) [] (qv1 rfl) (by decide) rfl rfl
 rintro ⟨_, _⟩ hj
 obtain rfl : o1 = _ := hj
 replace h := after_go ho2
 clear ho2
 change Run _ _ _ (VF.of [(3, .int .i64 0)]) []
 refine run_seq ?_
 refine run_region' ?_
 refine oy rfl rfl (y_move rfl) ?_
 refine oy rfl rfl (y_assign rfl) ?_
 refine ops_nil ?_
 refine goes_code ?_
 refine run_ret ?_
 obtain rfl := some_eq h
 refine fin_slots [2] [.int .i64 0] [] [] Try.results65 rfl (by decide) rfl ?_
 exact ⟨rfl, rfl⟩

def weirgate_graph_reached_less_49 (n : Nat) (a_0 : S_graph_reached) (b_1 : S_graph_reached) : Option (Bool) :=
 bindJ (S := Bool)
  (cond (!b_1.is_)
   (some (.go true))
   (obind (cmp_Compare_int_66 a_0.sum_ b_1.sum_) fun r9 =>
   obind (cmp_Compare_int_66 a_0.arcs_ b_1.arcs_) fun r11 =>
   obind (cmp_Or_int_65 n ([r9, r11] : List Int)) fun r14 =>
   some (.go (decide (r14 < 0)))))
 (fun b3 =>
  some b3)
theorem weirgate_graph_reached_less_49_ok (n : Nat) (a_0 : S_graph_reached) (b_1 : S_graph_reached)  {r : Bool} (h : weirgate_graph_reached_less_49 n a_0 b_1 = some r) :
  Meets Try.prog 49 [.agg #[.bool a_0.is_, .int .i64 a_0.sum_, .int .i64 a_0.arcs_], .agg #[.bool b_1.is_, .int .i64 b_1.sum_, .int .i64 b_1.arcs_]] [] (fun v G => v = .bool r ∧ G = []) := by
 refine fn_of_run Try.func49 rfl Try.ntmps49 rfl (fun w0 o0 => ?_)
 refine run_seq ?_
 refine run_region' ?_
 refine ot rfl rfl (t_box rfl) ?_
 rintro _ _ ⟨b1, rfl, rfl⟩
 refine ot rfl rfl (t_box rfl) ?_
 rintro _ _ ⟨b2, rfl, rfl⟩
 refine oy rfl rfl (y_assign rfl) ?_
 refine ops_nil ?_
 refine goes_code ?_
 refine run_seq ?_
 refine run_drawany [box b1 [.bool a_0.is_, .int .i64 a_0.sum_, .int .i64 a_0.arcs_], box b2 [.bool b_1.is_, .int .i64 b_1.sum_, .int .i64 b_1.arcs_]] (by kernel_rfl) ?_
 refine any_y 0 rfl (by kernel_rfl) (by kernel_rfl) (by kernel_rfl) (ss (ss (sn))) (wn rfl) rfl (y_fieldAddr_box (sz := 0) Try.runUnderlying89 rfl Try.sizeOf4 rfl) ?_
 refine any_y 1 rfl (by kernel_rfl) (by kernel_rfl) (by kernel_rfl) (ss (ss (sn))) (wn rfl) rfl (y_load_box 1 Try.isAgg4 rfl rfl rfl) ?_
 refine any_y 2 rfl (by kernel_rfl) (by kernel_rfl) (by kernel_rfl) (ss (ss (sn))) (wn rfl) rfl (y_not rfl) ?_
 refine any_y 3 rfl (by kernel_rfl) (by kernel_rfl) (by kernel_rfl) (ss (ss (sn))) (wn rfl) rfl (y_move rfl) ?_
 obtain ⟨o4, h, ho5⟩ := bindJ_some h
 refine any_cut #[true, true, true, true, true, true, true, true, true, true, true, true, true, true, true, true, true, true, false] 1 Bool (fun σ => [(22, .bool σ)]) (fun σ => [box b1 [.bool a_0.is_, .int .i64 a_0.sum_, .int .i64 a_0.arcs_], box b2 [.bool b_1.is_, .int .i64 b_1.sum_, .int .i64 b_1.arcs_]]) (fun σ => o4 = .go σ) (fun hL7 => ?_) ?_
 ·refine any_split 8 (!b_1.is_) rfl (fun hg8 => ?_) (fun hg8 => ?_)
  ·replace h := cond_t h hg8
   refine any_no 4 rfl (by kernel_rfl) (by kernel_rfl) (by kernel_rfl) (ss (ss (sn))) 3 false 8 rfl rfl rfl rfl rfl ?_
   refine any_no 5 rfl (by kernel_rfl) (by kernel_rfl) (by kernel_rfl) (ss (ss (sn))) 3 false 8 rfl rfl rfl rfl rfl ?_
   refine any_no 6 rfl (by kernel_rfl) (by kernel_rfl) (by kernel_rfl) (ss (ss (sn))) 3 false 8 rfl rfl rfl rfl rfl ?_
   refine any_no 7 rfl (by kernel_rfl) (by kernel_rfl) (by kernel_rfl) (ss (ss (sn))) 3 false 8 rfl rfl rfl rfl rfl ?_
   refine any_no 9 rfl (by kernel_rfl) (by kernel_rfl) (by kernel_rfl) (ss (ss (sn))) 3 false 8 rfl rfl rfl rfl rfl ?_
   refine any_no 10 rfl (by kernel_rfl) (by kernel_rfl) (by kernel_rfl) (ss (ss (sn))) 3 false 8 rfl rfl rfl rfl rfl ?_
   refine any_no 11 rfl (by kernel_rfl) (by kernel_rfl) (by kernel_rfl) (ss (ss (sn))) 3 false 8 rfl rfl rfl rfl rfl ?_
   refine any_no 12 rfl (by kernel_rfl) (by kernel_rfl) (by kernel_rfl) (ss (ss (sn))) 3 false 8 rfl rfl rfl rfl rfl ?_
   refine any_no 8 rfl (by kernel_rfl) (by kernel_rfl) (by kernel_rfl) (ss (ss (sn))) 3 false 8 rfl rfl rfl rfl rfl ?_
   refine any_no 13 rfl (by kernel_rfl) (by kernel_rfl) (by kernel_rfl) (ss (ss (sn))) 3 false 8 rfl rfl rfl rfl rfl ?_
   refine any_no 14 rfl (by kernel_rfl) (by kernel_rfl) (by kernel_rfl) (ss (ss (sn))) 3 false 8 rfl rfl rfl rfl rfl ?_
   refine any_no 15 rfl (by kernel_rfl) (by kernel_rfl) (by kernel_rfl) (ss (ss (sn))) 3 false 8 rfl rfl rfl rfl rfl ?_
   refine any_no 16 rfl (by kernel_rfl) (by kernel_rfl) (by kernel_rfl) (ss (ss (sn))) 3 false 8 rfl rfl rfl rfl rfl ?_
   refine any_y 17 rfl (by kernel_rfl) (by kernel_rfl) (by kernel_rfl) (ss (ss (sn))) (wn rfl) rfl (y_pick (b := true) rfl rfl) ?_
   obtain rfl := some_eq h
   exact any_weak [(22, .bool true)] [0, 1] [box b1 [.bool a_0.is_, .int .i64 a_0.sum_, .int .i64 a_0.arcs_], box b2 [.bool b_1.is_, .int .i64 b_1.sum_, .int .i64 b_1.arcs_]] (by kernel_rfl) (qv1 rfl) (by decide) rfl (hL7 true rfl)
  ·replace h := cond_f h hg8
   refine any_y 4 rfl (by kernel_rfl) (by kernel_rfl) (by kernel_rfl) (ss (ss (sn))) (wg 3 false 8 rfl rfl rfl rfl) rfl (y_fieldAddr_box (sz := 0) Try.runUnderlying89 rfl Try.sizeOf3 rfl) ?_
   refine any_y 5 rfl (by kernel_rfl) (by kernel_rfl) (by kernel_rfl) (ss (ss (sn))) (wg 3 false 8 rfl rfl rfl rfl) rfl (y_load_box 0 Try.isAgg3 rfl rfl rfl) ?_
   refine any_y 6 rfl (by kernel_rfl) (by kernel_rfl) (by kernel_rfl) (ss (ss (sn))) (wg 3 false 8 rfl rfl rfl rfl) rfl (y_fieldAddr_box (sz := 0) Try.runUnderlying89 rfl Try.sizeOf3 rfl) ?_
   refine any_y 7 rfl (by kernel_rfl) (by kernel_rfl) (by kernel_rfl) (ss (ss (sn))) (wg 3 false 8 rfl rfl rfl rfl) rfl (y_load_box 1 Try.isAgg3 rfl rfl rfl) ?_
   refine any_y 9 rfl (by kernel_rfl) (by kernel_rfl) (by kernel_rfl) (ss (ss (sn))) (wg 3 false 8 rfl rfl rfl rfl) rfl (y_fieldAddr_box (sz := 0) Try.runUnderlying89 rfl Try.sizeOf3 rfl) ?_
   refine any_y 10 rfl (by kernel_rfl) (by kernel_rfl) (by kernel_rfl) (ss (ss (sn))) (wg 3 false 8 rfl rfl rfl rfl) rfl (y_load_box 0 Try.isAgg3 rfl rfl rfl) ?_
   refine any_y 11 rfl (by kernel_rfl) (by kernel_rfl) (by kernel_rfl) (ss (ss (sn))) (wg 3 false 8 rfl rfl rfl rfl) rfl (y_fieldAddr_box (sz := 0) Try.runUnderlying89 rfl Try.sizeOf3 rfl) ?_
   refine any_y 12 rfl (by kernel_rfl) (by kernel_rfl) (by kernel_rfl) (ss (ss (sn))) (wg 3 false 8 rfl rfl rfl rfl) rfl (y_load_box 1 Try.isAgg3 rfl rfl rfl) ?_
   refine any_all [8] (by kernel_rfl) rfl (anyo_cons ?_ anyo_nil)
   obtain ⟨r9, hr10, h⟩ := obind_some h
   refine any_t rfl (wg 3 false 8 rfl rfl rfl rfl) rfl (t_callx (vs := [.int .i64 a_0.sum_, .int .i64 b_1.sum_]) (cs := []) [] rfl Try.call66 rfl (cmp_Compare_int_66_ok a_0.sum_ b_1.sum_  hr10) showsX_nil rfl (.inl rfl)) ?_
   rintro _ _ ⟨_, ⟨rfl, rfl⟩, rfl⟩
   refine ⟨(ss (ss (sn))), ?_⟩
   refine any_all [13] (by kernel_rfl) rfl (anyo_cons ?_ anyo_nil)
   obtain ⟨r11, hr12, h⟩ := obind_some h
   refine any_t rfl (wg 3 false 8 rfl rfl rfl rfl) rfl (t_callx (vs := [.int .i64 a_0.arcs_, .int .i64 b_1.arcs_]) (cs := []) [] rfl Try.call66 rfl (cmp_Compare_int_66_ok a_0.arcs_ b_1.arcs_  hr12) showsX_nil rfl (.inl rfl)) ?_
   rintro _ _ ⟨_, ⟨rfl, rfl⟩, rfl⟩
   refine ⟨(ss (ss (sn))), ?_⟩
   refine any_all [14] (by kernel_rfl) rfl (anyo_cons ?_ anyo_nil)
   refine any_t rfl (wg 3 false 8 rfl rfl rfl rfl) rfl (t_lit [.int .i64 r9, .int .i64 r11] Try.runUnderlying34 Try.sizeOf3 Try.zeroValue3 rfl (by decide) (by decide) rfl (by simp [Value.cells, boxP])) ?_
   rintro v13 _ ⟨rfl, _⟩
   refine ⟨(ss (ss (sn))), ?_⟩
   refine any_turn (retell 2 (g := row v13 1 (([r9, r11] : List Int).map (eInt .i64))) rfl rfl) ?_
   refine any_all [15] (by kernel_rfl) rfl (anyo_cons ?_ anyo_nil)
   obtain ⟨r14, hr15, h⟩ := obind_some h
   refine any_t rfl (wg 3 false 8 rfl rfl rfl rfl) rfl (t_callx (vs := [v13]) (cs := []) [(2, 1)] rfl Try.call65 rfl (cmp_Or_int_65_ok n ([r9, r11] : List Int) v13 hr15) (showsX_look 2 rfl views_row showsX_nil) rfl (.inr (by rintro _ _ ⟨rfl, rfl⟩ g hg; first | (cases hg; done) | (simp only [List.mem_cons, List.not_mem_nil, or_false] at hg; first | (subst hg; first | exact strict_row | exact strict_box) | (rcases hg with rfl | rfl <;> first | exact strict_row | exact strict_box) | (rcases hg with rfl | rfl | rfl <;> first | exact strict_row | exact strict_box))))) ?_
   rintro _ _ ⟨_, ⟨rfl, rfl⟩, rfl⟩
   refine ⟨(ss (ss (sn))), ?_⟩
   refine any_y 16 rfl (by kernel_rfl) (by kernel_rfl) (by kernel_rfl) (ss (ss (sn))) (wg 3 false 8 rfl rfl rfl rfl) rfl (y_lss rfl rfl) ?_
   refine any_y 17 rfl (by kernel_rfl) (by kernel_rfl) (by kernel_rfl) (ss (ss (sn))) (wn rfl) rfl (y_pick (b := false) rfl rfl) ?_
   obtain rfl := some_eq h
   exact any_weak [(22, .bool (decide (r14 < 0)))] [0, 1] [box b1 [.bool a_0.is_, .int .i64 a_0.sum_, .int .i64 a_0.arcs_], box b2 [.bool b_1.is_, .int .i64 b_1.sum_, .int .i64 b_1.arcs_]] (by kernel_rfl) (qv1 rfl) (by decide) rfl (hL7 (decide (r14 < 0)) rfl)
 rintro b3 hj
 obtain rfl : o4 = _ := hj
 replace h := after_go ho5
 clear ho5
 refine any_y 18 rfl (by kernel_rfl) (by kernel_rfl) (by kernel_rfl) (ss (ss (sn))) (wn rfl) rfl (y_assign rfl) ?_
 refine any_nil (by kernel_rfl) ?_
 refine goes_code ?_
 refine run_ret ?_
 obtain rfl := some_eq h
 refine fin_slots [4] [.bool b3] [] [] Try.results49 rfl (by decide) rfl ?_
 exact ⟨rfl, rfl⟩

end Go.Proofs.Ytgelifcckhemiaa
