/-
  Functions of the program, lifted: part 3.
-/
import Derived.Test.YtgelifcckhemiaaFb
namespace Go.Proofs.Ytgelifcckhemiaa
open Go.Abs
set_option linter.unusedVariables false
set_option linter.unusedSimpArgs false
set_option maxRecDepth 20000
set_option maxHeartbeats 4000000

def graph_Paths_L2 (n : Nat) (n_0 : S_api_Net) : (Int × Int × (List S_graph_reached) × (List Int)) → Option (Lp (Int × Int × (List S_graph_reached) × (List Int)) (Lp (Int × (List S_graph_reached) × (List Int)) (Lp (Int × (List S_graph_reached) × (List Int)) (Lp ((List S_graph_reached)) (S_api_Routes × Int))))) :=
 fun (last_55, s_56, x_57, x_58) =>
  cond (decide (s_56 < (n_0.Arcs.length : Int)))
   (bindJ (S := Int × (List S_graph_reached) × (List Int))
    (idx n_0.Arcs s_56 fun x71 =>
    idx x_57 x71.From fun x73 =>
    cond x73.is_
     (idx x_57 x71.To fun x77 =>
     obind (weirgate_graph_reached_less_49 n (S_graph_reached.mk true (IntKind.i64.wrap (x73.sum_ + x71.Cost)) (IntKind.i64.wrap (x73.arcs_ + 1))) x77) fun r78 =>
     cond r78
      (idx x_58 x71.To fun x81 =>
      some (.go (x71.To, (x_57.set ((x71.To).toNat) (S_graph_reached.mk true (IntKind.i64.wrap (x73.sum_ + x71.Cost)) (IntKind.i64.wrap (x73.arcs_ + 1)))), (x_58.set ((x71.To).toNat) s_56))))
      (some (.go (last_55, x_57, x_58))))
     (some (.go (last_55, x_57, x_58))))
   (fun (last_64, x_65, x_66) =>
    some (.go (last_64, (IntKind.i64.wrap (s_56 + 1)), x_65, x_66))))
   (some (.stop (.go (last_55, x_57, x_58))))
def graph_Paths_L1 (n : Nat) (n_0 : S_api_Net) : (Int × (List S_graph_reached) × (List Int)) → Option (Lp (Int × (List S_graph_reached) × (List Int)) (Lp ((List S_graph_reached)) (S_api_Routes × Int))) :=
 fun (k_41, x_42, x_43) =>
  bindJ (S := Int × (List S_graph_reached) × (List Int))
   (iter (graph_Paths_L2 n n_0) n ((-1), 0, x_42, x_43))
  (fun (last_48, x_49, x_50) =>
   cond (decide (last_48 < 0))
    (some (.stop (.go x_49)))
    (cond (decide (n_0.Nodes ≤ k_41))
     (obind (graph_around n n_0 x_50 last_48) fun r84 =>
     some (.stop (.stop ((S_api_Routes.mk ([] : List Int) ([] : List Int) r84), 0))))
     (some (.go ((IntKind.i64.wrap (k_41 + 1)), x_49, x_50)))))
def graph_Paths_R4 (n_0 : S_api_Net) (x_36 : (List S_graph_reached)) (s_98 : Int) (x116 : S_graph_reached) : ((List Int)) → (Int × Int) → Option (((List Int)) × Option Nat) :=
 fun x_155 (x153, x154) =>
  idx x_36 x154 fun x158 =>
  bindJ (S := Bool)
   (cond (x158.is_ && decide ((IntKind.i64.wrap (x158.arcs_ + 1)) = x116.arcs_))
    (idx n_0.Arcs x153 fun x169 =>
    some (.go (decide ((IntKind.i64.wrap (x158.sum_ + x169.Cost)) = x116.sum_))))
    (some (.go false)))
  (fun b163 =>
   cond b163
    (idx x_155 s_98 fun x171 =>
    some ((x_155.set s_98.toNat x153), some 0))
    (some (x_155, none)))
def graph_Paths_L3 (n : Nat) (n_0 : S_api_Net) (from_1 : Int) (x_36 : (List S_graph_reached)) : (Int × (List Int) × (List Int)) → Option (Lp (Int × (List Int) × (List Int)) (Lp ((List Int) × (List Int)) (S_api_Routes × Int))) :=
 fun (s_98, x_99, x_100) =>
  cond (decide (s_98 < (x_36.length : Int)))
   (bindJ (S := (List Int) × (List Int))
    (idx x_36 s_98 fun x116 =>
    need (x_99.length + ([x116.sum_] : List Int).length ≤ 4294967296) (
    need (x_100.length + ([(-1)] : List Int).length ≤ 4294967296) (
    cond (decide (s_98 = from_1) || (!x116.is_))
     (some (.go ((x_99 ++ ([x116.sum_] : List Int)), (x_100 ++ ([(-1)] : List Int)))))
     (obind (graph_arcs n_0 s_98 true) fun r148 =>
     obind (graph_arcs_1_61 n (yieldOf (graph_Paths_R4 n_0 x_36 s_98 x116)) ((x_100 ++ ([(-1)] : List Int)), none) n_0 true s_98) fun r156 =>
     onJump r156.2 (
      some (.go ((x_99 ++ ([x116.sum_] : List Int)), r156.1))) [(
      some (.go ((x_99 ++ ([x116.sum_] : List Int)), r156.1)))]))))
   (fun (x_108, x_109) =>
    some (.go ((IntKind.i64.wrap (s_98 + 1)), x_108, x_109))))
   (some (.stop (.go (x_99, x_100))))
def graph_Paths (n : Nat) (n_0 : S_api_Net) (from_1 : Int) : Option (S_api_Routes × Int) :=
 obind (graph_Valid n n_0) fun r3 =>
 bindJ (S := Bool)
  (cond (!r3)
   (some (.go true))
   (obind (graph_isNode n_0 from_1) fun r11 =>
   some (.go (!r11))))
 (fun b5 =>
  cond b5
   (some ((S_api_Routes.mk ([] : List Int) ([] : List Int) ([] : List Int)), 1))
   (need (0 ≤ n_0.Nodes ∧ n_0.Nodes ≤ 4294967296) (
   obind (slices_Repeat_int_int_48 n ([(-1)] : List Int) n_0.Nodes) fun r17 =>
   idx (List.replicate (n_0.Nodes).toNat ((S_graph_reached.mk false 0 0) : S_graph_reached)) from_1 fun x35 =>
   bindJ (S := (List S_graph_reached))
    (iter (graph_Paths_L1 n n_0) n (0, ((List.replicate (n_0.Nodes).toNat ((S_graph_reached.mk false 0 0) : S_graph_reached)).set from_1.toNat (S_graph_reached.mk true x35.sum_ x35.arcs_)), r17))
   (fun x_36 =>
    bindJ (S := (List Int) × (List Int))
     (iter (graph_Paths_L3 n n_0 from_1 x_36) n (0, ([] : List Int), ([] : List Int)))
    (fun (x_90, x_91) =>
     some ((S_api_Routes.mk x_90 x_91 ([] : List Int)), 0))))))
theorem graph_Paths_ok (n : Nat) (n_0 : S_api_Net) (from_1 : Int) (n_0_Arcsv : Value) {r : S_api_Routes × Int} (h : graph_Paths n n_0 from_1 = some r) :
  Meets Try.prog 22 [.agg #[.int .i64 n_0.Nodes, n_0_Arcsv], .int .i64 from_1] [ro n_0_Arcsv 4 (n_0.Arcs.map S_api_Arc.enc)] (fun v G => ∃ v0 v1 v2, v = .tuple #[.agg #[v0, v1, v2], .int .i64 r.2] ∧ G = [row v0 1 (r.1.Dist.map (eInt .i64)), row v1 1 (r.1.Via.map (eInt .i64)), row v2 1 (r.1.Cycle.map (eInt .i64))]) := by
 refine fn_of_run Try.func22 rfl Try.ntmps22 rfl (fun w0 o0 => ?_)
 refine run_seq ?_
 refine run_region' ?_
 refine ot rfl rfl (t_box rfl) ?_
 rintro _ _ ⟨b1, rfl, rfl⟩
 refine ot rfl rfl (t_alloc Try.zeroValue51) ?_
 rintro _ _ ⟨b2, rfl, rfl⟩
 refine oy rfl rfl (y_assign rfl) ?_
 refine ops_nil ?_
 refine goes_code ?_
 refine run_scope ?_
 refine run_seq ?_
 refine run_seq ?_
 refine run_region' ?_
 refine oy rfl rfl (y_load_boxagg (c := [.int .i64 n_0.Nodes, n_0_Arcsv]) 1 Try.isAgg24 Try.sizeOf24 rfl rfl rfl) ?_
 obtain ⟨r3, hr4, h⟩ := obind_some h
 refine ot rfl rfl (t_callx (vs := [.agg #[.int .i64 n_0.Nodes, n_0_Arcsv]]) (cs := []) [(0, 0)] rfl Try.call17 rfl (graph_Valid_ok n n_0 n_0_Arcsv hr4) (showsX_view 0 rfl views_ro showsX_nil) rfl (.inl rfl)) ?_
 rintro _ _ ⟨_, ⟨rfl, rfl⟩, rfl⟩
 refine oy rfl rfl (y_not rfl) ?_
 refine oy rfl rfl (y_move rfl) ?_
 obtain ⟨o6, h, ho7⟩ := bindJ_some h
 refine ops_cut 5 (Bool) (fun σ => [(1, .int .i64 from_1), (2, boxP b1 0), (4, boxP b2 0), (28, .bool σ)]) (fun σ => [ro n_0_Arcsv 4 (n_0.Arcs.map S_api_Arc.enc), box b1 [.int .i64 n_0.Nodes, n_0_Arcsv], box b2 [.slice none 0 0, .slice none 0 0, .slice none 0 0]]) (fun σ => o6 = .go σ) (fun L8 hL9 => ?_) ?_
 ·refine ops_split 23 (!r3) rfl (fun hg10 => ?_) (fun hg10 => ?_)
  ·replace h := cond_t h hg10
   refine ops_no 3 false 23 rfl rfl rfl rfl rfl ?_
   refine ops_no 3 false 23 rfl rfl rfl rfl rfl ?_
   refine ops_no 3 false 23 rfl rfl rfl rfl rfl ?_
   refine ops_no 3 false 23 rfl rfl rfl rfl rfl ?_
   refine oy rfl rfl (y_pick (b := true) rfl rfl) ?_
   refine ops_nil ?_
   obtain rfl := some_eq h
   exact goes_cut hL9 true [0, 1, 2] (qv4 rfl rfl rfl rfl) (by decide) rfl rfl
  ·replace h := cond_f h hg10
   refine ops_y (wg 3 false 23 rfl rfl rfl rfl) rfl (y_load_boxagg (c := [.int .i64 n_0.Nodes, n_0_Arcsv]) 1 Try.isAgg24 Try.sizeOf24 rfl rfl rfl) ?_
   refine ops_y (wg 3 false 23 rfl rfl rfl rfl) rfl (y_move rfl) ?_
   obtain ⟨r11, hr12, h⟩ := obind_some h
   refine ops_t (wg 3 false 23 rfl rfl rfl rfl) rfl (t_callx (vs := [.agg #[.int .i64 n_0.Nodes, n_0_Arcsv], .int .i64 from_1]) (cs := []) [(0, 0)] rfl Try.call34 rfl (graph_isNode_ok n_0 from_1 n_0_Arcsv hr12) (showsX_view 0 rfl views_ro showsX_nil) rfl (.inl rfl)) ?_
   rintro _ _ ⟨_, ⟨rfl, rfl⟩, rfl⟩
   refine ops_y (wg 3 false 23 rfl rfl rfl rfl) rfl (y_not rfl) ?_
   refine oy rfl rfl (y_pick (b := false) rfl rfl) ?_
   refine ops_nil ?_
   obtain rfl := some_eq h
   exact goes_cut hL9 (!r11) [0, 1, 2] (qv4 rfl rfl rfl rfl) (by decide) rfl rfl
 rintro b5 hj
 obtain rfl : o6 = _ := hj
 replace h := after_go ho7
 clear ho7
 refine ops_nil ?_
 refine goes_code ?_
 refine run_cond b5 rfl (fun hc13 => ?_) (fun hc13 => ?_)
 ·replace h := cond_t h hc13
  refine run_seq ?_
  refine run_region' ?_
  refine oy rfl rfl (y_build_struct (cells := #[.slice none 0 0, .slice none 0 0, .slice none 0 0]) [] [] Try.zeroValue51 Try.runUnderlying51 (fs_cons Try.sizeOf34 (fs_cons Try.sizeOf34 (fs_cons Try.sizeOf34 fs_nil))) rfl rfl rfl) ?_
  refine ot rfl rfl (t_store 2 Try.sizeOf51 rfl rfl rfl rfl (by simp [Value.cells, boxP]) (by simp [Value.cells, Value.oneCell', boxP])) ?_
  rintro _ _ ⟨rfl, rfl⟩
  refine ops_turn (retell 2 (g := box b2 [.slice none 0 0, .slice none 0 0, .slice none 0 0]) rfl rfl) ?_
  refine oy rfl rfl (y_assign rfl) ?_
  refine ops_nil ?_
  refine goes_code ?_
  refine run_ret ?_
  refine fin_turn (nilrow 1) ?_
  refine fin_turn (retell 3 (g := row (.slice none 0 0) 1 (([] : List Int).map (eInt .i64))) rfl rfl) ?_
  refine fin_turn (nilrow 1) ?_
  refine fin_turn (retell 4 (g := row (.slice none 0 0) 1 (([] : List Int).map (eInt .i64))) rfl rfl) ?_
  refine fin_turn (nilrow 1) ?_
  refine fin_turn (retell 5 (g := row (.slice none 0 0) 1 (([] : List Int).map (eInt .i64))) rfl rfl) ?_
  obtain rfl := some_eq h
  refine fin_res [.cell 4 51, .tmp 5] [.agg #[(.slice none 0 0), (.slice none 0 0), (.slice none 0 0)], .int .i64 1] [3, 4, 5] [row (.slice none 0 0) 1 (([] : List Int).map (eInt .i64)), row (.slice none 0 0) 1 (([] : List Int).map (eInt .i64)), row (.slice none 0 0) 1 (([] : List Int).map (eInt .i64))] Try.results22 rfl (rescons (res_box 2 Try.isAgg51 Try.sizeOf51 rfl rfl rfl) (rescons (res_tmp rfl) resnil)) (by decide) rfl ?_
  exact ⟨_, _, _, rfl, rfl⟩
 ·replace h := cond_f h hc13
  refine run_skip ?_
  refine goes_code ?_
  refine run_seq ?_
  obtain ⟨hm15, h⟩ := need_some h
  obtain ⟨r17, hr18, h⟩ := obind_some h
  refine run_drawany [ro n_0_Arcsv 4 (n_0.Arcs.map S_api_Arc.enc), box b1 [.int .i64 n_0.Nodes, n_0_Arcsv], box b2 [.slice none 0 0, .slice none 0 0, .slice none 0 0]] (by kernel_rfl) ?_
  refine any_y 0 rfl (by kernel_rfl) (by kernel_rfl) (by kernel_rfl) (ss (ss (ss (sn)))) (wn rfl) rfl (y_fieldAddr_box (sz := 0) Try.runUnderlying24 rfl Try.sizeOf3 rfl) ?_
  refine any_y 1 rfl (by kernel_rfl) (by kernel_rfl) (by kernel_rfl) (ss (ss (ss (sn)))) (wn rfl) rfl (y_load_box 1 Try.isAgg3 rfl rfl rfl) ?_
  refine any_y 4 rfl (by kernel_rfl) (by kernel_rfl) (by kernel_rfl) (ss (ss (ss (sn)))) (wn rfl) rfl (y_fieldAddr_box (sz := 0) Try.runUnderlying24 rfl Try.sizeOf3 rfl) ?_
  refine any_y 5 rfl (by kernel_rfl) (by kernel_rfl) (by kernel_rfl) (ss (ss (ss (sn)))) (wn rfl) rfl (y_load_box 1 Try.isAgg3 rfl rfl rfl) ?_
  refine any_cut2 #[true, true, true, true, true, true, true, true, true, true] 0 (Nat × Value × Value × Value) (fun σ => [(1, .int .i64 from_1), (2, boxP b1 0), (4, boxP b2 0), (6, boxP σ.1 0), (7, σ.2.1)]) (fun σ => [ro n_0_Arcsv 4 (n_0.Arcs.map S_api_Arc.enc), box b1 [.int .i64 n_0.Nodes, n_0_Arcsv], box b2 [.slice none 0 0, .slice none 0 0, .slice none 0 0], row σ.2.2.1 3 ((List.replicate (n_0.Nodes).toNat ((S_graph_reached.mk false 0 0) : S_graph_reached)).map S_graph_reached.enc), row σ.2.2.2 1 (([(-1)] : List Int).map (eInt .i64)), row σ.2.1 1 (r17.map (eInt .i64)), box σ.1 [σ.2.2.1]]) ?_ (fun hK34 => ?_)
  ·rintro ⟨b32, v29, v22, v25⟩
   change AnyL _ _ _ _ _ (VF.of [(1, .int .i64 from_1), (2, boxP b1 0), (4, boxP b2 0), (6, boxP b32 0), (7, v29)]) [ro n_0_Arcsv 4 (n_0.Arcs.map S_api_Arc.enc), box b1 [.int .i64 n_0.Nodes, n_0_Arcsv], box b2 [.slice none 0 0, .slice none 0 0, .slice none 0 0], row v22 3 ((List.replicate (n_0.Nodes).toNat ((S_graph_reached.mk false 0 0) : S_graph_reached)).map S_graph_reached.enc), row v25 1 (([(-1)] : List Int).map (eInt .i64)), row v29 1 (r17.map (eInt .i64)), box b32 [v22]] _
   refine any_nil (by kernel_rfl) ?_
   refine goes_code ?_
   refine run_seq ?_
   refine run_region' ?_
   refine oy rfl rfl (y_load_box 6 Try.isAgg86 rfl rfl rfl) ?_
   refine oy rfl rfl (y_move rfl) ?_
   obtain ⟨x35, hzx35, hlx35, hxx35, h⟩ := idx_some h
   refine oy rfl rfl (y_indexAddrI (kd := .i64) (i := from_1) 3 Try.runUnderlying86 Try.sizeOf89 rfl rfl rfl reads_row hzx35 (map_lt hlx35)) ?_
   refine oy rfl rfl (y_fieldAddr_elem (sz := 0) Try.runUnderlying89 rfl Try.sizeOf4 rfl) ?_
   refine ot rfl rfl (t_store_row (i := from_1.toNat) (j := 0) (c := S_graph_reached.enc x35) 3 Try.sizeOf4 rfl rfl rfl rfl (map_get hxx35) (by decide) (by simp [Value.cells, Value.oneCell', boxP])) ?_
   rintro _ _ ⟨rfl, rfl⟩
   refine ops_turn (retell 3 (g := row v22 3 (((List.replicate (n_0.Nodes).toNat ((S_graph_reached.mk false 0 0) : S_graph_reached)).set from_1.toNat (S_graph_reached.mk true x35.sum_ x35.arcs_)).map S_graph_reached.enc)) rfl (congrArg (row _ _) (map_set_at rfl))) ?_
   refine ops_nil ?_
   refine goes_code ?_
   refine run_seq ?_
   refine run_region' ?_
   refine oy rfl rfl (y_assign rfl) ?_
   refine ops_nil ?_
   refine goes_code ?_
   refine run_seq ?_
   refine run_label ?_
   refine goes_code ?_
   obtain ⟨o37, h, ho38⟩ := bindJ_some h
   refine run_cut (((List S_graph_reached)) × (Unit)) (fun σ => [(1, .int .i64 from_1), (2, boxP b1 0), (4, boxP b2 0), (6, boxP b32 0)]) (fun σ => [box b1 [.int .i64 n_0.Nodes, n_0_Arcsv], ro n_0_Arcsv 4 (n_0.Arcs.map S_api_Arc.enc), box b2 [.slice none 0 0, .slice none 0 0, .slice none 0 0], box b32 [v22], row v22 3 (σ.1.map S_graph_reached.enc)]) (fun σ => o37 = .go σ.1) (fun L40 hL39 => ?_) ?_
   ·
    refine run_seq ?_
    refine run_region' ?_
    refine oy rfl rfl (y_assign rfl) ?_
    refine ops_nil ?_
    refine goes_code ?_
    refine run_block ?_
    refine run_iter (step := graph_Paths_L1 n n_0) (n := n) (s0 := (0, ((List.replicate (n_0.Nodes).toNat ((S_graph_reached.mk false 0 0) : S_graph_reached)).set from_1.toNat (S_graph_reached.mk true x35.sum_ x35.arcs_)), r17)) h (G := Unit) () (fun σ γ => [(1, .int .i64 from_1), (2, boxP b1 0), (4, boxP b2 0), (6, boxP b32 0), (7, v29), (9, .int .i64 σ.1)]) (fun σ γ => [box b1 [.int .i64 n_0.Nodes, n_0_Arcsv], ro n_0_Arcsv 4 (n_0.Arcs.map S_api_Arc.enc), box b2 [.slice none 0 0, .slice none 0 0, .slice none 0 0], box b32 [v22], row v22 3 (σ.2.1.map S_graph_reached.enc), row v29 1 (σ.2.2.map (eInt .i64))]) [1, 0, 2, 6, 3, 5] (qv6 rfl rfl rfl rfl rfl rfl) (by decide) rfl ?_
    rintro ⟨k_41, x_42, x_43⟩ _ o44 h L47 hgo45 hstop46
    change Run _ _ _ (VF.of [(1, .int .i64 from_1), (2, boxP b1 0), (4, boxP b2 0), (6, boxP b32 0), (7, v29), (9, .int .i64 k_41)]) [box b1 [.int .i64 n_0.Nodes, n_0_Arcsv], ro n_0_Arcsv 4 (n_0.Arcs.map S_api_Arc.enc), box b2 [.slice none 0 0, .slice none 0 0, .slice none 0 0], box b32 [v22], row v22 3 (x_42.map S_graph_reached.enc), row v29 1 (x_43.map (eInt .i64))]
    refine run_seq ?_
    refine run_block ?_
    refine run_seq ?_
    refine run_region' ?_
    refine oy rfl rfl (y_assign rfl) ?_
    refine ops_nil ?_
    refine goes_code ?_
    obtain ⟨o51, h, ho52⟩ := bindJ_some h
    refine run_cut ((Int × (List S_graph_reached) × (List Int)) × (Unit)) (fun σ => [(1, .int .i64 from_1), (2, boxP b1 0), (4, boxP b2 0), (6, boxP b32 0), (7, v29), (8, .int .i64 σ.1.1), (9, .int .i64 k_41)]) (fun σ => [box b1 [.int .i64 n_0.Nodes, n_0_Arcsv], ro n_0_Arcsv 4 (n_0.Arcs.map S_api_Arc.enc), box b2 [.slice none 0 0, .slice none 0 0, .slice none 0 0], box b32 [v22], row v22 3 (σ.1.2.1.map S_graph_reached.enc), row v29 1 (σ.1.2.2.map (eInt .i64))]) (fun σ => o51 = .go σ.1) (fun L54 hL53 => ?_) ?_
    ·
     refine run_seq ?_
     refine run_region' ?_
     refine oy rfl rfl (y_fieldAddr_box (sz := 0) Try.runUnderlying24 rfl Try.sizeOf22 rfl) ?_
     refine oy rfl rfl (y_load_box 0 Try.isAgg22 rfl rfl rfl) ?_
     refine oy rfl rfl ((y_len 1 rfl Try.runUnderlying22 rfl rfl reads_ro).to (v_len S_api_Arc.enc _)) ?_
     refine oy rfl rfl (y_move rfl) ?_
     refine ops_nil ?_
     refine goes_code ?_
     refine run_block ?_
     refine run_iter (step := graph_Paths_L2 n n_0) (n := n) (s0 := ((-1), 0, x_42, x_43)) h (G := Unit) () (fun σ γ => [(1, .int .i64 from_1), (2, boxP b1 0), (4, boxP b2 0), (6, boxP b32 0), (7, v29), (8, .int .i64 σ.1), (9, .int .i64 k_41), (44, n_0_Arcsv), (45, .int .i64 (n_0.Arcs.length : Int)), (46, .int .i64 σ.2.1)]) (fun σ γ => [box b1 [.int .i64 n_0.Nodes, n_0_Arcsv], ro n_0_Arcsv 4 (n_0.Arcs.map S_api_Arc.enc), box b2 [.slice none 0 0, .slice none 0 0, .slice none 0 0], box b32 [v22], row v22 3 (σ.2.2.1.map S_graph_reached.enc), row v29 1 (σ.2.2.2.map (eInt .i64))]) [0, 1, 2, 3, 4, 5] (qv10 rfl rfl rfl rfl rfl rfl rfl rfl rfl rfl) (by decide) rfl ?_
     rintro ⟨last_55, s_56, x_57, x_58⟩ _ o59 h L62 hgo60 hstop61
     change Run _ _ _ (VF.of [(1, .int .i64 from_1), (2, boxP b1 0), (4, boxP b2 0), (6, boxP b32 0), (7, v29), (8, .int .i64 last_55), (9, .int .i64 k_41), (44, n_0_Arcsv), (45, .int .i64 (n_0.Arcs.length : Int)), (46, .int .i64 s_56)]) [box b1 [.int .i64 n_0.Nodes, n_0_Arcsv], ro n_0_Arcsv 4 (n_0.Arcs.map S_api_Arc.enc), box b2 [.slice none 0 0, .slice none 0 0, .slice none 0 0], box b32 [v22], row v22 3 (x_57.map S_graph_reached.enc), row v29 1 (x_58.map (eInt .i64))]
     refine run_seq ?_
     refine run_region' ?_
     refine oy rfl rfl (y_lss rfl rfl) ?_
     refine ops_nil ?_
     refine goes_code ?_
     refine run_seq ?_
     refine run_cond (decide (s_56 < (n_0.Arcs.length : Int))) rfl (fun hc63 => ?_) (fun hc63 => ?_)
     ·replace h := cond_t h hc63
      refine run_skip ?_
      refine goes_code ?_
      obtain ⟨o67, h, ho68⟩ := bindJ_some h
      refine run_cut ((Int × (List S_graph_reached) × (List Int)) × (Unit)) (fun σ => [(1, .int .i64 from_1), (2, boxP b1 0), (4, boxP b2 0), (6, boxP b32 0), (7, v29), (8, .int .i64 σ.1.1), (9, .int .i64 k_41), (44, n_0_Arcsv), (45, .int .i64 (n_0.Arcs.length : Int)), (46, .int .i64 s_56)]) (fun σ => [box b1 [.int .i64 n_0.Nodes, n_0_Arcsv], ro n_0_Arcsv 4 (n_0.Arcs.map S_api_Arc.enc), box b2 [.slice none 0 0, .slice none 0 0, .slice none 0 0], box b32 [v22], row v22 3 (σ.1.2.1.map S_graph_reached.enc), row v29 1 (σ.1.2.2.map (eInt .i64))]) (fun σ => o67 = .go σ.1) (fun L70 hL69 => ?_) ?_
      ·
       refine run_block ?_
       refine run_seq ?_
       refine run_region' ?_
       refine oy rfl rfl (y_move rfl) ?_
       obtain ⟨x71, hzx71, hlx71, hxx71, h⟩ := idx_some h
       refine oy rfl rfl (y_indexAddrI (kd := .i64) (i := s_56) 1 Try.runUnderlying22 Try.sizeOf67 rfl rfl rfl reads_ro hzx71 (map_lt hlx71)) ?_
       refine oy rfl rfl (y_load_agg (i := s_56.toNat) (c := [.int .i64 x71.From, .int .i64 x71.To, .int .i64 x71.Cap, .int .i64 x71.Cost]) 1 Try.isAgg67 Try.sizeOf67 rfl rfl reads_ro (map_get hxx71)) ?_
       refine ot rfl rfl (t_alloc Try.zeroValue67) ?_
       rintro _ _ ⟨b72, rfl, rfl⟩
       refine oy rfl rfl (y_assign rfl) ?_
       refine ot rfl rfl (t_store 6 Try.sizeOf67 rfl rfl rfl rfl (by simp [Value.cells, boxP]) (by simp [Value.cells, Value.oneCell', boxP])) ?_
       rintro _ _ ⟨rfl, rfl⟩
       refine ops_turn (retell 6 (g := box b72 [.int .i64 x71.From, .int .i64 x71.To, .int .i64 x71.Cap, .int .i64 x71.Cost]) rfl rfl) ?_
       refine ops_nil ?_
       refine goes_code ?_
       refine run_seq ?_
       refine run_region' ?_
       refine oy rfl rfl (y_load_box 3 Try.isAgg86 rfl rfl rfl) ?_
       refine oy rfl rfl (y_fieldAddr_box (sz := 0) Try.runUnderlying67 rfl Try.sizeOf3 rfl) ?_
       refine oy rfl rfl (y_load_box 6 Try.isAgg3 rfl rfl rfl) ?_
       obtain ⟨x73, hzx73, hlx73, hxx73, h⟩ := idx_some h
       refine oy rfl rfl (y_indexAddrI (kd := .i64) (i := x71.From) 4 Try.runUnderlying86 Try.sizeOf89 rfl rfl rfl reads_row hzx73 (map_lt hlx73)) ?_
       refine oy rfl rfl (y_load_agg (i := (x71.From).toNat) (c := [.bool x73.is_, .int .i64 x73.sum_, .int .i64 x73.arcs_]) 4 Try.isAgg89 Try.sizeOf89 rfl rfl reads_row (map_get hxx73)) ?_
       refine ot rfl rfl (t_alloc Try.zeroValue89) ?_
       rintro _ _ ⟨b74, rfl, rfl⟩
       refine ot rfl rfl (t_store 7 Try.sizeOf89 rfl rfl rfl rfl (by simp [Value.cells, boxP]) (by simp [Value.cells, Value.oneCell', boxP])) ?_
       rintro _ _ ⟨rfl, rfl⟩
       refine ops_turn (retell 7 (g := box b74 [.bool x73.is_, .int .i64 x73.sum_, .int .i64 x73.arcs_]) rfl rfl) ?_
       refine ops_nil ?_
       refine goes_code ?_
       refine run_seq ?_
       refine run_weak [(1, .int .i64 from_1), (2, boxP b1 0), (4, boxP b2 0), (6, boxP b32 0), (7, v29), (8, .int .i64 last_55), (9, .int .i64 k_41), (44, n_0_Arcsv), (45, .int .i64 (n_0.Arcs.length : Int)), (46, .int .i64 s_56), (11, boxP b72 0), (10, .int .i64 s_56), (12, boxP b74 0)] [0, 1, 2, 3, 4, 5, 6, 7] [box b1 [.int .i64 n_0.Nodes, n_0_Arcsv], ro n_0_Arcsv 4 (n_0.Arcs.map S_api_Arc.enc), box b2 [.slice none 0 0, .slice none 0 0, .slice none 0 0], box b32 [v22], row v22 3 (x_57.map S_graph_reached.enc), row v29 1 (x_58.map (eInt .i64)), box b72 [.int .i64 x71.From, .int .i64 x71.To, .int .i64 x71.Cap, .int .i64 x71.Cost], box b74 [.bool x73.is_, .int .i64 x73.sum_, .int .i64 x73.arcs_]] (qw6 rfl rfl rfl rfl rfl rfl (qv7 rfl rfl rfl rfl rfl rfl rfl)) (by decide) rfl ?_
       refine run_region' ?_
       refine oy rfl rfl (y_fieldAddr_box (sz := 0) Try.runUnderlying89 rfl Try.sizeOf4 rfl) ?_
       refine oy rfl rfl (y_load_box 7 Try.isAgg4 rfl rfl rfl) ?_
       refine ops_nil ?_
       refine goes_code ?_
       refine run_cond x73.is_ rfl (fun hc75 => ?_) (fun hc75 => ?_)
       ·replace h := cond_t h hc75
        refine run_seq ?_
        refine run_region' ?_
        refine oy rfl rfl (y_fieldAddr_box (sz := 0) Try.runUnderlying89 rfl Try.sizeOf3 rfl) ?_
        refine oy rfl rfl (y_load_box 7 Try.isAgg3 rfl rfl rfl) ?_
        refine oy rfl rfl (y_fieldAddr_box (sz := 0) Try.runUnderlying67 rfl Try.sizeOf3 rfl) ?_
        refine oy rfl rfl (y_load_box 6 Try.isAgg3 rfl rfl rfl) ?_
        refine oy rfl rfl (y_add rfl rfl) ?_
        refine oy rfl rfl (y_fieldAddr_box (sz := 0) Try.runUnderlying89 rfl Try.sizeOf3 rfl) ?_
        refine oy rfl rfl (y_load_box 7 Try.isAgg3 rfl rfl rfl) ?_
        refine oy rfl rfl (y_add rfl rfl) ?_
        refine oy rfl rfl (y_build_struct (cells := #[.bool true, .int .i64 (IntKind.i64.wrap (x73.sum_ + x71.Cost)), .int .i64 (IntKind.i64.wrap (x73.arcs_ + 1))]) [(0, .bool true), (1, .int .i64 (IntKind.i64.wrap (x73.sum_ + x71.Cost))), (2, .int .i64 (IntKind.i64.wrap (x73.arcs_ + 1)))] [(0, [.bool true]), (1, [.int .i64 (IntKind.i64.wrap (x73.sum_ + x71.Cost))]), (2, [.int .i64 (IntKind.i64.wrap (x73.arcs_ + 1))])] Try.zeroValue89 Try.runUnderlying89 (fs_cons Try.sizeOf4 (fs_cons Try.sizeOf3 (fs_cons Try.sizeOf3 fs_nil))) rfl rfl rfl) ?_
        refine ot rfl rfl (t_alloc Try.zeroValue89) ?_
        rintro _ _ ⟨b76, rfl, rfl⟩
        refine ot rfl rfl (t_store 8 Try.sizeOf89 rfl rfl rfl rfl (by simp [Value.cells, boxP]) (by simp [Value.cells, Value.oneCell', boxP])) ?_
        rintro _ _ ⟨rfl, rfl⟩
        refine ops_turn (retell 8 (g := box b76 [.bool true, .int .i64 (IntKind.i64.wrap (x73.sum_ + x71.Cost)), .int .i64 (IntKind.i64.wrap (x73.arcs_ + 1))]) rfl rfl) ?_
        refine ops_nil ?_
        refine goes_code ?_
        refine run_seq ?_
        refine run_weak [(1, .int .i64 from_1), (2, boxP b1 0), (4, boxP b2 0), (6, boxP b32 0), (7, v29), (8, .int .i64 last_55), (9, .int .i64 k_41), (44, n_0_Arcsv), (45, .int .i64 (n_0.Arcs.length : Int)), (46, .int .i64 s_56), (11, boxP b72 0), (10, .int .i64 s_56), (13, boxP b76 0)] [0, 1, 2, 3, 4, 5, 6, 8] [box b1 [.int .i64 n_0.Nodes, n_0_Arcsv], ro n_0_Arcsv 4 (n_0.Arcs.map S_api_Arc.enc), box b2 [.slice none 0 0, .slice none 0 0, .slice none 0 0], box b32 [v22], row v22 3 (x_57.map S_graph_reached.enc), row v29 1 (x_58.map (eInt .i64)), box b72 [.int .i64 x71.From, .int .i64 x71.To, .int .i64 x71.Cap, .int .i64 x71.Cost], box b76 [.bool true, .int .i64 (IntKind.i64.wrap (x73.sum_ + x71.Cost)), .int .i64 (IntKind.i64.wrap (x73.arcs_ + 1))]] (qw6 rfl rfl rfl rfl rfl rfl (qv7 rfl rfl rfl rfl rfl rfl rfl)) (by decide) rfl ?_
        refine run_drawany [box b1 [.int .i64 n_0.Nodes, n_0_Arcsv], ro n_0_Arcsv 4 (n_0.Arcs.map S_api_Arc.enc), box b2 [.slice none 0 0, .slice none 0 0, .slice none 0 0], box b32 [v22], row v22 3 (x_57.map S_graph_reached.enc), row v29 1 (x_58.map (eInt .i64)), box b72 [.int .i64 x71.From, .int .i64 x71.To, .int .i64 x71.Cap, .int .i64 x71.Cost], box b76 [.bool true, .int .i64 (IntKind.i64.wrap (x73.sum_ + x71.Cost)), .int .i64 (IntKind.i64.wrap (x73.arcs_ + 1))]] (by kernel_rfl) ?_
        refine any_y 0 rfl (by kernel_rfl) (by kernel_rfl) (by kernel_rfl) (ss (ss (ss (ss (ss (ss (ss (ss (sn))))))))) (wn rfl) rfl (y_load_boxagg (c := [.bool true, .int .i64 (IntKind.i64.wrap (x73.sum_ + x71.Cost)), .int .i64 (IntKind.i64.wrap (x73.arcs_ + 1))]) 7 Try.isAgg89 Try.sizeOf89 rfl rfl rfl) ?_
        refine any_y 1 rfl (by kernel_rfl) (by kernel_rfl) (by kernel_rfl) (ss (ss (ss (ss (ss (ss (ss (ss (sn))))))))) (wn rfl) rfl (y_load_box 3 Try.isAgg86 rfl rfl rfl) ?_
        refine any_y 2 rfl (by kernel_rfl) (by kernel_rfl) (by kernel_rfl) (ss (ss (ss (ss (ss (ss (ss (ss (sn))))))))) (wn rfl) rfl (y_fieldAddr_box (sz := 0) Try.runUnderlying67 rfl Try.sizeOf3 rfl) ?_
        refine any_y 3 rfl (by kernel_rfl) (by kernel_rfl) (by kernel_rfl) (ss (ss (ss (ss (ss (ss (ss (ss (sn))))))))) (wn rfl) rfl (y_load_box 6 Try.isAgg3 rfl rfl rfl) ?_
        obtain ⟨x77, hzx77, hlx77, hxx77, h⟩ := idx_some h
        refine any_y 4 rfl (by kernel_rfl) (by kernel_rfl) (by kernel_rfl) (ss (ss (ss (ss (ss (ss (ss (ss (sn))))))))) (wn rfl) rfl (y_indexAddrI (kd := .i64) (i := x71.To) 4 Try.runUnderlying86 Try.sizeOf89 rfl rfl rfl reads_row hzx77 (map_lt hlx77)) ?_
        refine any_y 5 rfl (by kernel_rfl) (by kernel_rfl) (by kernel_rfl) (ss (ss (ss (ss (ss (ss (ss (ss (sn))))))))) (wn rfl) rfl (y_load_agg (i := (x71.To).toNat) (c := [.bool x77.is_, .int .i64 x77.sum_, .int .i64 x77.arcs_]) 4 Try.isAgg89 Try.sizeOf89 rfl rfl reads_row (map_get hxx77)) ?_
        refine any_all [6] (by kernel_rfl) rfl (anyo_cons ?_ anyo_nil)
        obtain ⟨r78, hr79, h⟩ := obind_some h
        refine any_t rfl (wn rfl) rfl (t_callx (vs := [.agg #[.bool true, .int .i64 (IntKind.i64.wrap (x73.sum_ + x71.Cost)), .int .i64 (IntKind.i64.wrap (x73.arcs_ + 1))], .agg #[.bool x77.is_, .int .i64 x77.sum_, .int .i64 x77.arcs_]]) (cs := []) [] rfl Try.call49 rfl (weirgate_graph_reached_less_49_ok n (S_graph_reached.mk true (IntKind.i64.wrap (x73.sum_ + x71.Cost)) (IntKind.i64.wrap (x73.arcs_ + 1))) x77  hr79) showsX_nil rfl (.inl rfl)) ?_
        rintro _ _ ⟨_, ⟨rfl, rfl⟩, rfl⟩
        refine ⟨(ss (ss (ss (ss (ss (ss (ss (ss (sn))))))))), ?_⟩
        refine any_nil (by kernel_rfl) ?_
        refine goes_code ?_
        refine run_cond r78 rfl (fun hc80 => ?_) (fun hc80 => ?_)
        ·replace h := cond_t h hc80
         refine run_drawany [box b1 [.int .i64 n_0.Nodes, n_0_Arcsv], ro n_0_Arcsv 4 (n_0.Arcs.map S_api_Arc.enc), box b2 [.slice none 0 0, .slice none 0 0, .slice none 0 0], box b32 [v22], HA.emp, HA.emp, box b72 [.int .i64 x71.From, .int .i64 x71.To, .int .i64 x71.Cap, .int .i64 x71.Cost], box b76 [.bool true, .int .i64 (IntKind.i64.wrap (x73.sum_ + x71.Cost)), .int .i64 (IntKind.i64.wrap (x73.arcs_ + 1))]] (by kernel_rfl) ?_
         refine any_y 0 rfl (by kernel_rfl) (by kernel_rfl) (by kernel_rfl) (ss (ss (ss (ss (se (se (ss (ss (sn))))))))) (wn rfl) rfl (y_load_box 3 Try.isAgg86 rfl rfl rfl) ?_
         refine any_y 1 rfl (by kernel_rfl) (by kernel_rfl) (by kernel_rfl) (ss (ss (ss (ss (se (se (ss (ss (sn))))))))) (wn rfl) rfl (y_fieldAddr_box (sz := 0) Try.runUnderlying67 rfl Try.sizeOf3 rfl) ?_
         refine any_y 2 rfl (by kernel_rfl) (by kernel_rfl) (by kernel_rfl) (ss (ss (ss (ss (se (se (ss (ss (sn))))))))) (wn rfl) rfl (y_load_box 6 Try.isAgg3 rfl rfl rfl) ?_
         refine any_y 3 rfl (by kernel_rfl) (by kernel_rfl) (by kernel_rfl) (ss (ss (ss (ss (se (se (ss (ss (sn))))))))) (wn rfl) rfl (y_move rfl) ?_
         refine any_y 4 rfl (by kernel_rfl) (by kernel_rfl) (by kernel_rfl) (ss (ss (ss (ss (se (se (ss (ss (sn))))))))) (wn rfl) rfl (y_fieldAddr_box (sz := 0) Try.runUnderlying67 rfl Try.sizeOf3 rfl) ?_
         refine any_y 5 rfl (by kernel_rfl) (by kernel_rfl) (by kernel_rfl) (ss (ss (ss (ss (se (se (ss (ss (sn))))))))) (wn rfl) rfl (y_load_box 6 Try.isAgg3 rfl rfl rfl) ?_
         refine any_y 6 rfl (by kernel_rfl) (by kernel_rfl) (by kernel_rfl) (ss (ss (ss (ss (se (se (ss (ss (sn))))))))) (wn rfl) rfl (y_load_boxagg (c := [.bool true, .int .i64 (IntKind.i64.wrap (x73.sum_ + x71.Cost)), .int .i64 (IntKind.i64.wrap (x73.arcs_ + 1))]) 7 Try.isAgg89 Try.sizeOf89 rfl rfl rfl) ?_
         refine any_y 7 rfl (by kernel_rfl) (by kernel_rfl) (by kernel_rfl) (ss (ss (ss (ss (se (se (ss (ss (sn))))))))) (wn rfl) rfl (y_move rfl) ?_
         refine any_y 8 rfl (by kernel_rfl) (by kernel_rfl) (by kernel_rfl) (ss (ss (ss (ss (se (se (ss (ss (sn))))))))) (wn rfl) rfl (y_fieldAddr_box (sz := 0) Try.runUnderlying67 rfl Try.sizeOf3 rfl) ?_
         refine any_y 9 rfl (by kernel_rfl) (by kernel_rfl) (by kernel_rfl) (ss (ss (ss (ss (se (se (ss (ss (sn))))))))) (wn rfl) rfl (y_load_box 6 Try.isAgg3 rfl rfl rfl) ?_
         refine any_all [10] (by kernel_rfl) rfl (anyo_cons ?_ anyo_nil)
         refine any_ty rfl (wn rfl) rfl (y_indexAddrI (kd := .i64) (i := x71.To) 4 Try.runUnderlying86 Try.sizeOf89 rfl rfl rfl reads_row hzx77 (map_lt hlx77)) ⟨(ss (ss (ss (ss (se (se (ss (ss (sn))))))))), ?_⟩
         refine any_all [11] (by kernel_rfl) rfl (anyo_cons ?_ anyo_nil)
         refine any_t rfl (wn rfl) rfl (t_store_row (i := (x71.To).toNat) (j := 0) (c := S_graph_reached.enc x77) 4 Try.sizeOf89 rfl rfl rfl rfl (map_get hxx77) (by decide) (by simp [Value.cells, Value.oneCell', boxP])) ?_
         rintro _ _ ⟨rfl, rfl⟩
         refine ⟨(ss (ss (ss (ss (se (se (ss (ss (sn))))))))), ?_⟩
         refine any_turn (retell 4 (g := row v22 3 ((x_57.set ((x71.To).toNat) (S_graph_reached.mk true (IntKind.i64.wrap (x73.sum_ + x71.Cost)) (IntKind.i64.wrap (x73.arcs_ + 1)))).map S_graph_reached.enc)) rfl (congrArg (row _ _) (map_set_at rfl))) ?_
         refine any_all [12] (by kernel_rfl) rfl (anyo_cons ?_ anyo_nil)
         obtain ⟨x81, hzx81, hlx81, hxx81, h⟩ := idx_some h
         refine any_ty rfl (wn rfl) rfl (y_indexAddrI (kd := .i64) (i := x71.To) 5 Try.runUnderlying34 Try.sizeOf3 rfl rfl rfl reads_row hzx81 (map_lt hlx81)) ⟨(ss (ss (ss (ss (se (se (ss (ss (sn))))))))), ?_⟩
         refine any_all [13] (by kernel_rfl) rfl (anyo_cons ?_ anyo_nil)
         refine any_t rfl (wn rfl) rfl (t_store_row (i := (x71.To).toNat) (j := 0) (c := (eInt .i64) x81) 5 Try.sizeOf3 rfl rfl rfl rfl (map_get hxx81) (by decide) (by simp [Value.cells, Value.oneCell', boxP])) ?_
         rintro _ _ ⟨rfl, rfl⟩
         refine ⟨(ss (ss (ss (ss (se (se (ss (ss (sn))))))))), ?_⟩
         refine any_turn (retell 5 (g := row v29 1 ((x_58.set ((x71.To).toNat) s_56).map (eInt .i64))) rfl (congrArg (row _ _) (map_set_at rfl))) ?_
         refine any_y 14 rfl (by kernel_rfl) (by kernel_rfl) (by kernel_rfl) (ss (ss (ss (ss (se (se (ss (ss (sn))))))))) (wn rfl) rfl (y_assign rfl) ?_
         refine any_nil (by kernel_rfl) ?_
         refine goes_blk ?_
         obtain rfl := some_eq h
         exact goes_cut hL69 ((x71.To, (x_57.set ((x71.To).toNat) (S_graph_reached.mk true (IntKind.i64.wrap (x73.sum_ + x71.Cost)) (IntKind.i64.wrap (x73.arcs_ + 1)))), (x_58.set ((x71.To).toNat) s_56)), ()) [0, 1, 2, 3, 4, 5] (qv10 rfl rfl rfl rfl rfl rfl rfl rfl rfl rfl) (by decide) rfl rfl
        ·replace h := cond_f h hc80
         refine run_skip ?_
         refine goes_blk ?_
         obtain rfl := some_eq h
         exact goes_cut hL69 ((last_55, x_57, x_58), ()) [0, 1, 2, 3, 4, 5] (qv10 rfl rfl rfl rfl rfl rfl rfl rfl rfl rfl) (by decide) rfl rfl
       ·replace h := cond_f h hc75
        refine run_skip ?_
        refine goes_blk ?_
        obtain rfl := some_eq h
        exact goes_cut hL69 ((last_55, x_57, x_58), ()) [0, 1, 2, 3, 4, 5] (qv10 rfl rfl rfl rfl rfl rfl rfl rfl rfl rfl) (by decide) rfl rfl
      rintro ⟨⟨last_64, x_65, x_66⟩, _⟩ hj
      obtain rfl : o67 = _ := hj
      replace h := after_go ho68
      clear ho68
      change Run _ _ _ (VF.of [(1, .int .i64 from_1), (2, boxP b1 0), (4, boxP b2 0), (6, boxP b32 0), (7, v29), (8, .int .i64 last_64), (9, .int .i64 k_41), (44, n_0_Arcsv), (45, .int .i64 (n_0.Arcs.length : Int)), (46, .int .i64 s_56)]) [box b1 [.int .i64 n_0.Nodes, n_0_Arcsv], ro n_0_Arcsv 4 (n_0.Arcs.map S_api_Arc.enc), box b2 [.slice none 0 0, .slice none 0 0, .slice none 0 0], box b32 [v22], row v22 3 (x_65.map S_graph_reached.enc), row v29 1 (x_66.map (eInt .i64))]
      refine run_region' ?_
      refine oy rfl rfl (y_add rfl rfl) ?_
      refine oy rfl rfl (y_move rfl) ?_
      refine ops_nil ?_
      obtain rfl := some_eq h
      exact goes_iter hgo60 (last_64, (IntKind.i64.wrap (s_56 + 1)), x_65, x_66) () [0, 1, 2, 3, 4, 5] rfl (qv10 rfl rfl rfl rfl rfl rfl rfl rfl rfl rfl) (by decide) rfl
     ·replace h := cond_f h hc63
      refine run_exit _ rfl ?_
      obtain rfl := some_eq h
      obtain rfl := hstop61 _ rfl
      exact goes_cut hL53 ((last_55, x_57, x_58), ()) [0, 1, 2, 3, 4, 5] (qv7 rfl rfl rfl rfl rfl rfl rfl) (by decide) rfl rfl
    rintro ⟨⟨last_48, x_49, x_50⟩, _⟩ hj
    obtain rfl : o51 = _ := hj
    replace h := after_go ho52
    clear ho52
    change Run _ _ _ (VF.of [(1, .int .i64 from_1), (2, boxP b1 0), (4, boxP b2 0), (6, boxP b32 0), (7, v29), (8, .int .i64 last_48), (9, .int .i64 k_41)]) [box b1 [.int .i64 n_0.Nodes, n_0_Arcsv], ro n_0_Arcsv 4 (n_0.Arcs.map S_api_Arc.enc), box b2 [.slice none 0 0, .slice none 0 0, .slice none 0 0], box b32 [v22], row v22 3 (x_49.map S_graph_reached.enc), row v29 1 (x_50.map (eInt .i64))]
    refine run_block ?_
    refine run_seq ?_
    refine run_region' ?_
    refine oy rfl rfl (y_move rfl) ?_
    refine oy rfl rfl (y_lss rfl rfl) ?_
    refine oy rfl rfl (y_assign rfl) ?_
    refine ops_nil ?_
    refine goes_code ?_
    refine run_cond (decide (last_48 < 0)) rfl (fun hc82 => ?_) (fun hc82 => ?_)
    ·replace h := cond_t h hc82
     refine run_exit _ rfl ?_
     obtain rfl := some_eq h
     obtain rfl := hstop46 _ rfl
     exact goes_cut hL39 (x_49, ()) [0, 1, 2, 3, 4] (qv4 rfl rfl rfl rfl) (by decide) rfl rfl
    ·replace h := cond_f h hc82
     refine run_seq ?_
     refine run_region' ?_
     refine oy rfl rfl (y_move rfl) ?_
     refine oy rfl rfl (y_fieldAddr_box (sz := 0) Try.runUnderlying24 rfl Try.sizeOf3 rfl) ?_
     refine oy rfl rfl (y_load_box 0 Try.isAgg3 rfl rfl rfl) ?_
     refine oy rfl rfl (y_geq rfl rfl) ?_
     refine oy rfl rfl (y_assign rfl) ?_
     refine ops_nil ?_
     refine goes_code ?_
     refine run_cond (decide (n_0.Nodes ≤ k_41)) rfl (fun hc83 => ?_) (fun hc83 => ?_)
     ·replace h := cond_t h hc83
      refine run_seq ?_
      refine run_weak [(2, boxP b1 0), (4, boxP b2 0), (7, v29), (8, .int .i64 last_48)] [0, 1, 2, 5] [box b1 [.int .i64 n_0.Nodes, n_0_Arcsv], ro n_0_Arcsv 4 (n_0.Arcs.map S_api_Arc.enc), box b2 [.slice none 0 0, .slice none 0 0, .slice none 0 0], row v29 1 (x_50.map (eInt .i64))] (qv4 rfl rfl rfl rfl) (by decide) rfl ?_
      refine run_region' ?_
      refine oy rfl rfl (y_load_boxagg (c := [.int .i64 n_0.Nodes, n_0_Arcsv]) 0 Try.isAgg24 Try.sizeOf24 rfl rfl rfl) ?_
      refine oy rfl rfl (y_move rfl) ?_
      refine oy rfl rfl (y_move rfl) ?_
      obtain ⟨r84, hr85, h⟩ := obind_some h
      refine ot rfl rfl (t_callx (vs := [.agg #[.int .i64 n_0.Nodes, n_0_Arcsv], v29, .int .i64 last_48]) (cs := []) [(1, 0), (3, 1)] rfl Try.call40 rfl (graph_around_ok n n_0 x_50 last_48 n_0_Arcsv v29 hr85) (showsX_view 1 rfl views_ro (showsX_look 3 rfl views_row showsX_nil)) rfl (.inr (by rintro _ _ ⟨_, rfl, rfl⟩ g hg; first | (cases hg; done) | (simp only [List.mem_cons, List.not_mem_nil, or_false] at hg; first | (subst hg; first | exact strict_row | exact strict_box) | (rcases hg with rfl | rfl <;> first | exact strict_row | exact strict_box) | (rcases hg with rfl | rfl | rfl <;> first | exact strict_row | exact strict_box))))) ?_
      rintro v86 _ ⟨_, ⟨_, rfl, rfl⟩, rfl⟩
      refine ops_slc 4 rfl reads_row (fun hs87 hs87o => ?_)
      refine oy rfl rfl (y_build_struct (cells := #[.slice none 0 0, .slice none 0 0, v86]) [(2, v86)] [(2, [v86])] Try.zeroValue51 Try.runUnderlying51 (fs_cons Try.sizeOf34 (fs_cons Try.sizeOf34 (fs_cons Try.sizeOf34 fs_nil))) rfl (by first | (simp only [List.map_cons, List.map_nil, hs87]; done) | (simp only [List.map_cons, List.map_nil, hs87]; rfl)) rfl) ?_
      refine ops_slc 4 rfl reads_row (fun hs88 hs88o => ?_)
      refine ot rfl rfl (t_store 2 Try.sizeOf51 rfl rfl rfl rfl (by simp [Value.cells, boxP]) (by intro u hu; replace hu : u ∈ ([.slice none 0 0, .slice none 0 0, v86] : List Value) := hu; simp only [List.mem_cons, List.not_mem_nil, or_false] at hu; rcases hu with rfl | rfl | rfl <;> first | rfl | assumption)) ?_
      rintro _ _ ⟨rfl, rfl⟩
      refine ops_turn (retell 2 (g := box b2 [.slice none 0 0, .slice none 0 0, v86]) rfl rfl) ?_
      refine oy rfl rfl (y_assign rfl) ?_
      refine ops_nil ?_
      refine goes_code ?_
      refine run_ret ?_
      refine fin_turn (nilrow 1) ?_
      refine fin_turn (retell 5 (g := row (.slice none 0 0) 1 (([] : List Int).map (eInt .i64))) rfl rfl) ?_
      refine fin_turn (nilrow 1) ?_
      refine fin_turn (retell 6 (g := row (.slice none 0 0) 1 (([] : List Int).map (eInt .i64))) rfl rfl) ?_
      obtain rfl := some_eq h
      obtain rfl := hstop46 _ rfl
      skip
      obtain rfl := after_stop ho38
      refine fin_res [.cell 4 51, .tmp 5] [.agg #[(.slice none 0 0), (.slice none 0 0), v86], .int .i64 0] [5, 6, 4] [row (.slice none 0 0) 1 (([] : List Int).map (eInt .i64)), row (.slice none 0 0) 1 (([] : List Int).map (eInt .i64)), row v86 1 (r84.map (eInt .i64))] Try.results22 rfl (rescons (res_box 2 Try.isAgg51 Try.sizeOf51 rfl rfl rfl) (rescons (res_tmp rfl) resnil)) (by decide) rfl ?_
      exact ⟨_, _, _, rfl, rfl⟩
     ·replace h := cond_f h hc83
      refine run_skip ?_
      refine goes_blk ?_
      refine goes_blk ?_
      refine goes_code ?_
      refine run_weak [(1, .int .i64 from_1), (2, boxP b1 0), (4, boxP b2 0), (6, boxP b32 0), (7, v29), (9, .int .i64 k_41)] [0, 1, 2, 3, 4, 5] [box b1 [.int .i64 n_0.Nodes, n_0_Arcsv], ro n_0_Arcsv 4 (n_0.Arcs.map S_api_Arc.enc), box b2 [.slice none 0 0, .slice none 0 0, .slice none 0 0], box b32 [v22], row v22 3 (x_49.map S_graph_reached.enc), row v29 1 (x_50.map (eInt .i64))] (qv6 rfl rfl rfl rfl rfl rfl) (by decide) rfl ?_
      refine run_region' ?_
      refine oy rfl rfl (y_move rfl) ?_
      refine oy rfl rfl (y_add rfl rfl) ?_
      refine oy rfl rfl (y_assign rfl) ?_
      refine ops_nil ?_
      obtain rfl := some_eq h
      exact goes_iter hgo45 ((IntKind.i64.wrap (k_41 + 1)), x_49, x_50) () [0, 1, 2, 3, 4, 5] rfl (qv6 rfl rfl rfl rfl rfl rfl) (by decide) rfl
   rintro ⟨x_36, _⟩ hj
   obtain rfl : o37 = _ := hj
   replace h := after_go ho38
   clear ho38
   change Run _ _ _ (VF.of [(1, .int .i64 from_1), (2, boxP b1 0), (4, boxP b2 0), (6, boxP b32 0)]) [box b1 [.int .i64 n_0.Nodes, n_0_Arcsv], ro n_0_Arcsv 4 (n_0.Arcs.map S_api_Arc.enc), box b2 [.slice none 0 0, .slice none 0 0, .slice none 0 0], box b32 [v22], row v22 3 (x_36.map S_graph_reached.enc)]
   refine run_seq ?_
   refine run_region' ?_
   refine ot rfl rfl (t_alloc Try.zeroValue51) ?_
   rintro _ _ ⟨b89, rfl, rfl⟩
   refine ops_nil ?_
   refine goes_code ?_
   obtain ⟨o94, h, ho95⟩ := bindJ_some h
   refine run_cut (((List Int) × (List Int)) × (Value × Value)) (fun σ => [(4, boxP b2 0), (14, boxP b89 0)]) (fun σ => [box b2 [.slice none 0 0, .slice none 0 0, .slice none 0 0], box b89 [σ.2.1, σ.2.2, .slice none 0 0], row σ.2.1 1 (σ.1.1.map (eInt .i64)), row σ.2.2 1 (σ.1.2.map (eInt .i64))]) (fun σ => o94 = .go σ.1) (fun L97 hL96 => ?_) ?_
   ·
    refine run_seq ?_
    refine run_region' ?_
    refine oy rfl rfl (y_load_box 3 Try.isAgg86 rfl rfl rfl) ?_
    refine oy rfl rfl ((y_len 4 rfl Try.runUnderlying86 rfl rfl reads_row).to (v_len S_graph_reached.enc _)) ?_
    refine oy rfl rfl (y_move rfl) ?_
    refine ops_nil ?_
    refine goes_code ?_
    refine run_block ?_
    refine run_turn (nilrow 1) ?_
    refine run_turn (retell 6 (g := row (.slice none 0 0) 1 (([] : List Int).map (eInt .i64))) rfl rfl) ?_
    refine run_turn (nilrow 1) ?_
    refine run_turn (retell 7 (g := row (.slice none 0 0) 1 (([] : List Int).map (eInt .i64))) rfl rfl) ?_
    refine run_iter (step := graph_Paths_L3 n n_0 from_1 x_36) (n := n) (s0 := (0, ([] : List Int), ([] : List Int))) h (G := Value × Value) ((.slice none 0 0), (.slice none 0 0)) (fun σ γ => [(1, .int .i64 from_1), (2, boxP b1 0), (4, boxP b2 0), (6, boxP b32 0), (14, boxP b89 0), (100, v22), (101, .int .i64 (x_36.length : Int)), (102, .int .i64 σ.1)]) (fun σ γ => [box b1 [.int .i64 n_0.Nodes, n_0_Arcsv], ro n_0_Arcsv 4 (n_0.Arcs.map S_api_Arc.enc), box b2 [.slice none 0 0, .slice none 0 0, .slice none 0 0], box b32 [v22], row v22 3 (x_36.map S_graph_reached.enc), box b89 [γ.1, γ.2, .slice none 0 0], row γ.1 1 (σ.2.1.map (eInt .i64)), row γ.2 1 (σ.2.2.map (eInt .i64))]) [0, 1, 2, 3, 4, 5, 6, 7] (qv8 rfl rfl rfl rfl rfl rfl rfl rfl) (by decide) rfl ?_
    rintro ⟨s_98, x_99, x_100⟩ ⟨v101, v102⟩ o103 h L106 hgo104 hstop105
    change Run _ _ _ (VF.of [(1, .int .i64 from_1), (2, boxP b1 0), (4, boxP b2 0), (6, boxP b32 0), (14, boxP b89 0), (100, v22), (101, .int .i64 (x_36.length : Int)), (102, .int .i64 s_98)]) [box b1 [.int .i64 n_0.Nodes, n_0_Arcsv], ro n_0_Arcsv 4 (n_0.Arcs.map S_api_Arc.enc), box b2 [.slice none 0 0, .slice none 0 0, .slice none 0 0], box b32 [v22], row v22 3 (x_36.map S_graph_reached.enc), box b89 [v101, v102, .slice none 0 0], row v101 1 (x_99.map (eInt .i64)), row v102 1 (x_100.map (eInt .i64))]
    refine run_seq ?_
    refine run_region' ?_
    refine oy rfl rfl (y_lss rfl rfl) ?_
    refine ops_nil ?_
    refine goes_code ?_
    refine run_seq ?_
    refine run_cond (decide (s_98 < (x_36.length : Int))) rfl (fun hc107 => ?_) (fun hc107 => ?_)
    ·replace h := cond_t h hc107
     refine run_skip ?_
     refine goes_code ?_
     obtain ⟨o112, h, ho113⟩ := bindJ_some h
     refine run_cut (((List Int) × (List Int)) × (Value × Value)) (fun σ => [(1, .int .i64 from_1), (2, boxP b1 0), (4, boxP b2 0), (6, boxP b32 0), (14, boxP b89 0), (100, v22), (101, .int .i64 (x_36.length : Int)), (102, .int .i64 s_98)]) (fun σ => [box b1 [.int .i64 n_0.Nodes, n_0_Arcsv], ro n_0_Arcsv 4 (n_0.Arcs.map S_api_Arc.enc), box b2 [.slice none 0 0, .slice none 0 0, .slice none 0 0], box b32 [v22], row v22 3 (x_36.map S_graph_reached.enc), box b89 [σ.2.1, σ.2.2, .slice none 0 0], row σ.2.1 1 (σ.1.1.map (eInt .i64)), row σ.2.2 1 (σ.1.2.map (eInt .i64))]) (fun σ => o112 = .go σ.1) (fun L115 hL114 => ?_) ?_
     ·
      refine run_block ?_
      refine run_seq ?_
      refine run_region' ?_
      refine oy rfl rfl (y_move rfl) ?_
      obtain ⟨x116, hzx116, hlx116, hxx116, h⟩ := idx_some h
      refine oy rfl rfl (y_indexAddrI (kd := .i64) (i := s_98) 4 Try.runUnderlying86 Try.sizeOf89 rfl rfl rfl reads_row hzx116 (map_lt hlx116)) ?_
      refine oy rfl rfl (y_load_agg (i := s_98.toNat) (c := [.bool x116.is_, .int .i64 x116.sum_, .int .i64 x116.arcs_]) 4 Try.isAgg89 Try.sizeOf89 rfl rfl reads_row (map_get hxx116)) ?_
      refine ot rfl rfl (t_alloc Try.zeroValue3) ?_
      rintro _ _ ⟨b117, rfl, rfl⟩
      refine ot rfl rfl (t_alloc Try.zeroValue89) ?_
      rintro _ _ ⟨b118, rfl, rfl⟩
      refine ot rfl rfl (t_store 8 Try.sizeOf3 rfl rfl rfl rfl (by simp [Value.cells, boxP]) (by simp [Value.cells, Value.oneCell', boxP])) ?_
      rintro _ _ ⟨rfl, rfl⟩
      refine ops_turn (retell 8 (g := box b117 [.int .i64 s_98]) rfl rfl) ?_
      refine ot rfl rfl (t_store 9 Try.sizeOf89 rfl rfl rfl rfl (by simp [Value.cells, boxP]) (by simp [Value.cells, Value.oneCell', boxP])) ?_
      rintro _ _ ⟨rfl, rfl⟩
      refine ops_turn (retell 9 (g := box b118 [.bool x116.is_, .int .i64 x116.sum_, .int .i64 x116.arcs_]) rfl rfl) ?_
      refine ops_nil ?_
      refine goes_code ?_
      refine run_seq ?_
      refine run_weak [(1, .int .i64 from_1), (2, boxP b1 0), (4, boxP b2 0), (6, boxP b32 0), (14, boxP b89 0), (100, v22), (101, .int .i64 (x_36.length : Int)), (102, .int .i64 s_98), (15, boxP b117 0), (16, boxP b118 0)] [0, 1, 2, 3, 4, 5, 6, 7, 8, 9] [box b1 [.int .i64 n_0.Nodes, n_0_Arcsv], ro n_0_Arcsv 4 (n_0.Arcs.map S_api_Arc.enc), box b2 [.slice none 0 0, .slice none 0 0, .slice none 0 0], box b32 [v22], row v22 3 (x_36.map S_graph_reached.enc), box b89 [v101, v102, .slice none 0 0], row v101 1 (x_99.map (eInt .i64)), row v102 1 (x_100.map (eInt .i64)), box b117 [.int .i64 s_98], box b118 [.bool x116.is_, .int .i64 x116.sum_, .int .i64 x116.arcs_]] (qv10 rfl rfl rfl rfl rfl rfl rfl rfl rfl rfl) (by decide) rfl ?_
      obtain ⟨hr121, h⟩ := need_some h
      obtain ⟨hr124, h⟩ := need_some h
      refine run_drawany [box b1 [.int .i64 n_0.Nodes, n_0_Arcsv], ro n_0_Arcsv 4 (n_0.Arcs.map S_api_Arc.enc), box b2 [.slice none 0 0, .slice none 0 0, .slice none 0 0], box b32 [v22], row v22 3 (x_36.map S_graph_reached.enc), HA.emp, HA.emp, HA.emp, box b117 [.int .i64 s_98], box b118 [.bool x116.is_, .int .i64 x116.sum_, .int .i64 x116.arcs_]] (by kernel_rfl) ?_
      refine any_y 0 rfl (by kernel_rfl) (by kernel_rfl) (by kernel_rfl) (ss (ss (ss (ss (ss (se (se (se (ss (ss (sn))))))))))) (wn rfl) rfl (y_fieldAddr_box (sz := 0) Try.runUnderlying51 rfl Try.sizeOf34 rfl) ?_
      refine any_y 2 rfl (by kernel_rfl) (by kernel_rfl) (by kernel_rfl) (ss (ss (ss (ss (ss (se (se (se (ss (ss (sn))))))))))) (wn rfl) rfl (y_fieldAddr_box (sz := 0) Try.runUnderlying89 rfl Try.sizeOf3 rfl) ?_
      refine any_y 3 rfl (by kernel_rfl) (by kernel_rfl) (by kernel_rfl) (ss (ss (ss (ss (ss (se (se (se (ss (ss (sn))))))))))) (wn rfl) rfl (y_load_box 9 Try.isAgg3 rfl rfl rfl) ?_
      refine any_y 6 rfl (by kernel_rfl) (by kernel_rfl) (by kernel_rfl) (ss (ss (ss (ss (ss (se (se (se (ss (ss (sn))))))))))) (wn rfl) rfl (y_fieldAddr_box (sz := 0) Try.runUnderlying51 rfl Try.sizeOf34 rfl) ?_
      refine any_cut2 #[true, true, true, true, true, true, true, true, true, true, true, true, true, true] 0 (Value × Value × Value × Value) (fun σ => [(1, .int .i64 from_1), (2, boxP b1 0), (4, boxP b2 0), (6, boxP b32 0), (14, boxP b89 0), (100, v22), (101, .int .i64 (x_36.length : Int)), (102, .int .i64 s_98), (15, boxP b117 0), (16, boxP b118 0)]) (fun σ => [box b1 [.int .i64 n_0.Nodes, n_0_Arcsv], ro n_0_Arcsv 4 (n_0.Arcs.map S_api_Arc.enc), box b2 [.slice none 0 0, .slice none 0 0, .slice none 0 0], box b32 [v22], row v22 3 (x_36.map S_graph_reached.enc), box b89 [σ.1, σ.2.1, .slice none 0 0], row σ.1 1 ((x_99 ++ ([x116.sum_] : List Int)).map (eInt .i64)), row σ.2.1 1 ((x_100 ++ ([(-1)] : List Int)).map (eInt .i64)), box b117 [.int .i64 s_98], box b118 [.bool x116.is_, .int .i64 x116.sum_, .int .i64 x116.arcs_], row σ.2.2.1 1 (([x116.sum_] : List Int).map (eInt .i64)), row σ.2.2.2 1 (([(-1)] : List Int).map (eInt .i64))]) ?_ (fun hK143 => ?_)
      ·rintro ⟨v133, v140, v129, v139⟩
       change AnyL _ _ _ _ _ (VF.of [(1, .int .i64 from_1), (2, boxP b1 0), (4, boxP b2 0), (6, boxP b32 0), (14, boxP b89 0), (100, v22), (101, .int .i64 (x_36.length : Int)), (102, .int .i64 s_98), (15, boxP b117 0), (16, boxP b118 0)]) [box b1 [.int .i64 n_0.Nodes, n_0_Arcsv], ro n_0_Arcsv 4 (n_0.Arcs.map S_api_Arc.enc), box b2 [.slice none 0 0, .slice none 0 0, .slice none 0 0], box b32 [v22], row v22 3 (x_36.map S_graph_reached.enc), box b89 [v133, v140, .slice none 0 0], row v133 1 ((x_99 ++ ([x116.sum_] : List Int)).map (eInt .i64)), row v140 1 ((x_100 ++ ([(-1)] : List Int)).map (eInt .i64)), box b117 [.int .i64 s_98], box b118 [.bool x116.is_, .int .i64 x116.sum_, .int .i64 x116.arcs_], row v129 1 (([x116.sum_] : List Int).map (eInt .i64)), row v139 1 (([(-1)] : List Int).map (eInt .i64))] _
       refine any_nil (by kernel_rfl) ?_
       refine goes_code ?_
       refine run_seq ?_
       refine run_seq ?_
       refine run_region' ?_
       refine oy rfl rfl (y_load_box 8 Try.isAgg3 rfl rfl rfl) ?_
       refine oy rfl rfl (y_move rfl) ?_
       refine oy rfl rfl (y_eql rfl rfl) ?_
       refine oy rfl rfl (y_move rfl) ?_
       refine ops_cut 4 (Bool) (fun σ => [(1, .int .i64 from_1), (2, boxP b1 0), (4, boxP b2 0), (6, boxP b32 0), (14, boxP b89 0), (100, v22), (101, .int .i64 (x_36.length : Int)), (102, .int .i64 s_98), (15, boxP b117 0), (16, boxP b118 0), (126, .bool σ)]) (fun σ => [box b1 [.int .i64 n_0.Nodes, n_0_Arcsv], ro n_0_Arcsv 4 (n_0.Arcs.map S_api_Arc.enc), box b2 [.slice none 0 0, .slice none 0 0, .slice none 0 0], box b32 [v22], row v22 3 (x_36.map S_graph_reached.enc), box b89 [v133, v140, .slice none 0 0], row v133 1 ((x_99 ++ ([x116.sum_] : List Int)).map (eInt .i64)), row v140 1 ((x_100 ++ ([(-1)] : List Int)).map (eInt .i64)), box b117 [.int .i64 s_98], box b118 [.bool x116.is_, .int .i64 x116.sum_, .int .i64 x116.arcs_]]) (fun σ => σ = (decide (s_98 = from_1) || (!x116.is_))) (fun L144 hL145 => ?_) ?_
       ·refine ops_split 122 (decide (s_98 = from_1)) rfl (fun hg146 => ?_) (fun hg146 => ?_)
        ·skip
         refine ops_no 3 false 122 rfl rfl rfl rfl rfl ?_
         refine ops_no 3 false 122 rfl rfl rfl rfl rfl ?_
         refine ops_no 3 false 122 rfl rfl rfl rfl rfl ?_
         refine oy rfl rfl (y_pick (b := true) rfl rfl) ?_
         refine ops_nil ?_
         exact goes_cut hL145 true [0, 1, 2, 3, 4, 5, 6, 7, 8, 9] (qv11 rfl rfl rfl rfl rfl rfl rfl rfl rfl rfl rfl) (by decide) rfl (by rw [hg146]; simp)
        ·skip
         refine ops_y (wg 3 false 122 rfl rfl rfl rfl) rfl (y_fieldAddr_box (sz := 0) Try.runUnderlying89 rfl Try.sizeOf4 rfl) ?_
         refine ops_y (wg 3 false 122 rfl rfl rfl rfl) rfl (y_load_box 9 Try.isAgg4 rfl rfl rfl) ?_
         refine ops_y (wg 3 false 122 rfl rfl rfl rfl) rfl (y_not rfl) ?_
         refine oy rfl rfl (y_pick (b := false) rfl rfl) ?_
         refine ops_nil ?_
         exact goes_cut hL145 (!x116.is_) [0, 1, 2, 3, 4, 5, 6, 7, 8, 9] (qv11 rfl rfl rfl rfl rfl rfl rfl rfl rfl rfl rfl) (by decide) rfl (by rw [hg146]; simp)
       rintro _ rfl
       refine ops_nil ?_
       refine goes_code ?_
       refine run_cond (decide (s_98 = from_1) || (!x116.is_)) rfl (fun hc147 => ?_) (fun hc147 => ?_)
       ·replace h := cond_t h hc147
        refine run_exit _ rfl ?_
        obtain rfl := some_eq h
        exact goes_cut hL114 (((x_99 ++ ([x116.sum_] : List Int)), (x_100 ++ ([(-1)] : List Int))), (v133, v140)) [0, 1, 2, 3, 4, 5, 6, 7] (qv8 rfl rfl rfl rfl rfl rfl rfl rfl) (by decide) rfl rfl
       ·replace h := cond_f h hc147
        refine run_skip ?_
        refine goes_code ?_
        refine run_seq ?_
        refine run_region' ?_
        refine oy rfl rfl (y_load_boxagg (c := [.int .i64 n_0.Nodes, n_0_Arcsv]) 0 Try.isAgg24 Try.sizeOf24 rfl rfl rfl) ?_
        refine oy rfl rfl (y_load_box 8 Try.isAgg3 rfl rfl rfl) ?_
        obtain ⟨r148, hr149, h⟩ := obind_some h
        refine ot rfl rfl (t_callx (vs := [.agg #[.int .i64 n_0.Nodes, n_0_Arcsv], .int .i64 s_98, .bool true]) (cs := []) [(1, 0)] rfl Try.call39 rfl (graph_arcs_ok n_0 s_98 true n_0_Arcsv hr149) (showsX_view 1 rfl views_ro showsX_nil) rfl (.inl rfl)) ?_
        rintro _ _ ⟨_, ⟨v150, v151, v152, rfl, rfl⟩, rfl⟩
        refine ops_nil ?_
        refine goes_code ?_
        refine run_block ?_
        refine run_weak [(1, .int .i64 from_1), (2, boxP b1 0), (4, boxP b2 0), (6, boxP b32 0), (14, boxP b89 0), (100, v22), (101, .int .i64 (x_36.length : Int)), (102, .int .i64 s_98), (15, boxP b117 0), (16, boxP b118 0), (129, .func (.func 61) #[] #[boxP v150 0, boxP v151 0, boxP v152 0])] [0, 1, 2, 3, 4, 5, 6, 7, 8, 9, 10, 11, 12] [box b1 [.int .i64 n_0.Nodes, n_0_Arcsv], ro n_0_Arcsv 4 (n_0.Arcs.map S_api_Arc.enc), box b2 [.slice none 0 0, .slice none 0 0, .slice none 0 0], box b32 [v22], row v22 3 (x_36.map S_graph_reached.enc), box b89 [v133, v140, .slice none 0 0], row v133 1 ((x_99 ++ ([x116.sum_] : List Int)).map (eInt .i64)), row v140 1 ((x_100 ++ ([(-1)] : List Int)).map (eInt .i64)), box b117 [.int .i64 s_98], box b118 [.bool x116.is_, .int .i64 x116.sum_, .int .i64 x116.arcs_], box v150 [.int .i64 n_0.Nodes, n_0_Arcsv], box v151 [.bool true], box v152 [.int .i64 s_98]] (qv11 rfl rfl rfl rfl rfl rfl rfl rfl rfl rfl rfl) (by decide) rfl ?_
        refine run_turn (turn_dup 1 free_ro rfl) ?_
        obtain ⟨r156, hr157, h⟩ := obind_some h
        refine run_rangeFunc (S := (List Int)) (G := Unit) (jumps := [.exit 7]) (Hs := fun σ γ => [box b1 [.int .i64 n_0.Nodes, n_0_Arcsv], ro n_0_Arcsv 4 (n_0.Arcs.map S_api_Arc.enc), box b2 [.slice none 0 0, .slice none 0 0, .slice none 0 0], box b32 [v22], row v22 3 (x_36.map S_graph_reached.enc), box b89 [v133, v140, .slice none 0 0], row v133 1 ((x_99 ++ ([x116.sum_] : List Int)).map (eInt .i64)), row v140 1 (σ.map (eInt .i64)), box b117 [.int .i64 s_98], box b118 [.bool x116.is_, .int .i64 x116.sum_, .int .i64 x116.arcs_]]) (step := (graph_Paths_R4 n_0 x_36 s_98 x116)) (ps := [130, 131]) (Gr := [box v150 [.int .i64 n_0.Nodes, n_0_Arcsv], box v151 [.bool true], box v152 [.int .i64 s_98]]) (fun x => [.int .i64 x.1, .int .i64 x.2]) (x_100 ++ ([(-1)] : List Int)) () [0, 1, 2, 3, 4, 5, 6, 7, 8, 9] [(13, 0), (10, 2), (11, 2), (12, 2)] (r := r156) rfl rfl Try.call61 (fun _ => rfl) rfl (by decide) rfl ?_ (fun l A hy => graph_arcs_1_61_ok n (yieldOf (graph_Paths_R4 n_0 x_36 s_98 x116)) ((x_100 ++ ([(-1)] : List Int)), none) n_0 true s_98 l A hy v150 n_0_Arcsv v151 v152 hr157) (showsX_view 13 rfl views_ro (showsX_lend 10 rfl (showsX_lend 11 rfl (showsX_lend 12 rfl showsX_nil)))) rfl rfl ?_ ?_
        ·rintro l x_155 ⟨x153, x154⟩ sN jN hN _ w0 o0 L hL
         obtain ⟨pN, hp⟩ : ∃ pN, pN = (sN, jN) := ⟨_, rfl⟩
         rw [← hp] at hN
         replace h := hN
         clear hN
         change Run _ _ _ (VF.of [(131, .int .i64 x154), (130, .int .i64 x153), (1, .int .i64 from_1), (2, boxP b1 0), (4, boxP b2 0), (6, boxP b32 0), (14, boxP b89 0), (100, v22), (101, .int .i64 (x_36.length : Int)), (102, .int .i64 s_98), (15, boxP b117 0), (16, boxP b118 0), (129, .func (.func 61) #[] #[boxP v150 0, boxP v151 0, boxP v152 0])]) [box b1 [.int .i64 n_0.Nodes, n_0_Arcsv], ro n_0_Arcsv 4 (n_0.Arcs.map S_api_Arc.enc), box b2 [.slice none 0 0, .slice none 0 0, .slice none 0 0], box b32 [v22], row v22 3 (x_36.map S_graph_reached.enc), box b89 [v133, v140, .slice none 0 0], row v133 1 ((x_99 ++ ([x116.sum_] : List Int)).map (eInt .i64)), row v140 1 (x_155.map (eInt .i64)), box b117 [.int .i64 s_98], box b118 [.bool x116.is_, .int .i64 x116.sum_, .int .i64 x116.arcs_]]
         refine run_weak [(1, .int .i64 from_1), (2, boxP b1 0), (4, boxP b2 0), (6, boxP b32 0), (14, boxP b89 0), (15, boxP b117 0), (16, boxP b118 0), (100, v22), (101, .int .i64 (x_36.length : Int)), (102, .int .i64 s_98), (130, .int .i64 x153), (131, .int .i64 x154)] [0, 1, 2, 3, 4, 5, 6, 7, 8, 9] [box b1 [.int .i64 n_0.Nodes, n_0_Arcsv], ro n_0_Arcsv 4 (n_0.Arcs.map S_api_Arc.enc), box b2 [.slice none 0 0, .slice none 0 0, .slice none 0 0], box b32 [v22], row v22 3 (x_36.map S_graph_reached.enc), box b89 [v133, v140, .slice none 0 0], row v133 1 ((x_99 ++ ([x116.sum_] : List Int)).map (eInt .i64)), row v140 1 (x_155.map (eInt .i64)), box b117 [.int .i64 s_98], box b118 [.bool x116.is_, .int .i64 x116.sum_, .int .i64 x116.arcs_]] (qv12 rfl rfl rfl rfl rfl rfl rfl rfl rfl rfl rfl rfl) (by decide) rfl ?_
         refine run_seq ?_
         refine run_region' ?_
         refine oy rfl rfl (y_assign rfl) ?_
         refine ops_nil ?_
         refine goes_code ?_
         refine run_region' ?_
         refine oy rfl rfl (y_assign rfl) ?_
         refine ops_nil ?_
         refine goes_round hL (fun w1 o1 => ?_)
         refine run_block ?_
         refine run_seq ?_
         refine run_region' ?_
         refine oy rfl rfl (y_load_box 3 Try.isAgg86 rfl rfl rfl) ?_
         refine oy rfl rfl (y_move rfl) ?_
         obtain ⟨x158, hzx158, hlx158, hxx158, h⟩ := idx_some h
         refine oy rfl rfl (y_indexAddrI (kd := .i64) (i := x154) 4 Try.runUnderlying86 Try.sizeOf89 rfl rfl rfl reads_row hzx158 (map_lt hlx158)) ?_
         refine oy rfl rfl (y_load_agg (i := x154.toNat) (c := [.bool x158.is_, .int .i64 x158.sum_, .int .i64 x158.arcs_]) 4 Try.isAgg89 Try.sizeOf89 rfl rfl reads_row (map_get hxx158)) ?_
         refine ot rfl rfl (t_alloc Try.zeroValue89) ?_
         rintro _ _ ⟨b159, rfl, rfl⟩
         refine ot rfl rfl (t_store 10 Try.sizeOf89 rfl rfl rfl rfl (by simp [Value.cells, boxP]) (by simp [Value.cells, Value.oneCell', boxP])) ?_
         rintro _ _ ⟨rfl, rfl⟩
         refine ops_turn (retell 10 (g := box b159 [.bool x158.is_, .int .i64 x158.sum_, .int .i64 x158.arcs_]) rfl rfl) ?_
         refine ops_nil ?_
         refine goes_code ?_
         refine run_seq ?_
         refine run_weak [(2, boxP b1 0), (14, boxP b89 0), (15, boxP b117 0), (16, boxP b118 0), (17, .int .i64 x153), (19, boxP b159 0)] [0, 1, 2, 3, 4, 5, 6, 7, 8, 9, 10] [box b1 [.int .i64 n_0.Nodes, n_0_Arcsv], ro n_0_Arcsv 4 (n_0.Arcs.map S_api_Arc.enc), box b2 [.slice none 0 0, .slice none 0 0, .slice none 0 0], box b32 [v22], row v22 3 (x_36.map S_graph_reached.enc), box b89 [v133, v140, .slice none 0 0], row v133 1 ((x_99 ++ ([x116.sum_] : List Int)).map (eInt .i64)), row v140 1 (x_155.map (eInt .i64)), box b117 [.int .i64 s_98], box b118 [.bool x116.is_, .int .i64 x116.sum_, .int .i64 x116.arcs_], box b159 [.bool x158.is_, .int .i64 x158.sum_, .int .i64 x158.arcs_]] (qv6 rfl rfl rfl rfl rfl rfl) (by decide) rfl ?_
         refine run_draw (by kernel_rfl) (by kernel_rfl) ?_
         refine sy rfl rfl (y_fieldAddr_box (sz := 0) Try.runUnderlying89 rfl Try.sizeOf4 rfl) ?_
         refine sy rfl rfl (y_load_box 10 Try.isAgg4 rfl rfl rfl) ?_
         refine sy rfl rfl (y_move rfl) ?_
         refine still_cut 7 (Bool) (fun σ => [(2, boxP b1 0), (14, boxP b89 0), (15, boxP b117 0), (16, boxP b118 0), (17, .int .i64 x153), (19, boxP b159 0), (145, .bool σ)]) (fun σ => [box b1 [.int .i64 n_0.Nodes, n_0_Arcsv], ro n_0_Arcsv 4 (n_0.Arcs.map S_api_Arc.enc), box b2 [.slice none 0 0, .slice none 0 0, .slice none 0 0], box b32 [v22], row v22 3 (x_36.map S_graph_reached.enc), box b89 [v133, v140, .slice none 0 0], row v133 1 ((x_99 ++ ([x116.sum_] : List Int)).map (eInt .i64)), row v140 1 (x_155.map (eInt .i64)), box b117 [.int .i64 s_98], box b118 [.bool x116.is_, .int .i64 x116.sum_, .int .i64 x116.arcs_], box b159 [.bool x158.is_, .int .i64 x158.sum_, .int .i64 x158.arcs_]]) (fun σ => σ = (x158.is_ && decide ((IntKind.i64.wrap (x158.arcs_ + 1)) = x116.arcs_))) (fun L160 hL161 => ?_) ?_
         ·refine still_split 138 x158.is_ rfl (fun hg162 => ?_) (fun hg162 => ?_)
          ·skip
           refine still_y (wg 2 true 138 rfl rfl rfl rfl) rfl (y_fieldAddr_box (sz := 0) Try.runUnderlying89 rfl Try.sizeOf3 rfl) ?_
           refine still_y (wg 2 true 138 rfl rfl rfl rfl) rfl (y_load_box 10 Try.isAgg3 rfl rfl rfl) ?_
           refine still_y (wg 2 true 138 rfl rfl rfl rfl) rfl (y_add rfl rfl) ?_
           refine still_y (wg 2 true 138 rfl rfl rfl rfl) rfl (y_fieldAddr_box (sz := 0) Try.runUnderlying89 rfl Try.sizeOf3 rfl) ?_
           refine still_y (wg 2 true 138 rfl rfl rfl rfl) rfl (y_load_box 9 Try.isAgg3 rfl rfl rfl) ?_
           refine still_y (wg 2 true 138 rfl rfl rfl rfl) rfl (y_eql rfl rfl) ?_
           refine sy rfl rfl (y_pick (b := true) rfl rfl) ?_
           refine still_nil ?_
           exact goes_cut hL161 (decide ((IntKind.i64.wrap (x158.arcs_ + 1)) = x116.arcs_)) [0, 1, 2, 3, 4, 5, 6, 7, 8, 9, 10] (qv7 rfl rfl rfl rfl rfl rfl rfl) (by decide) rfl (by rw [hg162]; simp)
          ·skip
           refine still_no 2 true 138 rfl rfl rfl rfl rfl ?_
           refine still_no 2 true 138 rfl rfl rfl rfl rfl ?_
           refine still_no 2 true 138 rfl rfl rfl rfl rfl ?_
           refine still_no 2 true 138 rfl rfl rfl rfl rfl ?_
           refine still_no 2 true 138 rfl rfl rfl rfl rfl ?_
           refine still_no 2 true 138 rfl rfl rfl rfl rfl ?_
           refine sy rfl rfl (y_pick (b := false) rfl rfl) ?_
           refine still_nil ?_
           exact goes_cut hL161 false [0, 1, 2, 3, 4, 5, 6, 7, 8, 9, 10] (qv7 rfl rfl rfl rfl rfl rfl rfl) (by decide) rfl (by rw [hg162]; simp)
         rintro _ rfl
         refine sy rfl rfl (y_move rfl) ?_
         obtain ⟨o164, h, ho165⟩ := bindJ_some h
         refine still_cut 13 (Bool) (fun σ => [(14, boxP b89 0), (15, boxP b117 0), (17, .int .i64 x153), (159, .bool σ)]) (fun σ => [box b1 [.int .i64 n_0.Nodes, n_0_Arcsv], ro n_0_Arcsv 4 (n_0.Arcs.map S_api_Arc.enc), box b2 [.slice none 0 0, .slice none 0 0, .slice none 0 0], box b32 [v22], row v22 3 (x_36.map S_graph_reached.enc), box b89 [v133, v140, .slice none 0 0], row v133 1 ((x_99 ++ ([x116.sum_] : List Int)).map (eInt .i64)), row v140 1 (x_155.map (eInt .i64)), box b117 [.int .i64 s_98], box b118 [.bool x116.is_, .int .i64 x116.sum_, .int .i64 x116.arcs_], box b159 [.bool x158.is_, .int .i64 x158.sum_, .int .i64 x158.arcs_]]) (fun σ => o164 = .go σ) (fun L166 hL167 => ?_) ?_
         ·refine still_split 146 (x158.is_ && decide ((IntKind.i64.wrap (x158.arcs_ + 1)) = x116.arcs_)) rfl (fun hg168 => ?_) (fun hg168 => ?_)
          ·replace h := cond_t h hg168
           refine still_y (wg 10 true 146 rfl rfl rfl rfl) rfl (y_fieldAddr_box (sz := 0) Try.runUnderlying89 rfl Try.sizeOf3 rfl) ?_
           refine still_y (wg 10 true 146 rfl rfl rfl rfl) rfl (y_load_box 10 Try.isAgg3 rfl rfl rfl) ?_
           refine still_y (wg 10 true 146 rfl rfl rfl rfl) rfl (y_fieldAddr_box (sz := 0) Try.runUnderlying24 rfl Try.sizeOf22 rfl) ?_
           refine still_y (wg 10 true 146 rfl rfl rfl rfl) rfl (y_load_box 0 Try.isAgg22 rfl rfl rfl) ?_
           refine still_y (wg 10 true 146 rfl rfl rfl rfl) rfl (y_move rfl) ?_
           obtain ⟨x169, hzx169, hlx169, hxx169, h⟩ := idx_some h
           refine still_y (wg 10 true 146 rfl rfl rfl rfl) rfl (y_indexAddrI (kd := .i64) (i := x153) 1 Try.runUnderlying22 Try.sizeOf67 rfl rfl rfl reads_ro hzx169 (map_lt hlx169)) ?_
           refine still_y (wg 10 true 146 rfl rfl rfl rfl) rfl (y_fieldAddr_elem (sz := 0) Try.runUnderlying67 rfl Try.sizeOf3 rfl) ?_
           refine still_y (wg 10 true 146 rfl rfl rfl rfl) rfl (y_load_field (i := x153.toNat) (j := 3) 1 Try.isAgg3 rfl rfl reads_ro (map_get hxx169) rfl) ?_
           refine still_y (wg 10 true 146 rfl rfl rfl rfl) rfl (y_add rfl rfl) ?_
           refine still_y (wg 10 true 146 rfl rfl rfl rfl) rfl (y_fieldAddr_box (sz := 0) Try.runUnderlying89 rfl Try.sizeOf3 rfl) ?_
           refine still_y (wg 10 true 146 rfl rfl rfl rfl) rfl (y_load_box 9 Try.isAgg3 rfl rfl rfl) ?_
           refine still_y (wg 10 true 146 rfl rfl rfl rfl) rfl (y_eql rfl rfl) ?_
           refine sy rfl rfl (y_pick (b := true) rfl rfl) ?_
           refine still_nil ?_
           obtain rfl := some_eq h
           exact goes_cut hL167 (decide ((IntKind.i64.wrap (x158.sum_ + x169.Cost)) = x116.sum_)) [0, 1, 2, 3, 4, 5, 6, 7, 8, 9, 10] (qv4 rfl rfl rfl rfl) (by decide) rfl rfl
          ·replace h := cond_f h hg168
           refine still_no 10 true 146 rfl rfl rfl rfl rfl ?_
           refine still_no 10 true 146 rfl rfl rfl rfl rfl ?_
           refine still_no 10 true 146 rfl rfl rfl rfl rfl ?_
           refine still_no 10 true 146 rfl rfl rfl rfl rfl ?_
           refine still_no 10 true 146 rfl rfl rfl rfl rfl ?_
           refine still_no 10 true 146 rfl rfl rfl rfl rfl ?_
           refine still_no 10 true 146 rfl rfl rfl rfl rfl ?_
           refine still_no 10 true 146 rfl rfl rfl rfl rfl ?_
           refine still_no 10 true 146 rfl rfl rfl rfl rfl ?_
           refine still_no 10 true 146 rfl rfl rfl rfl rfl ?_
           refine still_no 10 true 146 rfl rfl rfl rfl rfl ?_
           refine still_no 10 true 146 rfl rfl rfl rfl rfl ?_
           refine sy rfl rfl (y_pick (b := false) rfl rfl) ?_
           refine still_nil ?_
           obtain rfl := some_eq h
           exact goes_cut hL167 false [0, 1, 2, 3, 4, 5, 6, 7, 8, 9, 10] (qv4 rfl rfl rfl rfl) (by decide) rfl rfl
         rintro b163 hj
         obtain rfl : o164 = _ := hj
         replace h := after_go ho165
         clear ho165
         refine still_nil ?_
         refine goes_code ?_
         refine run_cond b163 rfl (fun hc170 => ?_) (fun hc170 => ?_)
         ·replace h := cond_t h hc170
          refine run_seq ?_
          refine run_region' ?_
          refine oy rfl rfl (y_fieldAddr_box (sz := 0) Try.runUnderlying51 rfl Try.sizeOf34 rfl) ?_
          refine oy rfl rfl (y_load_box 5 Try.isAgg34 rfl rfl rfl) ?_
          refine oy rfl rfl (y_load_box 8 Try.isAgg3 rfl rfl rfl) ?_
          refine oy rfl rfl (y_move rfl) ?_
          obtain ⟨x171, hzx171, hlx171, hxx171, h⟩ := idx_some h
          refine oy rfl rfl (y_indexAddrI (kd := .i64) (i := s_98) 7 Try.runUnderlying34 Try.sizeOf3 rfl rfl rfl reads_row hzx171 (map_lt hlx171)) ?_
          refine ot rfl rfl (t_store_row (i := s_98.toNat) (j := 0) (c := (eInt .i64) x171) 7 Try.sizeOf3 rfl rfl rfl rfl (map_get hxx171) (by decide) (by simp [Value.cells, Value.oneCell', boxP])) ?_
          rintro _ _ ⟨rfl, rfl⟩
          refine ops_turn (retell 7 (g := row v140 1 ((x_155.set s_98.toNat x153).map (eInt .i64))) rfl (congrArg (row _ _) (map_set_at rfl))) ?_
          refine ops_nil ?_
          refine goes_code ?_
          obtain rfl := some_eq h
          obtain ⟨rfl, rfl⟩ := Prod.mk.inj hp
          exact round_exit 0 () [0, 1, 2, 3, 4, 5, 6, 7, 8, 9] rfl (by decide) rfl rfl rfl
         ·replace h := cond_f h hc170
          refine run_skip ?_
          refine goes_blk ?_
          obtain rfl := some_eq h
          obtain ⟨rfl, rfl⟩ := Prod.mk.inj hp
          exact round_go () [0, 1, 2, 3, 4, 5, 6, 7, 8, 9] (by decide) rfl rfl
        ·intro hn γ
         replace h := onJump_none hn h
         change Goes _ _ (VF.of [(1, .int .i64 from_1), (2, boxP b1 0), (4, boxP b2 0), (6, boxP b32 0), (14, boxP b89 0), (100, v22), (101, .int .i64 (x_36.length : Int)), (102, .int .i64 s_98), (15, boxP b117 0), (16, boxP b118 0), (129, .func (.func 61) #[] #[boxP v150 0, boxP v151 0, boxP v152 0])]) [HA.emp, HA.emp, HA.emp, HA.emp, HA.emp, HA.emp, HA.emp, HA.emp, HA.emp, HA.emp, HA.emp, HA.emp, HA.emp, ro n_0_Arcsv 4 (n_0.Arcs.map S_api_Arc.enc), box v150 [.int .i64 n_0.Nodes, n_0_Arcsv], box v151 [.bool true], box v152 [.int .i64 s_98], box b1 [.int .i64 n_0.Nodes, n_0_Arcsv], ro n_0_Arcsv 4 (n_0.Arcs.map S_api_Arc.enc), box b2 [.slice none 0 0, .slice none 0 0, .slice none 0 0], box b32 [v22], row v22 3 (x_36.map S_graph_reached.enc), box b89 [v133, v140, .slice none 0 0], row v133 1 ((x_99 ++ ([x116.sum_] : List Int)).map (eInt .i64)), row v140 1 (r156.1.map (eInt .i64)), box b117 [.int .i64 s_98], box b118 [.bool x116.is_, .int .i64 x116.sum_, .int .i64 x116.arcs_]]
         refine goes_blk ?_
         refine goes_blk ?_
         obtain rfl := some_eq h
         exact goes_cut hL114 (((x_99 ++ ([x116.sum_] : List Int)), r156.1), (v133, v140)) [17, 18, 19, 20, 21, 22, 23, 24] (qv8 rfl rfl rfl rfl rfl rfl rfl rfl) (by decide) rfl rfl
        ·intro iJ hi
         obtain ⟨xJ, hx, h⟩ := onJump_some hi h
         rcases iJ with _ | iJ
         ·obtain rfl : _ = xJ := Option.some.inj hx
          refine ⟨.exit 7, rfl, fun γ => ?_⟩
          change Run _ _ _ (VF.of [(1, .int .i64 from_1), (2, boxP b1 0), (4, boxP b2 0), (6, boxP b32 0), (14, boxP b89 0), (100, v22), (101, .int .i64 (x_36.length : Int)), (102, .int .i64 s_98), (15, boxP b117 0), (16, boxP b118 0), (129, .func (.func 61) #[] #[boxP v150 0, boxP v151 0, boxP v152 0])]) [HA.emp, HA.emp, HA.emp, HA.emp, HA.emp, HA.emp, HA.emp, HA.emp, HA.emp, HA.emp, HA.emp, HA.emp, HA.emp, ro n_0_Arcsv 4 (n_0.Arcs.map S_api_Arc.enc), box v150 [.int .i64 n_0.Nodes, n_0_Arcsv], box v151 [.bool true], box v152 [.int .i64 s_98], box b1 [.int .i64 n_0.Nodes, n_0_Arcsv], ro n_0_Arcsv 4 (n_0.Arcs.map S_api_Arc.enc), box b2 [.slice none 0 0, .slice none 0 0, .slice none 0 0], box b32 [v22], row v22 3 (x_36.map S_graph_reached.enc), box b89 [v133, v140, .slice none 0 0], row v133 1 ((x_99 ++ ([x116.sum_] : List Int)).map (eInt .i64)), row v140 1 (r156.1.map (eInt .i64)), box b117 [.int .i64 s_98], box b118 [.bool x116.is_, .int .i64 x116.sum_, .int .i64 x116.arcs_]]
          refine run_exit _ rfl ?_
          refine goes_blk ?_
          obtain rfl := some_eq h
          exact goes_cut hL114 (((x_99 ++ ([x116.sum_] : List Int)), r156.1), (v133, v140)) [17, 18, 19, 20, 21, 22, 23, 24] (qv8 rfl rfl rfl rfl rfl rfl rfl rfl) (by decide) rfl rfl
         ·simp at hx
      refine any_cut2 #[true, true, true, true, true, true, true, true, true, true, true, true, true, false] 1 (Value × Value × Value × Value) (fun σ => [(1, .int .i64 from_1), (2, boxP b1 0), (4, boxP b2 0), (6, boxP b32 0), (14, boxP b89 0), (100, v22), (101, .int .i64 (x_36.length : Int)), (102, .int .i64 s_98), (15, boxP b117 0), (16, boxP b118 0), (116, σ.1), (118, boxP b89 1)]) (fun σ => [box b1 [.int .i64 n_0.Nodes, n_0_Arcsv], ro n_0_Arcsv 4 (n_0.Arcs.map S_api_Arc.enc), box b2 [.slice none 0 0, .slice none 0 0, .slice none 0 0], box b32 [v22], row v22 3 (x_36.map S_graph_reached.enc), box b89 [σ.2.1, v102, .slice none 0 0], row σ.2.1 1 ((x_99 ++ ([x116.sum_] : List Int)).map (eInt .i64)), row σ.1 1 ((x_100 ++ ([(-1)] : List Int)).map (eInt .i64)), box b117 [.int .i64 s_98], box b118 [.bool x116.is_, .int .i64 x116.sum_, .int .i64 x116.arcs_], row σ.2.2.1 1 (([x116.sum_] : List Int).map (eInt .i64)), row σ.2.2.2 1 (([(-1)] : List Int).map (eInt .i64))]) ?_ (fun hK172 => ?_)
      ·rintro ⟨v140, v133, v129, v139⟩
       change AnyL _ _ _ _ _ (VF.of [(1, .int .i64 from_1), (2, boxP b1 0), (4, boxP b2 0), (6, boxP b32 0), (14, boxP b89 0), (100, v22), (101, .int .i64 (x_36.length : Int)), (102, .int .i64 s_98), (15, boxP b117 0), (16, boxP b118 0), (116, v140), (118, boxP b89 1)]) [box b1 [.int .i64 n_0.Nodes, n_0_Arcsv], ro n_0_Arcsv 4 (n_0.Arcs.map S_api_Arc.enc), box b2 [.slice none 0 0, .slice none 0 0, .slice none 0 0], box b32 [v22], row v22 3 (x_36.map S_graph_reached.enc), box b89 [v133, v102, .slice none 0 0], row v133 1 ((x_99 ++ ([x116.sum_] : List Int)).map (eInt .i64)), row v140 1 ((x_100 ++ ([(-1)] : List Int)).map (eInt .i64)), box b117 [.int .i64 s_98], box b118 [.bool x116.is_, .int .i64 x116.sum_, .int .i64 x116.arcs_], row v129 1 (([x116.sum_] : List Int).map (eInt .i64)), row v139 1 (([(-1)] : List Int).map (eInt .i64))] _
       refine any_all [13] (by kernel_rfl) rfl ?_
       refine anyo_cons ?_ ?_
       ·
        refine anyo_slc 7 rfl reads_row (fun hs173 hs173o => ?_)
        refine any_t rfl (wn rfl) rfl (t_store 5 Try.sizeOf34 rfl rfl rfl (by rw [hs173]; rfl) (by simp [Value.cells, boxP]) (by rw [hs173]; intro u hu; replace hu : u ∈ ([v140] : List Value) := hu; simp only [List.mem_cons, List.not_mem_nil, or_false] at hu; rcases hu with rfl <;> first | rfl | assumption)) ?_
        rintro _ _ ⟨rfl, rfl⟩
        refine ⟨(ss (ss (ss (ss (ss (se (se (se (ss (ss (sn))))))))))), ?_⟩
        refine any_turn (retell 5 (g := box b89 [v133, v140, .slice none 0 0]) rfl (by rw [hs173]; rfl)) ?_
        exact any_weak2 (hK143 (v133, v140, v129, v139)) [0, 1, 2, 3, 4, 5, 6, 7, 8, 9, 10, 11] (by kernel_rfl) (qv10 rfl rfl rfl rfl rfl rfl rfl rfl rfl rfl) (by decide) rfl
       exact anyo_nil
      refine any_cut2 #[true, true, true, true, true, true, true, true, true, true, true, false, false, false] 3 (Value × Value × Value × Value) (fun σ => [(1, .int .i64 from_1), (2, boxP b1 0), (4, boxP b2 0), (6, boxP b32 0), (14, boxP b89 0), (100, v22), (101, .int .i64 (x_36.length : Int)), (102, .int .i64 s_98), (15, boxP b117 0), (16, boxP b118 0), (112, σ.1), (117, boxP b89 0), (116, σ.2.1)]) (fun σ => [box b1 [.int .i64 n_0.Nodes, n_0_Arcsv], ro n_0_Arcsv 4 (n_0.Arcs.map S_api_Arc.enc), box b2 [.slice none 0 0, .slice none 0 0, .slice none 0 0], box b32 [v22], row v22 3 (x_36.map S_graph_reached.enc), box b89 [v101, v102, .slice none 0 0], row σ.1 1 ((x_99 ++ ([x116.sum_] : List Int)).map (eInt .i64)), row σ.2.1 1 ((x_100 ++ ([(-1)] : List Int)).map (eInt .i64)), box b117 [.int .i64 s_98], box b118 [.bool x116.is_, .int .i64 x116.sum_, .int .i64 x116.arcs_], row σ.2.2.1 1 (([x116.sum_] : List Int).map (eInt .i64)), row σ.2.2.2 1 (([(-1)] : List Int).map (eInt .i64))]) ?_ (fun hK174 => ?_)
      ·rintro ⟨v133, v140, v129, v139⟩
       change AnyL _ _ _ _ _ (VF.of [(1, .int .i64 from_1), (2, boxP b1 0), (4, boxP b2 0), (6, boxP b32 0), (14, boxP b89 0), (100, v22), (101, .int .i64 (x_36.length : Int)), (102, .int .i64 s_98), (15, boxP b117 0), (16, boxP b118 0), (112, v133), (117, boxP b89 0), (116, v140)]) [box b1 [.int .i64 n_0.Nodes, n_0_Arcsv], ro n_0_Arcsv 4 (n_0.Arcs.map S_api_Arc.enc), box b2 [.slice none 0 0, .slice none 0 0, .slice none 0 0], box b32 [v22], row v22 3 (x_36.map S_graph_reached.enc), box b89 [v101, v102, .slice none 0 0], row v133 1 ((x_99 ++ ([x116.sum_] : List Int)).map (eInt .i64)), row v140 1 ((x_100 ++ ([(-1)] : List Int)).map (eInt .i64)), box b117 [.int .i64 s_98], box b118 [.bool x116.is_, .int .i64 x116.sum_, .int .i64 x116.arcs_], row v129 1 (([x116.sum_] : List Int).map (eInt .i64)), row v139 1 (([(-1)] : List Int).map (eInt .i64))] _
       refine any_all [11] (by kernel_rfl) rfl ?_
       refine anyo_cons ?_ ?_
       ·
        refine anyo_slc 6 rfl reads_row (fun hs175 hs175o => ?_)
        refine any_t rfl (wn rfl) rfl (t_store 5 Try.sizeOf34 rfl rfl rfl (by rw [hs175]; rfl) (by simp [Value.cells, boxP]) (by rw [hs175]; intro u hu; replace hu : u ∈ ([v133] : List Value) := hu; simp only [List.mem_cons, List.not_mem_nil, or_false] at hu; rcases hu with rfl <;> first | rfl | assumption)) ?_
        rintro _ _ ⟨rfl, rfl⟩
        refine ⟨(ss (ss (ss (ss (ss (se (se (se (ss (ss (sn))))))))))), ?_⟩
        refine any_turn (retell 5 (g := box b89 [v133, v102, .slice none 0 0]) rfl (by rw [hs175]; rfl)) ?_
        refine any_y 12 rfl (by kernel_rfl) (by kernel_rfl) (by kernel_rfl) (ss (ss (ss (ss (ss (se (se (se (ss (ss (sn))))))))))) (wn rfl) rfl (y_fieldAddr_box (sz := 0) Try.runUnderlying51 rfl Try.sizeOf34 rfl) ?_
        exact any_weak2 (hK172 (v140, v133, v129, v139)) [0, 1, 2, 3, 4, 5, 6, 7, 8, 9, 10, 11] (by kernel_rfl) (qv12 rfl rfl rfl rfl rfl rfl rfl rfl rfl rfl rfl rfl) (by decide) rfl
       exact anyo_nil
      refine any_cut2 #[true, true, true, true, true, true, true, true, true, false, true, false, false, false] 4 (Value × Value × Value) (fun σ => [(1, .int .i64 from_1), (2, boxP b1 0), (4, boxP b2 0), (6, boxP b32 0), (14, boxP b89 0), (100, v22), (101, .int .i64 (x_36.length : Int)), (102, .int .i64 s_98), (15, boxP b117 0), (16, boxP b118 0), (112, σ.1), (114, v102), (117, boxP b89 0), (115, σ.2.1)]) (fun σ => [box b1 [.int .i64 n_0.Nodes, n_0_Arcsv], ro n_0_Arcsv 4 (n_0.Arcs.map S_api_Arc.enc), box b2 [.slice none 0 0, .slice none 0 0, .slice none 0 0], box b32 [v22], row v22 3 (x_36.map S_graph_reached.enc), box b89 [v101, v102, .slice none 0 0], row σ.1 1 ((x_99 ++ ([x116.sum_] : List Int)).map (eInt .i64)), row v102 1 (x_100.map (eInt .i64)), box b117 [.int .i64 s_98], box b118 [.bool x116.is_, .int .i64 x116.sum_, .int .i64 x116.arcs_], row σ.2.2 1 (([x116.sum_] : List Int).map (eInt .i64)), row σ.2.1 1 (([(-1)] : List Int).map (eInt .i64))]) ?_ (fun hK176 => ?_)
      ·rintro ⟨v133, v139, v129⟩
       change AnyL _ _ _ _ _ (VF.of [(1, .int .i64 from_1), (2, boxP b1 0), (4, boxP b2 0), (6, boxP b32 0), (14, boxP b89 0), (100, v22), (101, .int .i64 (x_36.length : Int)), (102, .int .i64 s_98), (15, boxP b117 0), (16, boxP b118 0), (112, v133), (114, v102), (117, boxP b89 0), (115, v139)]) [box b1 [.int .i64 n_0.Nodes, n_0_Arcsv], ro n_0_Arcsv 4 (n_0.Arcs.map S_api_Arc.enc), box b2 [.slice none 0 0, .slice none 0 0, .slice none 0 0], box b32 [v22], row v22 3 (x_36.map S_graph_reached.enc), box b89 [v101, v102, .slice none 0 0], row v133 1 ((x_99 ++ ([x116.sum_] : List Int)).map (eInt .i64)), row v102 1 (x_100.map (eInt .i64)), box b117 [.int .i64 s_98], box b118 [.bool x116.is_, .int .i64 x116.sum_, .int .i64 x116.arcs_], row v129 1 (([x116.sum_] : List Int).map (eInt .i64)), row v139 1 (([(-1)] : List Int).map (eInt .i64))] _
       refine any_all [9] (by kernel_rfl) rfl ?_
       refine anyo_cons ?_ ?_
       ·
        refine any_t rfl (wn rfl) rfl (t_append (es := 1) 7 rfl Try.runUnderlying34 rfl Try.runUnderlying34 (.inr ⟨_, rfl⟩) Try.typeInfo3 rfl (by decide) Try.zeroValue3 rfl rfl rfl rfl (src_reads 11 rfl reads_row (map_ok (eInt_ok _) _)) (map_room hr124 (by decide)) (map_fit hr124)) ?_
        rintro v177 _ rfl
        refine ⟨(ss (ss (ss (ss (ss (se (se (se (ss (ss (sn))))))))))), ?_⟩
        refine any_turn (retell 7 (g := row v177 1 ((x_100 ++ ([(-1)] : List Int)).map (eInt .i64))) rfl (congrArg (row _ _) List.map_append.symm)) ?_
        exact any_weak2 (hK174 (v133, v177, v129, v139)) [0, 1, 2, 3, 4, 5, 6, 7, 8, 9, 10, 11] (by kernel_rfl) (qw6 rfl rfl rfl rfl rfl rfl (qv7 rfl rfl rfl rfl rfl rfl rfl)) (by decide) rfl
       exact anyo_nil
      refine any_cut2 #[true, true, true, true, true, true, true, true, false, false, true, false, false, false] 5 (Value × Value) (fun σ => [(1, .int .i64 from_1), (2, boxP b1 0), (4, boxP b2 0), (6, boxP b32 0), (14, boxP b89 0), (100, v22), (101, .int .i64 (x_36.length : Int)), (102, .int .i64 s_98), (15, boxP b117 0), (16, boxP b118 0), (112, σ.1), (114, v102), (117, boxP b89 0)]) (fun σ => [box b1 [.int .i64 n_0.Nodes, n_0_Arcsv], ro n_0_Arcsv 4 (n_0.Arcs.map S_api_Arc.enc), box b2 [.slice none 0 0, .slice none 0 0, .slice none 0 0], box b32 [v22], row v22 3 (x_36.map S_graph_reached.enc), box b89 [v101, v102, .slice none 0 0], row σ.1 1 ((x_99 ++ ([x116.sum_] : List Int)).map (eInt .i64)), row v102 1 (x_100.map (eInt .i64)), box b117 [.int .i64 s_98], box b118 [.bool x116.is_, .int .i64 x116.sum_, .int .i64 x116.arcs_], row σ.2 1 (([x116.sum_] : List Int).map (eInt .i64))]) ?_ (fun hK178 => ?_)
      ·rintro ⟨v133, v129⟩
       change AnyL _ _ _ _ _ (VF.of [(1, .int .i64 from_1), (2, boxP b1 0), (4, boxP b2 0), (6, boxP b32 0), (14, boxP b89 0), (100, v22), (101, .int .i64 (x_36.length : Int)), (102, .int .i64 s_98), (15, boxP b117 0), (16, boxP b118 0), (112, v133), (114, v102), (117, boxP b89 0)]) [box b1 [.int .i64 n_0.Nodes, n_0_Arcsv], ro n_0_Arcsv 4 (n_0.Arcs.map S_api_Arc.enc), box b2 [.slice none 0 0, .slice none 0 0, .slice none 0 0], box b32 [v22], row v22 3 (x_36.map S_graph_reached.enc), box b89 [v101, v102, .slice none 0 0], row v133 1 ((x_99 ++ ([x116.sum_] : List Int)).map (eInt .i64)), row v102 1 (x_100.map (eInt .i64)), box b117 [.int .i64 s_98], box b118 [.bool x116.is_, .int .i64 x116.sum_, .int .i64 x116.arcs_], row v129 1 (([x116.sum_] : List Int).map (eInt .i64))] _
       refine any_all [8] (by kernel_rfl) rfl ?_
       refine anyo_cons ?_ ?_
       ·
        refine any_t rfl (wn rfl) rfl (t_lit [.int .i64 (-1)] Try.runUnderlying34 Try.sizeOf3 Try.zeroValue3 rfl (by decide) (by decide) rfl (by simp [Value.cells, boxP])) ?_
        rintro v179 _ ⟨rfl, _⟩
        refine ⟨(ss (ss (ss (ss (ss (se (se (se (ss (ss (sn))))))))))), ?_⟩
        refine any_turn (retell 11 (g := row v179 1 (([(-1)] : List Int).map (eInt .i64))) rfl rfl) ?_
        exact any_weak2 (hK176 (v133, v179, v129)) [0, 1, 2, 3, 4, 5, 6, 7, 8, 9, 10, 11] (by kernel_rfl) (qw6 rfl rfl rfl rfl rfl rfl (qv8 rfl rfl rfl rfl rfl rfl rfl rfl)) (by decide) rfl
       exact anyo_nil
      refine any_cut2 #[true, true, true, true, true, true, true, false, true, false, false, false, false, false] 6 (Value × Value × Value) (fun σ => [(1, .int .i64 from_1), (2, boxP b1 0), (4, boxP b2 0), (6, boxP b32 0), (14, boxP b89 0), (100, v22), (101, .int .i64 (x_36.length : Int)), (102, .int .i64 s_98), (15, boxP b117 0), (16, boxP b118 0), (113, boxP b89 1), (112, σ.1), (115, σ.2.1)]) (fun σ => [box b1 [.int .i64 n_0.Nodes, n_0_Arcsv], ro n_0_Arcsv 4 (n_0.Arcs.map S_api_Arc.enc), box b2 [.slice none 0 0, .slice none 0 0, .slice none 0 0], box b32 [v22], row v22 3 (x_36.map S_graph_reached.enc), box b89 [v101, v102, .slice none 0 0], row σ.1 1 ((x_99 ++ ([x116.sum_] : List Int)).map (eInt .i64)), row v102 1 (x_100.map (eInt .i64)), box b117 [.int .i64 s_98], box b118 [.bool x116.is_, .int .i64 x116.sum_, .int .i64 x116.arcs_], row σ.2.2 1 (([x116.sum_] : List Int).map (eInt .i64)), row σ.2.1 1 (([(-1)] : List Int).map (eInt .i64))]) ?_ (fun hK180 => ?_)
      ·rintro ⟨v133, v137, v129⟩
       change AnyL _ _ _ _ _ (VF.of [(1, .int .i64 from_1), (2, boxP b1 0), (4, boxP b2 0), (6, boxP b32 0), (14, boxP b89 0), (100, v22), (101, .int .i64 (x_36.length : Int)), (102, .int .i64 s_98), (15, boxP b117 0), (16, boxP b118 0), (113, boxP b89 1), (112, v133), (115, v137)]) [box b1 [.int .i64 n_0.Nodes, n_0_Arcsv], ro n_0_Arcsv 4 (n_0.Arcs.map S_api_Arc.enc), box b2 [.slice none 0 0, .slice none 0 0, .slice none 0 0], box b32 [v22], row v22 3 (x_36.map S_graph_reached.enc), box b89 [v101, v102, .slice none 0 0], row v133 1 ((x_99 ++ ([x116.sum_] : List Int)).map (eInt .i64)), row v102 1 (x_100.map (eInt .i64)), box b117 [.int .i64 s_98], box b118 [.bool x116.is_, .int .i64 x116.sum_, .int .i64 x116.arcs_], row v129 1 (([x116.sum_] : List Int).map (eInt .i64)), row v137 1 (([(-1)] : List Int).map (eInt .i64))] _
       refine any_all [7] (by kernel_rfl) rfl ?_
       refine anyo_cons ?_ ?_
       ·
        refine any_ty rfl (wn rfl) rfl (y_load_box 5 Try.isAgg34 rfl rfl rfl) ⟨(ss (ss (ss (ss (ss (se (se (se (ss (ss (sn))))))))))), ?_⟩
        refine any_y 10 rfl (by kernel_rfl) (by kernel_rfl) (by kernel_rfl) (ss (ss (ss (ss (ss (se (se (se (ss (ss (sn))))))))))) (wn rfl) rfl (y_fieldAddr_box (sz := 0) Try.runUnderlying51 rfl Try.sizeOf34 rfl) ?_
        exact any_weak2 (hK176 (v133, v137, v129)) [0, 1, 2, 3, 4, 5, 6, 7, 8, 9, 10, 11] (by kernel_rfl) (qw6 rfl rfl rfl rfl rfl rfl (qv8 rfl rfl rfl rfl rfl rfl rfl rfl)) (by decide) rfl
       exact anyo_nil
      refine any_cut2 #[true, true, true, true, true, false, true, true, true, false, false, false, false, false] 6 (Value × Value) (fun σ => [(1, .int .i64 from_1), (2, boxP b1 0), (4, boxP b2 0), (6, boxP b32 0), (14, boxP b89 0), (100, v22), (101, .int .i64 (x_36.length : Int)), (102, .int .i64 s_98), (15, boxP b117 0), (16, boxP b118 0), (108, v101), (111, σ.1), (114, v102), (115, σ.2)]) (fun σ => [box b1 [.int .i64 n_0.Nodes, n_0_Arcsv], ro n_0_Arcsv 4 (n_0.Arcs.map S_api_Arc.enc), box b2 [.slice none 0 0, .slice none 0 0, .slice none 0 0], box b32 [v22], row v22 3 (x_36.map S_graph_reached.enc), box b89 [v101, v102, .slice none 0 0], row v101 1 (x_99.map (eInt .i64)), row v102 1 (x_100.map (eInt .i64)), box b117 [.int .i64 s_98], box b118 [.bool x116.is_, .int .i64 x116.sum_, .int .i64 x116.arcs_], row σ.1 1 (([x116.sum_] : List Int).map (eInt .i64)), row σ.2 1 (([(-1)] : List Int).map (eInt .i64))]) ?_ (fun hK181 => ?_)
      ·rintro ⟨v129, v138⟩
       change AnyL _ _ _ _ _ (VF.of [(1, .int .i64 from_1), (2, boxP b1 0), (4, boxP b2 0), (6, boxP b32 0), (14, boxP b89 0), (100, v22), (101, .int .i64 (x_36.length : Int)), (102, .int .i64 s_98), (15, boxP b117 0), (16, boxP b118 0), (108, v101), (111, v129), (114, v102), (115, v138)]) [box b1 [.int .i64 n_0.Nodes, n_0_Arcsv], ro n_0_Arcsv 4 (n_0.Arcs.map S_api_Arc.enc), box b2 [.slice none 0 0, .slice none 0 0, .slice none 0 0], box b32 [v22], row v22 3 (x_36.map S_graph_reached.enc), box b89 [v101, v102, .slice none 0 0], row v101 1 (x_99.map (eInt .i64)), row v102 1 (x_100.map (eInt .i64)), box b117 [.int .i64 s_98], box b118 [.bool x116.is_, .int .i64 x116.sum_, .int .i64 x116.arcs_], row v129 1 (([x116.sum_] : List Int).map (eInt .i64)), row v138 1 (([(-1)] : List Int).map (eInt .i64))] _
       refine any_all [5] (by kernel_rfl) rfl ?_
       refine anyo_cons ?_ ?_
       ·
        refine any_t rfl (wn rfl) rfl (t_append (es := 1) 6 rfl Try.runUnderlying34 rfl Try.runUnderlying34 (.inr ⟨_, rfl⟩) Try.typeInfo3 rfl (by decide) Try.zeroValue3 rfl rfl rfl rfl (src_reads 10 rfl reads_row (map_ok (eInt_ok _) _)) (map_room hr121 (by decide)) (map_fit hr121)) ?_
        rintro v182 _ rfl
        refine ⟨(ss (ss (ss (ss (ss (se (se (se (ss (ss (sn))))))))))), ?_⟩
        refine any_turn (retell 6 (g := row v182 1 ((x_99 ++ ([x116.sum_] : List Int)).map (eInt .i64))) rfl (congrArg (row _ _) List.map_append.symm)) ?_
        refine any_y 10 rfl (by kernel_rfl) (by kernel_rfl) (by kernel_rfl) (ss (ss (ss (ss (ss (se (se (se (ss (ss (sn))))))))))) (wn rfl) rfl (y_fieldAddr_box (sz := 0) Try.runUnderlying51 rfl Try.sizeOf34 rfl) ?_
        exact any_weak2 (hK176 (v182, v138, v129)) [0, 1, 2, 3, 4, 5, 6, 7, 8, 9, 10, 11] (by kernel_rfl) (qw6 rfl rfl rfl rfl rfl rfl (qv8 rfl rfl rfl rfl rfl rfl rfl rfl)) (by decide) rfl
       exact anyo_nil
      refine any_cut2 #[true, true, true, true, true, true, true, false, false, false, false, false, false, false] 7 (Value × Value) (fun σ => [(1, .int .i64 from_1), (2, boxP b1 0), (4, boxP b2 0), (6, boxP b32 0), (14, boxP b89 0), (100, v22), (101, .int .i64 (x_36.length : Int)), (102, .int .i64 s_98), (15, boxP b117 0), (16, boxP b118 0), (113, boxP b89 1), (112, σ.1)]) (fun σ => [box b1 [.int .i64 n_0.Nodes, n_0_Arcsv], ro n_0_Arcsv 4 (n_0.Arcs.map S_api_Arc.enc), box b2 [.slice none 0 0, .slice none 0 0, .slice none 0 0], box b32 [v22], row v22 3 (x_36.map S_graph_reached.enc), box b89 [v101, v102, .slice none 0 0], row σ.1 1 ((x_99 ++ ([x116.sum_] : List Int)).map (eInt .i64)), row v102 1 (x_100.map (eInt .i64)), box b117 [.int .i64 s_98], box b118 [.bool x116.is_, .int .i64 x116.sum_, .int .i64 x116.arcs_], row σ.2 1 (([x116.sum_] : List Int).map (eInt .i64))]) ?_ (fun hK183 => ?_)
      ·rintro ⟨v133, v129⟩
       change AnyL _ _ _ _ _ (VF.of [(1, .int .i64 from_1), (2, boxP b1 0), (4, boxP b2 0), (6, boxP b32 0), (14, boxP b89 0), (100, v22), (101, .int .i64 (x_36.length : Int)), (102, .int .i64 s_98), (15, boxP b117 0), (16, boxP b118 0), (113, boxP b89 1), (112, v133)]) [box b1 [.int .i64 n_0.Nodes, n_0_Arcsv], ro n_0_Arcsv 4 (n_0.Arcs.map S_api_Arc.enc), box b2 [.slice none 0 0, .slice none 0 0, .slice none 0 0], box b32 [v22], row v22 3 (x_36.map S_graph_reached.enc), box b89 [v101, v102, .slice none 0 0], row v133 1 ((x_99 ++ ([x116.sum_] : List Int)).map (eInt .i64)), row v102 1 (x_100.map (eInt .i64)), box b117 [.int .i64 s_98], box b118 [.bool x116.is_, .int .i64 x116.sum_, .int .i64 x116.arcs_], row v129 1 (([x116.sum_] : List Int).map (eInt .i64))] _
       refine any_all [7, 8] (by kernel_rfl) rfl ?_
       refine anyo_cons ?_ ?_
       ·
        refine any_ty rfl (wn rfl) rfl (y_load_box 5 Try.isAgg34 rfl rfl rfl) ⟨(ss (ss (ss (ss (ss (se (se (se (ss (ss (sn))))))))))), ?_⟩
        refine any_y 10 rfl (by kernel_rfl) (by kernel_rfl) (by kernel_rfl) (ss (ss (ss (ss (ss (se (se (se (ss (ss (sn))))))))))) (wn rfl) rfl (y_fieldAddr_box (sz := 0) Try.runUnderlying51 rfl Try.sizeOf34 rfl) ?_
        exact any_weak2 (hK178 (v133, v129)) [0, 1, 2, 3, 4, 5, 6, 7, 8, 9, 10] (by kernel_rfl) (qw6 rfl rfl rfl rfl rfl rfl (qv7 rfl rfl rfl rfl rfl rfl rfl)) (by decide) rfl
       refine anyo_cons ?_ ?_
       ·
        refine any_t rfl (wn rfl) rfl (t_lit [.int .i64 (-1)] Try.runUnderlying34 Try.sizeOf3 Try.zeroValue3 rfl (by decide) (by decide) rfl (by simp [Value.cells, boxP])) ?_
        rintro v184 _ ⟨rfl, _⟩
        refine ⟨(ss (ss (ss (ss (ss (se (se (se (ss (ss (sn))))))))))), ?_⟩
        refine any_turn (retell 11 (g := row v184 1 (([(-1)] : List Int).map (eInt .i64))) rfl rfl) ?_
        exact any_weak2 (hK180 (v133, v184, v129)) [0, 1, 2, 3, 4, 5, 6, 7, 8, 9, 10, 11] (by kernel_rfl) (qw6 rfl rfl rfl rfl rfl rfl (qv7 rfl rfl rfl rfl rfl rfl rfl)) (by decide) rfl
       exact anyo_nil
      refine any_cut2 #[true, true, true, true, true, false, true, true, false, false, false, false, false, false] 7 (Value) (fun σ => [(1, .int .i64 from_1), (2, boxP b1 0), (4, boxP b2 0), (6, boxP b32 0), (14, boxP b89 0), (100, v22), (101, .int .i64 (x_36.length : Int)), (102, .int .i64 s_98), (15, boxP b117 0), (16, boxP b118 0), (108, v101), (111, σ), (114, v102)]) (fun σ => [box b1 [.int .i64 n_0.Nodes, n_0_Arcsv], ro n_0_Arcsv 4 (n_0.Arcs.map S_api_Arc.enc), box b2 [.slice none 0 0, .slice none 0 0, .slice none 0 0], box b32 [v22], row v22 3 (x_36.map S_graph_reached.enc), box b89 [v101, v102, .slice none 0 0], row v101 1 (x_99.map (eInt .i64)), row v102 1 (x_100.map (eInt .i64)), box b117 [.int .i64 s_98], box b118 [.bool x116.is_, .int .i64 x116.sum_, .int .i64 x116.arcs_], row σ 1 (([x116.sum_] : List Int).map (eInt .i64))]) ?_ (fun hK185 => ?_)
      ·rintro v129
       change AnyL _ _ _ _ _ (VF.of [(1, .int .i64 from_1), (2, boxP b1 0), (4, boxP b2 0), (6, boxP b32 0), (14, boxP b89 0), (100, v22), (101, .int .i64 (x_36.length : Int)), (102, .int .i64 s_98), (15, boxP b117 0), (16, boxP b118 0), (108, v101), (111, v129), (114, v102)]) [box b1 [.int .i64 n_0.Nodes, n_0_Arcsv], ro n_0_Arcsv 4 (n_0.Arcs.map S_api_Arc.enc), box b2 [.slice none 0 0, .slice none 0 0, .slice none 0 0], box b32 [v22], row v22 3 (x_36.map S_graph_reached.enc), box b89 [v101, v102, .slice none 0 0], row v101 1 (x_99.map (eInt .i64)), row v102 1 (x_100.map (eInt .i64)), box b117 [.int .i64 s_98], box b118 [.bool x116.is_, .int .i64 x116.sum_, .int .i64 x116.arcs_], row v129 1 (([x116.sum_] : List Int).map (eInt .i64))] _
       refine any_all [5, 8] (by kernel_rfl) rfl ?_
       refine anyo_cons ?_ ?_
       ·
        refine any_t rfl (wn rfl) rfl (t_append (es := 1) 6 rfl Try.runUnderlying34 rfl Try.runUnderlying34 (.inr ⟨_, rfl⟩) Try.typeInfo3 rfl (by decide) Try.zeroValue3 rfl rfl rfl rfl (src_reads 10 rfl reads_row (map_ok (eInt_ok _) _)) (map_room hr121 (by decide)) (map_fit hr121)) ?_
        rintro v186 _ rfl
        refine ⟨(ss (ss (ss (ss (ss (se (se (se (ss (ss (sn))))))))))), ?_⟩
        refine any_turn (retell 6 (g := row v186 1 ((x_99 ++ ([x116.sum_] : List Int)).map (eInt .i64))) rfl (congrArg (row _ _) List.map_append.symm)) ?_
        refine any_y 10 rfl (by kernel_rfl) (by kernel_rfl) (by kernel_rfl) (ss (ss (ss (ss (ss (se (se (se (ss (ss (sn))))))))))) (wn rfl) rfl (y_fieldAddr_box (sz := 0) Try.runUnderlying51 rfl Try.sizeOf34 rfl) ?_
        exact any_weak2 (hK178 (v186, v129)) [0, 1, 2, 3, 4, 5, 6, 7, 8, 9, 10] (by kernel_rfl) (qw6 rfl rfl rfl rfl rfl rfl (qv7 rfl rfl rfl rfl rfl rfl rfl)) (by decide) rfl
       refine anyo_cons ?_ ?_
       ·
        refine any_t rfl (wn rfl) rfl (t_lit [.int .i64 (-1)] Try.runUnderlying34 Try.sizeOf3 Try.zeroValue3 rfl (by decide) (by decide) rfl (by simp [Value.cells, boxP])) ?_
        rintro v187 _ ⟨rfl, _⟩
        refine ⟨(ss (ss (ss (ss (ss (se (se (se (ss (ss (sn))))))))))), ?_⟩
        refine any_turn (retell 11 (g := row v187 1 (([(-1)] : List Int).map (eInt .i64))) rfl rfl) ?_
        exact any_weak2 (hK181 (v129, v187)) [0, 1, 2, 3, 4, 5, 6, 7, 8, 9, 10, 11] (by kernel_rfl) (qw6 rfl rfl rfl rfl rfl rfl (qv8 rfl rfl rfl rfl rfl rfl rfl rfl)) (by decide) rfl
       exact anyo_nil
      refine any_cut2 #[true, true, true, true, true, false, true, false, true, false, false, false, false, false] 7 (Value × Value) (fun σ => [(1, .int .i64 from_1), (2, boxP b1 0), (4, boxP b2 0), (6, boxP b32 0), (14, boxP b89 0), (100, v22), (101, .int .i64 (x_36.length : Int)), (102, .int .i64 s_98), (15, boxP b117 0), (16, boxP b118 0), (113, boxP b89 1), (108, v101), (111, σ.1), (115, σ.2)]) (fun σ => [box b1 [.int .i64 n_0.Nodes, n_0_Arcsv], ro n_0_Arcsv 4 (n_0.Arcs.map S_api_Arc.enc), box b2 [.slice none 0 0, .slice none 0 0, .slice none 0 0], box b32 [v22], row v22 3 (x_36.map S_graph_reached.enc), box b89 [v101, v102, .slice none 0 0], row v101 1 (x_99.map (eInt .i64)), row v102 1 (x_100.map (eInt .i64)), box b117 [.int .i64 s_98], box b118 [.bool x116.is_, .int .i64 x116.sum_, .int .i64 x116.arcs_], row σ.1 1 (([x116.sum_] : List Int).map (eInt .i64)), row σ.2 1 (([(-1)] : List Int).map (eInt .i64))]) ?_ (fun hK188 => ?_)
      ·rintro ⟨v129, v134⟩
       change AnyL _ _ _ _ _ (VF.of [(1, .int .i64 from_1), (2, boxP b1 0), (4, boxP b2 0), (6, boxP b32 0), (14, boxP b89 0), (100, v22), (101, .int .i64 (x_36.length : Int)), (102, .int .i64 s_98), (15, boxP b117 0), (16, boxP b118 0), (113, boxP b89 1), (108, v101), (111, v129), (115, v134)]) [box b1 [.int .i64 n_0.Nodes, n_0_Arcsv], ro n_0_Arcsv 4 (n_0.Arcs.map S_api_Arc.enc), box b2 [.slice none 0 0, .slice none 0 0, .slice none 0 0], box b32 [v22], row v22 3 (x_36.map S_graph_reached.enc), box b89 [v101, v102, .slice none 0 0], row v101 1 (x_99.map (eInt .i64)), row v102 1 (x_100.map (eInt .i64)), box b117 [.int .i64 s_98], box b118 [.bool x116.is_, .int .i64 x116.sum_, .int .i64 x116.arcs_], row v129 1 (([x116.sum_] : List Int).map (eInt .i64)), row v134 1 (([(-1)] : List Int).map (eInt .i64))] _
       refine any_all [5, 7] (by kernel_rfl) rfl ?_
       refine anyo_cons ?_ ?_
       ·
        refine any_t rfl (wn rfl) rfl (t_append (es := 1) 6 rfl Try.runUnderlying34 rfl Try.runUnderlying34 (.inr ⟨_, rfl⟩) Try.typeInfo3 rfl (by decide) Try.zeroValue3 rfl rfl rfl rfl (src_reads 10 rfl reads_row (map_ok (eInt_ok _) _)) (map_room hr121 (by decide)) (map_fit hr121)) ?_
        rintro v189 _ rfl
        refine ⟨(ss (ss (ss (ss (ss (se (se (se (ss (ss (sn))))))))))), ?_⟩
        refine any_turn (retell 6 (g := row v189 1 ((x_99 ++ ([x116.sum_] : List Int)).map (eInt .i64))) rfl (congrArg (row _ _) List.map_append.symm)) ?_
        exact any_weak2 (hK180 (v189, v134, v129)) [0, 1, 2, 3, 4, 5, 6, 7, 8, 9, 10, 11] (by kernel_rfl) (qw6 rfl rfl rfl rfl rfl rfl (qv7 rfl rfl rfl rfl rfl rfl rfl)) (by decide) rfl
       refine anyo_cons ?_ ?_
       ·
        refine any_ty rfl (wn rfl) rfl (y_load_box 5 Try.isAgg34 rfl rfl rfl) ⟨(ss (ss (ss (ss (ss (se (se (se (ss (ss (sn))))))))))), ?_⟩
        exact any_weak2 (hK181 (v129, v134)) [0, 1, 2, 3, 4, 5, 6, 7, 8, 9, 10, 11] (by kernel_rfl) (qw6 rfl rfl rfl rfl rfl rfl (qv8 rfl rfl rfl rfl rfl rfl rfl rfl)) (by decide) rfl
       exact anyo_nil
      refine any_cut2 #[true, true, true, true, false, false, true, true, true, false, false, false, false, false] 7 (Value) (fun σ => [(1, .int .i64 from_1), (2, boxP b1 0), (4, boxP b2 0), (6, boxP b32 0), (14, boxP b89 0), (100, v22), (101, .int .i64 (x_36.length : Int)), (102, .int .i64 s_98), (15, boxP b117 0), (16, boxP b118 0), (110, .int .i64 x116.sum_), (108, v101), (114, v102), (115, σ)]) (fun σ => [box b1 [.int .i64 n_0.Nodes, n_0_Arcsv], ro n_0_Arcsv 4 (n_0.Arcs.map S_api_Arc.enc), box b2 [.slice none 0 0, .slice none 0 0, .slice none 0 0], box b32 [v22], row v22 3 (x_36.map S_graph_reached.enc), box b89 [v101, v102, .slice none 0 0], row v101 1 (x_99.map (eInt .i64)), row v102 1 (x_100.map (eInt .i64)), box b117 [.int .i64 s_98], box b118 [.bool x116.is_, .int .i64 x116.sum_, .int .i64 x116.arcs_], row σ 1 (([(-1)] : List Int).map (eInt .i64))]) ?_ (fun hK190 => ?_)
      ·rintro v135
       change AnyL _ _ _ _ _ (VF.of [(1, .int .i64 from_1), (2, boxP b1 0), (4, boxP b2 0), (6, boxP b32 0), (14, boxP b89 0), (100, v22), (101, .int .i64 (x_36.length : Int)), (102, .int .i64 s_98), (15, boxP b117 0), (16, boxP b118 0), (110, .int .i64 x116.sum_), (108, v101), (114, v102), (115, v135)]) [box b1 [.int .i64 n_0.Nodes, n_0_Arcsv], ro n_0_Arcsv 4 (n_0.Arcs.map S_api_Arc.enc), box b2 [.slice none 0 0, .slice none 0 0, .slice none 0 0], box b32 [v22], row v22 3 (x_36.map S_graph_reached.enc), box b89 [v101, v102, .slice none 0 0], row v101 1 (x_99.map (eInt .i64)), row v102 1 (x_100.map (eInt .i64)), box b117 [.int .i64 s_98], box b118 [.bool x116.is_, .int .i64 x116.sum_, .int .i64 x116.arcs_], row v135 1 (([(-1)] : List Int).map (eInt .i64))] _
       refine any_all [4] (by kernel_rfl) rfl ?_
       refine anyo_cons ?_ ?_
       ·
        refine any_t rfl (wn rfl) rfl (t_lit [.int .i64 x116.sum_] Try.runUnderlying34 Try.sizeOf3 Try.zeroValue3 rfl (by decide) (by decide) rfl (by simp [Value.cells, boxP])) ?_
        rintro v191 _ ⟨rfl, _⟩
        refine ⟨(ss (ss (ss (ss (ss (se (se (se (ss (ss (sn))))))))))), ?_⟩
        refine any_turn (retell 11 (g := row v191 1 (([x116.sum_] : List Int).map (eInt .i64))) rfl rfl) ?_
        exact any_weak2 (hK181 (v191, v135)) [0, 1, 2, 3, 4, 5, 6, 7, 8, 9, 11, 10] (by kernel_rfl) (qw6 rfl rfl rfl rfl rfl rfl (qv8 rfl rfl rfl rfl rfl rfl rfl rfl)) (by decide) rfl
       exact anyo_nil
      refine any_cut2 #[true, false, true, true, true, false, true, true, true, false, false, false, false, false] 7 (Value × Value) (fun σ => [(1, .int .i64 from_1), (2, boxP b1 0), (4, boxP b2 0), (6, boxP b32 0), (14, boxP b89 0), (100, v22), (101, .int .i64 (x_36.length : Int)), (102, .int .i64 s_98), (15, boxP b117 0), (16, boxP b118 0), (107, boxP b89 0), (111, σ.1), (114, v102), (115, σ.2)]) (fun σ => [box b1 [.int .i64 n_0.Nodes, n_0_Arcsv], ro n_0_Arcsv 4 (n_0.Arcs.map S_api_Arc.enc), box b2 [.slice none 0 0, .slice none 0 0, .slice none 0 0], box b32 [v22], row v22 3 (x_36.map S_graph_reached.enc), box b89 [v101, v102, .slice none 0 0], row v101 1 (x_99.map (eInt .i64)), row v102 1 (x_100.map (eInt .i64)), box b117 [.int .i64 s_98], box b118 [.bool x116.is_, .int .i64 x116.sum_, .int .i64 x116.arcs_], row σ.1 1 (([x116.sum_] : List Int).map (eInt .i64)), row σ.2 1 (([(-1)] : List Int).map (eInt .i64))]) ?_ (fun hK192 => ?_)
      ·rintro ⟨v127, v136⟩
       change AnyL _ _ _ _ _ (VF.of [(1, .int .i64 from_1), (2, boxP b1 0), (4, boxP b2 0), (6, boxP b32 0), (14, boxP b89 0), (100, v22), (101, .int .i64 (x_36.length : Int)), (102, .int .i64 s_98), (15, boxP b117 0), (16, boxP b118 0), (107, boxP b89 0), (111, v127), (114, v102), (115, v136)]) [box b1 [.int .i64 n_0.Nodes, n_0_Arcsv], ro n_0_Arcsv 4 (n_0.Arcs.map S_api_Arc.enc), box b2 [.slice none 0 0, .slice none 0 0, .slice none 0 0], box b32 [v22], row v22 3 (x_36.map S_graph_reached.enc), box b89 [v101, v102, .slice none 0 0], row v101 1 (x_99.map (eInt .i64)), row v102 1 (x_100.map (eInt .i64)), box b117 [.int .i64 s_98], box b118 [.bool x116.is_, .int .i64 x116.sum_, .int .i64 x116.arcs_], row v127 1 (([x116.sum_] : List Int).map (eInt .i64)), row v136 1 (([(-1)] : List Int).map (eInt .i64))] _
       refine any_all [1] (by kernel_rfl) rfl ?_
       refine anyo_cons ?_ ?_
       ·
        refine any_ty rfl (wn rfl) rfl (y_load_box 5 Try.isAgg34 rfl rfl rfl) ⟨(ss (ss (ss (ss (ss (se (se (se (ss (ss (sn))))))))))), ?_⟩
        exact any_weak2 (hK181 (v127, v136)) [0, 1, 2, 3, 4, 5, 6, 7, 8, 9, 10, 11] (by kernel_rfl) (qw6 rfl rfl rfl rfl rfl rfl (qv8 rfl rfl rfl rfl rfl rfl rfl rfl)) (by decide) rfl
       exact anyo_nil
      refine any_cut2 #[true, true, true, true, true, false, true, false, false, false, false, false, false, false] 8 (Value) (fun σ => [(1, .int .i64 from_1), (2, boxP b1 0), (4, boxP b2 0), (6, boxP b32 0), (14, boxP b89 0), (100, v22), (101, .int .i64 (x_36.length : Int)), (102, .int .i64 s_98), (15, boxP b117 0), (16, boxP b118 0), (113, boxP b89 1), (108, v101), (111, σ)]) (fun σ => [box b1 [.int .i64 n_0.Nodes, n_0_Arcsv], ro n_0_Arcsv 4 (n_0.Arcs.map S_api_Arc.enc), box b2 [.slice none 0 0, .slice none 0 0, .slice none 0 0], box b32 [v22], row v22 3 (x_36.map S_graph_reached.enc), box b89 [v101, v102, .slice none 0 0], row v101 1 (x_99.map (eInt .i64)), row v102 1 (x_100.map (eInt .i64)), box b117 [.int .i64 s_98], box b118 [.bool x116.is_, .int .i64 x116.sum_, .int .i64 x116.arcs_], row σ 1 (([x116.sum_] : List Int).map (eInt .i64))]) ?_ (fun hK193 => ?_)
      ·rintro v129
       change AnyL _ _ _ _ _ (VF.of [(1, .int .i64 from_1), (2, boxP b1 0), (4, boxP b2 0), (6, boxP b32 0), (14, boxP b89 0), (100, v22), (101, .int .i64 (x_36.length : Int)), (102, .int .i64 s_98), (15, boxP b117 0), (16, boxP b118 0), (113, boxP b89 1), (108, v101), (111, v129)]) [box b1 [.int .i64 n_0.Nodes, n_0_Arcsv], ro n_0_Arcsv 4 (n_0.Arcs.map S_api_Arc.enc), box b2 [.slice none 0 0, .slice none 0 0, .slice none 0 0], box b32 [v22], row v22 3 (x_36.map S_graph_reached.enc), box b89 [v101, v102, .slice none 0 0], row v101 1 (x_99.map (eInt .i64)), row v102 1 (x_100.map (eInt .i64)), box b117 [.int .i64 s_98], box b118 [.bool x116.is_, .int .i64 x116.sum_, .int .i64 x116.arcs_], row v129 1 (([x116.sum_] : List Int).map (eInt .i64))] _
       refine any_all [5, 7, 8] (by kernel_rfl) rfl ?_
       refine anyo_cons ?_ ?_
       ·
        refine any_t rfl (wn rfl) rfl (t_append (es := 1) 6 rfl Try.runUnderlying34 rfl Try.runUnderlying34 (.inr ⟨_, rfl⟩) Try.typeInfo3 rfl (by decide) Try.zeroValue3 rfl rfl rfl rfl (src_reads 10 rfl reads_row (map_ok (eInt_ok _) _)) (map_room hr121 (by decide)) (map_fit hr121)) ?_
        rintro v194 _ rfl
        refine ⟨(ss (ss (ss (ss (ss (se (se (se (ss (ss (sn))))))))))), ?_⟩
        refine any_turn (retell 6 (g := row v194 1 ((x_99 ++ ([x116.sum_] : List Int)).map (eInt .i64))) rfl (congrArg (row _ _) List.map_append.symm)) ?_
        exact any_weak2 (hK183 (v194, v129)) [0, 1, 2, 3, 4, 5, 6, 7, 8, 9, 10] (by kernel_rfl) (qv12 rfl rfl rfl rfl rfl rfl rfl rfl rfl rfl rfl rfl) (by decide) rfl
       refine anyo_cons ?_ ?_
       ·
        refine any_ty rfl (wn rfl) rfl (y_load_box 5 Try.isAgg34 rfl rfl rfl) ⟨(ss (ss (ss (ss (ss (se (se (se (ss (ss (sn))))))))))), ?_⟩
        exact any_weak2 (hK185 v129) [0, 1, 2, 3, 4, 5, 6, 7, 8, 9, 10] (by kernel_rfl) (qw6 rfl rfl rfl rfl rfl rfl (qv7 rfl rfl rfl rfl rfl rfl rfl)) (by decide) rfl
       refine anyo_cons ?_ ?_
       ·
        refine any_t rfl (wn rfl) rfl (t_lit [.int .i64 (-1)] Try.runUnderlying34 Try.sizeOf3 Try.zeroValue3 rfl (by decide) (by decide) rfl (by simp [Value.cells, boxP])) ?_
        rintro v195 _ ⟨rfl, _⟩
        refine ⟨(ss (ss (ss (ss (ss (se (se (se (ss (ss (sn))))))))))), ?_⟩
        refine any_turn (retell 11 (g := row v195 1 (([(-1)] : List Int).map (eInt .i64))) rfl rfl) ?_
        exact any_weak2 (hK188 (v129, v195)) [0, 1, 2, 3, 4, 5, 6, 7, 8, 9, 10, 11] (by kernel_rfl) (qw6 rfl rfl rfl rfl rfl rfl (qv8 rfl rfl rfl rfl rfl rfl rfl rfl)) (by decide) rfl
       exact anyo_nil
      refine any_cut2 #[true, true, true, true, false, false, true, true, false, false, false, false, false, false] 8 (Unit) (fun σ => [(1, .int .i64 from_1), (2, boxP b1 0), (4, boxP b2 0), (6, boxP b32 0), (14, boxP b89 0), (100, v22), (101, .int .i64 (x_36.length : Int)), (102, .int .i64 s_98), (15, boxP b117 0), (16, boxP b118 0), (110, .int .i64 x116.sum_), (108, v101), (114, v102)]) (fun σ => [box b1 [.int .i64 n_0.Nodes, n_0_Arcsv], ro n_0_Arcsv 4 (n_0.Arcs.map S_api_Arc.enc), box b2 [.slice none 0 0, .slice none 0 0, .slice none 0 0], box b32 [v22], row v22 3 (x_36.map S_graph_reached.enc), box b89 [v101, v102, .slice none 0 0], row v101 1 (x_99.map (eInt .i64)), row v102 1 (x_100.map (eInt .i64)), box b117 [.int .i64 s_98], box b118 [.bool x116.is_, .int .i64 x116.sum_, .int .i64 x116.arcs_]]) ?_ (fun hK196 => ?_)
      ·rintro _
       change AnyL _ _ _ _ _ (VF.of [(1, .int .i64 from_1), (2, boxP b1 0), (4, boxP b2 0), (6, boxP b32 0), (14, boxP b89 0), (100, v22), (101, .int .i64 (x_36.length : Int)), (102, .int .i64 s_98), (15, boxP b117 0), (16, boxP b118 0), (110, .int .i64 x116.sum_), (108, v101), (114, v102)]) [box b1 [.int .i64 n_0.Nodes, n_0_Arcsv], ro n_0_Arcsv 4 (n_0.Arcs.map S_api_Arc.enc), box b2 [.slice none 0 0, .slice none 0 0, .slice none 0 0], box b32 [v22], row v22 3 (x_36.map S_graph_reached.enc), box b89 [v101, v102, .slice none 0 0], row v101 1 (x_99.map (eInt .i64)), row v102 1 (x_100.map (eInt .i64)), box b117 [.int .i64 s_98], box b118 [.bool x116.is_, .int .i64 x116.sum_, .int .i64 x116.arcs_]] _
       refine any_all [4, 8] (by kernel_rfl) rfl ?_
       refine anyo_cons ?_ ?_
       ·
        refine any_t rfl (wn rfl) rfl (t_lit [.int .i64 x116.sum_] Try.runUnderlying34 Try.sizeOf3 Try.zeroValue3 rfl (by decide) (by decide) rfl (by simp [Value.cells, boxP])) ?_
        rintro v197 _ ⟨rfl, _⟩
        refine ⟨(ss (ss (ss (ss (ss (se (se (se (ss (ss (sn))))))))))), ?_⟩
        refine any_turn (retell 10 (g := row v197 1 (([x116.sum_] : List Int).map (eInt .i64))) rfl rfl) ?_
        exact any_weak2 (hK185 v197) [0, 1, 2, 3, 4, 5, 6, 7, 8, 9, 10] (by kernel_rfl) (qw6 rfl rfl rfl rfl rfl rfl (qv7 rfl rfl rfl rfl rfl rfl rfl)) (by decide) rfl
       refine anyo_cons ?_ ?_
       ·
        refine any_t rfl (wn rfl) rfl (t_lit [.int .i64 (-1)] Try.runUnderlying34 Try.sizeOf3 Try.zeroValue3 rfl (by decide) (by decide) rfl (by simp [Value.cells, boxP])) ?_
        rintro v198 _ ⟨rfl, _⟩
        refine ⟨(ss (ss (ss (ss (ss (se (se (se (ss (ss (sn))))))))))), ?_⟩
        refine any_turn (retell 10 (g := row v198 1 (([(-1)] : List Int).map (eInt .i64))) rfl rfl) ?_
        exact any_weak2 (hK190 v198) [0, 1, 2, 3, 4, 5, 6, 7, 8, 9, 10] (by kernel_rfl) (qw6 rfl rfl rfl rfl rfl rfl (qv8 rfl rfl rfl rfl rfl rfl rfl rfl)) (by decide) rfl
       exact anyo_nil
      refine any_cut2 #[true, true, true, true, false, false, true, false, true, false, false, false, false, false] 8 (Value) (fun σ => [(1, .int .i64 from_1), (2, boxP b1 0), (4, boxP b2 0), (6, boxP b32 0), (14, boxP b89 0), (100, v22), (101, .int .i64 (x_36.length : Int)), (102, .int .i64 s_98), (15, boxP b117 0), (16, boxP b118 0), (110, .int .i64 x116.sum_), (113, boxP b89 1), (108, v101), (115, σ)]) (fun σ => [box b1 [.int .i64 n_0.Nodes, n_0_Arcsv], ro n_0_Arcsv 4 (n_0.Arcs.map S_api_Arc.enc), box b2 [.slice none 0 0, .slice none 0 0, .slice none 0 0], box b32 [v22], row v22 3 (x_36.map S_graph_reached.enc), box b89 [v101, v102, .slice none 0 0], row v101 1 (x_99.map (eInt .i64)), row v102 1 (x_100.map (eInt .i64)), box b117 [.int .i64 s_98], box b118 [.bool x116.is_, .int .i64 x116.sum_, .int .i64 x116.arcs_], row σ 1 (([(-1)] : List Int).map (eInt .i64))]) ?_ (fun hK199 => ?_)
      ·rintro v130
       change AnyL _ _ _ _ _ (VF.of [(1, .int .i64 from_1), (2, boxP b1 0), (4, boxP b2 0), (6, boxP b32 0), (14, boxP b89 0), (100, v22), (101, .int .i64 (x_36.length : Int)), (102, .int .i64 s_98), (15, boxP b117 0), (16, boxP b118 0), (110, .int .i64 x116.sum_), (113, boxP b89 1), (108, v101), (115, v130)]) [box b1 [.int .i64 n_0.Nodes, n_0_Arcsv], ro n_0_Arcsv 4 (n_0.Arcs.map S_api_Arc.enc), box b2 [.slice none 0 0, .slice none 0 0, .slice none 0 0], box b32 [v22], row v22 3 (x_36.map S_graph_reached.enc), box b89 [v101, v102, .slice none 0 0], row v101 1 (x_99.map (eInt .i64)), row v102 1 (x_100.map (eInt .i64)), box b117 [.int .i64 s_98], box b118 [.bool x116.is_, .int .i64 x116.sum_, .int .i64 x116.arcs_], row v130 1 (([(-1)] : List Int).map (eInt .i64))] _
       refine any_all [4, 7] (by kernel_rfl) rfl ?_
       refine anyo_cons ?_ ?_
       ·
        refine any_t rfl (wn rfl) rfl (t_lit [.int .i64 x116.sum_] Try.runUnderlying34 Try.sizeOf3 Try.zeroValue3 rfl (by decide) (by decide) rfl (by simp [Value.cells, boxP])) ?_
        rintro v200 _ ⟨rfl, _⟩
        refine ⟨(ss (ss (ss (ss (ss (se (se (se (ss (ss (sn))))))))))), ?_⟩
        refine any_turn (retell 11 (g := row v200 1 (([x116.sum_] : List Int).map (eInt .i64))) rfl rfl) ?_
        exact any_weak2 (hK188 (v200, v130)) [0, 1, 2, 3, 4, 5, 6, 7, 8, 9, 11, 10] (by kernel_rfl) (qw6 rfl rfl rfl rfl rfl rfl (qv8 rfl rfl rfl rfl rfl rfl rfl rfl)) (by decide) rfl
       refine anyo_cons ?_ ?_
       ·
        refine any_ty rfl (wn rfl) rfl (y_load_box 5 Try.isAgg34 rfl rfl rfl) ⟨(ss (ss (ss (ss (ss (se (se (se (ss (ss (sn))))))))))), ?_⟩
        exact any_weak2 (hK190 v130) [0, 1, 2, 3, 4, 5, 6, 7, 8, 9, 10] (by kernel_rfl) (qw6 rfl rfl rfl rfl rfl rfl (qv8 rfl rfl rfl rfl rfl rfl rfl rfl)) (by decide) rfl
       exact anyo_nil
      refine any_cut2 #[true, false, true, true, true, false, true, true, false, false, false, false, false, false] 8 (Value) (fun σ => [(1, .int .i64 from_1), (2, boxP b1 0), (4, boxP b2 0), (6, boxP b32 0), (14, boxP b89 0), (100, v22), (101, .int .i64 (x_36.length : Int)), (102, .int .i64 s_98), (15, boxP b117 0), (16, boxP b118 0), (107, boxP b89 0), (111, σ), (114, v102)]) (fun σ => [box b1 [.int .i64 n_0.Nodes, n_0_Arcsv], ro n_0_Arcsv 4 (n_0.Arcs.map S_api_Arc.enc), box b2 [.slice none 0 0, .slice none 0 0, .slice none 0 0], box b32 [v22], row v22 3 (x_36.map S_graph_reached.enc), box b89 [v101, v102, .slice none 0 0], row v101 1 (x_99.map (eInt .i64)), row v102 1 (x_100.map (eInt .i64)), box b117 [.int .i64 s_98], box b118 [.bool x116.is_, .int .i64 x116.sum_, .int .i64 x116.arcs_], row σ 1 (([x116.sum_] : List Int).map (eInt .i64))]) ?_ (fun hK201 => ?_)
      ·rintro v127
       change AnyL _ _ _ _ _ (VF.of [(1, .int .i64 from_1), (2, boxP b1 0), (4, boxP b2 0), (6, boxP b32 0), (14, boxP b89 0), (100, v22), (101, .int .i64 (x_36.length : Int)), (102, .int .i64 s_98), (15, boxP b117 0), (16, boxP b118 0), (107, boxP b89 0), (111, v127), (114, v102)]) [box b1 [.int .i64 n_0.Nodes, n_0_Arcsv], ro n_0_Arcsv 4 (n_0.Arcs.map S_api_Arc.enc), box b2 [.slice none 0 0, .slice none 0 0, .slice none 0 0], box b32 [v22], row v22 3 (x_36.map S_graph_reached.enc), box b89 [v101, v102, .slice none 0 0], row v101 1 (x_99.map (eInt .i64)), row v102 1 (x_100.map (eInt .i64)), box b117 [.int .i64 s_98], box b118 [.bool x116.is_, .int .i64 x116.sum_, .int .i64 x116.arcs_], row v127 1 (([x116.sum_] : List Int).map (eInt .i64))] _
       refine any_all [1, 8] (by kernel_rfl) rfl ?_
       refine anyo_cons ?_ ?_
       ·
        refine any_ty rfl (wn rfl) rfl (y_load_box 5 Try.isAgg34 rfl rfl rfl) ⟨(ss (ss (ss (ss (ss (se (se (se (ss (ss (sn))))))))))), ?_⟩
        exact any_weak2 (hK185 v127) [0, 1, 2, 3, 4, 5, 6, 7, 8, 9, 10] (by kernel_rfl) (qw6 rfl rfl rfl rfl rfl rfl (qv7 rfl rfl rfl rfl rfl rfl rfl)) (by decide) rfl
       refine anyo_cons ?_ ?_
       ·
        refine any_t rfl (wn rfl) rfl (t_lit [.int .i64 (-1)] Try.runUnderlying34 Try.sizeOf3 Try.zeroValue3 rfl (by decide) (by decide) rfl (by simp [Value.cells, boxP])) ?_
        rintro v202 _ ⟨rfl, _⟩
        refine ⟨(ss (ss (ss (ss (ss (se (se (se (ss (ss (sn))))))))))), ?_⟩
        refine any_turn (retell 11 (g := row v202 1 (([(-1)] : List Int).map (eInt .i64))) rfl rfl) ?_
        exact any_weak2 (hK192 (v127, v202)) [0, 1, 2, 3, 4, 5, 6, 7, 8, 9, 10, 11] (by kernel_rfl) (qw6 rfl rfl rfl rfl rfl rfl (qv8 rfl rfl rfl rfl rfl rfl rfl rfl)) (by decide) rfl
       exact anyo_nil
      refine any_cut2 #[true, false, true, true, true, false, true, false, true, false, false, false, false, false] 8 (Value × Value) (fun σ => [(1, .int .i64 from_1), (2, boxP b1 0), (4, boxP b2 0), (6, boxP b32 0), (14, boxP b89 0), (100, v22), (101, .int .i64 (x_36.length : Int)), (102, .int .i64 s_98), (15, boxP b117 0), (16, boxP b118 0), (107, boxP b89 0), (113, boxP b89 1), (111, σ.1), (115, σ.2)]) (fun σ => [box b1 [.int .i64 n_0.Nodes, n_0_Arcsv], ro n_0_Arcsv 4 (n_0.Arcs.map S_api_Arc.enc), box b2 [.slice none 0 0, .slice none 0 0, .slice none 0 0], box b32 [v22], row v22 3 (x_36.map S_graph_reached.enc), box b89 [v101, v102, .slice none 0 0], row v101 1 (x_99.map (eInt .i64)), row v102 1 (x_100.map (eInt .i64)), box b117 [.int .i64 s_98], box b118 [.bool x116.is_, .int .i64 x116.sum_, .int .i64 x116.arcs_], row σ.1 1 (([x116.sum_] : List Int).map (eInt .i64)), row σ.2 1 (([(-1)] : List Int).map (eInt .i64))]) ?_ (fun hK203 => ?_)
      ·rintro ⟨v127, v131⟩
       change AnyL _ _ _ _ _ (VF.of [(1, .int .i64 from_1), (2, boxP b1 0), (4, boxP b2 0), (6, boxP b32 0), (14, boxP b89 0), (100, v22), (101, .int .i64 (x_36.length : Int)), (102, .int .i64 s_98), (15, boxP b117 0), (16, boxP b118 0), (107, boxP b89 0), (113, boxP b89 1), (111, v127), (115, v131)]) [box b1 [.int .i64 n_0.Nodes, n_0_Arcsv], ro n_0_Arcsv 4 (n_0.Arcs.map S_api_Arc.enc), box b2 [.slice none 0 0, .slice none 0 0, .slice none 0 0], box b32 [v22], row v22 3 (x_36.map S_graph_reached.enc), box b89 [v101, v102, .slice none 0 0], row v101 1 (x_99.map (eInt .i64)), row v102 1 (x_100.map (eInt .i64)), box b117 [.int .i64 s_98], box b118 [.bool x116.is_, .int .i64 x116.sum_, .int .i64 x116.arcs_], row v127 1 (([x116.sum_] : List Int).map (eInt .i64)), row v131 1 (([(-1)] : List Int).map (eInt .i64))] _
       refine any_all [1, 7] (by kernel_rfl) rfl ?_
       refine anyo_cons ?_ ?_
       ·
        refine any_ty rfl (wn rfl) rfl (y_load_box 5 Try.isAgg34 rfl rfl rfl) ⟨(ss (ss (ss (ss (ss (se (se (se (ss (ss (sn))))))))))), ?_⟩
        exact any_weak2 (hK188 (v127, v131)) [0, 1, 2, 3, 4, 5, 6, 7, 8, 9, 10, 11] (by kernel_rfl) (qw6 rfl rfl rfl rfl rfl rfl (qv8 rfl rfl rfl rfl rfl rfl rfl rfl)) (by decide) rfl
       refine anyo_cons ?_ ?_
       ·
        refine any_ty rfl (wn rfl) rfl (y_load_box 5 Try.isAgg34 rfl rfl rfl) ⟨(ss (ss (ss (ss (ss (se (se (se (ss (ss (sn))))))))))), ?_⟩
        exact any_weak2 (hK192 (v127, v131)) [0, 1, 2, 3, 4, 5, 6, 7, 8, 9, 10, 11] (by kernel_rfl) (qw6 rfl rfl rfl rfl rfl rfl (qv8 rfl rfl rfl rfl rfl rfl rfl rfl)) (by decide) rfl
       exact anyo_nil
      refine any_cut2 #[true, false, true, true, false, false, true, true, true, false, false, false, false, false] 8 (Value) (fun σ => [(1, .int .i64 from_1), (2, boxP b1 0), (4, boxP b2 0), (6, boxP b32 0), (14, boxP b89 0), (100, v22), (101, .int .i64 (x_36.length : Int)), (102, .int .i64 s_98), (15, boxP b117 0), (16, boxP b118 0), (107, boxP b89 0), (110, .int .i64 x116.sum_), (114, v102), (115, σ)]) (fun σ => [box b1 [.int .i64 n_0.Nodes, n_0_Arcsv], ro n_0_Arcsv 4 (n_0.Arcs.map S_api_Arc.enc), box b2 [.slice none 0 0, .slice none 0 0, .slice none 0 0], box b32 [v22], row v22 3 (x_36.map S_graph_reached.enc), box b89 [v101, v102, .slice none 0 0], row v101 1 (x_99.map (eInt .i64)), row v102 1 (x_100.map (eInt .i64)), box b117 [.int .i64 s_98], box b118 [.bool x116.is_, .int .i64 x116.sum_, .int .i64 x116.arcs_], row σ 1 (([(-1)] : List Int).map (eInt .i64))]) ?_ (fun hK204 => ?_)
      ·rintro v132
       change AnyL _ _ _ _ _ (VF.of [(1, .int .i64 from_1), (2, boxP b1 0), (4, boxP b2 0), (6, boxP b32 0), (14, boxP b89 0), (100, v22), (101, .int .i64 (x_36.length : Int)), (102, .int .i64 s_98), (15, boxP b117 0), (16, boxP b118 0), (107, boxP b89 0), (110, .int .i64 x116.sum_), (114, v102), (115, v132)]) [box b1 [.int .i64 n_0.Nodes, n_0_Arcsv], ro n_0_Arcsv 4 (n_0.Arcs.map S_api_Arc.enc), box b2 [.slice none 0 0, .slice none 0 0, .slice none 0 0], box b32 [v22], row v22 3 (x_36.map S_graph_reached.enc), box b89 [v101, v102, .slice none 0 0], row v101 1 (x_99.map (eInt .i64)), row v102 1 (x_100.map (eInt .i64)), box b117 [.int .i64 s_98], box b118 [.bool x116.is_, .int .i64 x116.sum_, .int .i64 x116.arcs_], row v132 1 (([(-1)] : List Int).map (eInt .i64))] _
       refine any_all [1, 4] (by kernel_rfl) rfl ?_
       refine anyo_cons ?_ ?_
       ·
        refine any_ty rfl (wn rfl) rfl (y_load_box 5 Try.isAgg34 rfl rfl rfl) ⟨(ss (ss (ss (ss (ss (se (se (se (ss (ss (sn))))))))))), ?_⟩
        exact any_weak2 (hK190 v132) [0, 1, 2, 3, 4, 5, 6, 7, 8, 9, 10] (by kernel_rfl) (qw6 rfl rfl rfl rfl rfl rfl (qv8 rfl rfl rfl rfl rfl rfl rfl rfl)) (by decide) rfl
       refine anyo_cons ?_ ?_
       ·
        refine any_t rfl (wn rfl) rfl (t_lit [.int .i64 x116.sum_] Try.runUnderlying34 Try.sizeOf3 Try.zeroValue3 rfl (by decide) (by decide) rfl (by simp [Value.cells, boxP])) ?_
        rintro v205 _ ⟨rfl, _⟩
        refine ⟨(ss (ss (ss (ss (ss (se (se (se (ss (ss (sn))))))))))), ?_⟩
        refine any_turn (retell 11 (g := row v205 1 (([x116.sum_] : List Int).map (eInt .i64))) rfl rfl) ?_
        exact any_weak2 (hK192 (v205, v132)) [0, 1, 2, 3, 4, 5, 6, 7, 8, 9, 11, 10] (by kernel_rfl) (qw6 rfl rfl rfl rfl rfl rfl (qv8 rfl rfl rfl rfl rfl rfl rfl rfl)) (by decide) rfl
       exact anyo_nil
      refine any_cut2 #[true, true, true, true, false, false, true, false, false, false, false, false, false, false] 9 (Unit) (fun σ => [(1, .int .i64 from_1), (2, boxP b1 0), (4, boxP b2 0), (6, boxP b32 0), (14, boxP b89 0), (100, v22), (101, .int .i64 (x_36.length : Int)), (102, .int .i64 s_98), (15, boxP b117 0), (16, boxP b118 0), (110, .int .i64 x116.sum_), (113, boxP b89 1), (108, v101)]) (fun σ => [box b1 [.int .i64 n_0.Nodes, n_0_Arcsv], ro n_0_Arcsv 4 (n_0.Arcs.map S_api_Arc.enc), box b2 [.slice none 0 0, .slice none 0 0, .slice none 0 0], box b32 [v22], row v22 3 (x_36.map S_graph_reached.enc), box b89 [v101, v102, .slice none 0 0], row v101 1 (x_99.map (eInt .i64)), row v102 1 (x_100.map (eInt .i64)), box b117 [.int .i64 s_98], box b118 [.bool x116.is_, .int .i64 x116.sum_, .int .i64 x116.arcs_]]) ?_ (fun hK206 => ?_)
      ·rintro _
       change AnyL _ _ _ _ _ (VF.of [(1, .int .i64 from_1), (2, boxP b1 0), (4, boxP b2 0), (6, boxP b32 0), (14, boxP b89 0), (100, v22), (101, .int .i64 (x_36.length : Int)), (102, .int .i64 s_98), (15, boxP b117 0), (16, boxP b118 0), (110, .int .i64 x116.sum_), (113, boxP b89 1), (108, v101)]) [box b1 [.int .i64 n_0.Nodes, n_0_Arcsv], ro n_0_Arcsv 4 (n_0.Arcs.map S_api_Arc.enc), box b2 [.slice none 0 0, .slice none 0 0, .slice none 0 0], box b32 [v22], row v22 3 (x_36.map S_graph_reached.enc), box b89 [v101, v102, .slice none 0 0], row v101 1 (x_99.map (eInt .i64)), row v102 1 (x_100.map (eInt .i64)), box b117 [.int .i64 s_98], box b118 [.bool x116.is_, .int .i64 x116.sum_, .int .i64 x116.arcs_]] _
       refine any_all [4, 7, 8] (by kernel_rfl) rfl ?_
       refine anyo_cons ?_ ?_
       ·
        refine any_t rfl (wn rfl) rfl (t_lit [.int .i64 x116.sum_] Try.runUnderlying34 Try.sizeOf3 Try.zeroValue3 rfl (by decide) (by decide) rfl (by simp [Value.cells, boxP])) ?_
        rintro v207 _ ⟨rfl, _⟩
        refine ⟨(ss (ss (ss (ss (ss (se (se (se (ss (ss (sn))))))))))), ?_⟩
        refine any_turn (retell 10 (g := row v207 1 (([x116.sum_] : List Int).map (eInt .i64))) rfl rfl) ?_
        exact any_weak2 (hK193 v207) [0, 1, 2, 3, 4, 5, 6, 7, 8, 9, 10] (by kernel_rfl) (qw6 rfl rfl rfl rfl rfl rfl (qv7 rfl rfl rfl rfl rfl rfl rfl)) (by decide) rfl
       refine anyo_cons ?_ ?_
       ·
        refine any_ty rfl (wn rfl) rfl (y_load_box 5 Try.isAgg34 rfl rfl rfl) ⟨(ss (ss (ss (ss (ss (se (se (se (ss (ss (sn))))))))))), ?_⟩
        exact any_weak2 (hK196 ()) [0, 1, 2, 3, 4, 5, 6, 7, 8, 9] (by kernel_rfl) (qw6 rfl rfl rfl rfl rfl rfl (qv7 rfl rfl rfl rfl rfl rfl rfl)) (by decide) rfl
       refine anyo_cons ?_ ?_
       ·
        refine any_t rfl (wn rfl) rfl (t_lit [.int .i64 (-1)] Try.runUnderlying34 Try.sizeOf3 Try.zeroValue3 rfl (by decide) (by decide) rfl (by simp [Value.cells, boxP])) ?_
        rintro v208 _ ⟨rfl, _⟩
        refine ⟨(ss (ss (ss (ss (ss (se (se (se (ss (ss (sn))))))))))), ?_⟩
        refine any_turn (retell 10 (g := row v208 1 (([(-1)] : List Int).map (eInt .i64))) rfl rfl) ?_
        exact any_weak2 (hK199 v208) [0, 1, 2, 3, 4, 5, 6, 7, 8, 9, 10] (by kernel_rfl) (qw6 rfl rfl rfl rfl rfl rfl (qv8 rfl rfl rfl rfl rfl rfl rfl rfl)) (by decide) rfl
       exact anyo_nil
      refine any_cut2 #[true, false, true, true, true, false, true, false, false, false, false, false, false, false] 9 (Value) (fun σ => [(1, .int .i64 from_1), (2, boxP b1 0), (4, boxP b2 0), (6, boxP b32 0), (14, boxP b89 0), (100, v22), (101, .int .i64 (x_36.length : Int)), (102, .int .i64 s_98), (15, boxP b117 0), (16, boxP b118 0), (107, boxP b89 0), (113, boxP b89 1), (111, σ)]) (fun σ => [box b1 [.int .i64 n_0.Nodes, n_0_Arcsv], ro n_0_Arcsv 4 (n_0.Arcs.map S_api_Arc.enc), box b2 [.slice none 0 0, .slice none 0 0, .slice none 0 0], box b32 [v22], row v22 3 (x_36.map S_graph_reached.enc), box b89 [v101, v102, .slice none 0 0], row v101 1 (x_99.map (eInt .i64)), row v102 1 (x_100.map (eInt .i64)), box b117 [.int .i64 s_98], box b118 [.bool x116.is_, .int .i64 x116.sum_, .int .i64 x116.arcs_], row σ 1 (([x116.sum_] : List Int).map (eInt .i64))]) ?_ (fun hK209 => ?_)
      ·rintro v127
       change AnyL _ _ _ _ _ (VF.of [(1, .int .i64 from_1), (2, boxP b1 0), (4, boxP b2 0), (6, boxP b32 0), (14, boxP b89 0), (100, v22), (101, .int .i64 (x_36.length : Int)), (102, .int .i64 s_98), (15, boxP b117 0), (16, boxP b118 0), (107, boxP b89 0), (113, boxP b89 1), (111, v127)]) [box b1 [.int .i64 n_0.Nodes, n_0_Arcsv], ro n_0_Arcsv 4 (n_0.Arcs.map S_api_Arc.enc), box b2 [.slice none 0 0, .slice none 0 0, .slice none 0 0], box b32 [v22], row v22 3 (x_36.map S_graph_reached.enc), box b89 [v101, v102, .slice none 0 0], row v101 1 (x_99.map (eInt .i64)), row v102 1 (x_100.map (eInt .i64)), box b117 [.int .i64 s_98], box b118 [.bool x116.is_, .int .i64 x116.sum_, .int .i64 x116.arcs_], row v127 1 (([x116.sum_] : List Int).map (eInt .i64))] _
       refine any_all [1, 7, 8] (by kernel_rfl) rfl ?_
       refine anyo_cons ?_ ?_
       ·
        refine any_ty rfl (wn rfl) rfl (y_load_box 5 Try.isAgg34 rfl rfl rfl) ⟨(ss (ss (ss (ss (ss (se (se (se (ss (ss (sn))))))))))), ?_⟩
        exact any_weak2 (hK193 v127) [0, 1, 2, 3, 4, 5, 6, 7, 8, 9, 10] (by kernel_rfl) (qw6 rfl rfl rfl rfl rfl rfl (qv7 rfl rfl rfl rfl rfl rfl rfl)) (by decide) rfl
       refine anyo_cons ?_ ?_
       ·
        refine any_ty rfl (wn rfl) rfl (y_load_box 5 Try.isAgg34 rfl rfl rfl) ⟨(ss (ss (ss (ss (ss (se (se (se (ss (ss (sn))))))))))), ?_⟩
        exact any_weak2 (hK201 v127) [0, 1, 2, 3, 4, 5, 6, 7, 8, 9, 10] (by kernel_rfl) (qw6 rfl rfl rfl rfl rfl rfl (qv7 rfl rfl rfl rfl rfl rfl rfl)) (by decide) rfl
       refine anyo_cons ?_ ?_
       ·
        refine any_t rfl (wn rfl) rfl (t_lit [.int .i64 (-1)] Try.runUnderlying34 Try.sizeOf3 Try.zeroValue3 rfl (by decide) (by decide) rfl (by simp [Value.cells, boxP])) ?_
        rintro v210 _ ⟨rfl, _⟩
        refine ⟨(ss (ss (ss (ss (ss (se (se (se (ss (ss (sn))))))))))), ?_⟩
        refine any_turn (retell 11 (g := row v210 1 (([(-1)] : List Int).map (eInt .i64))) rfl rfl) ?_
        exact any_weak2 (hK203 (v127, v210)) [0, 1, 2, 3, 4, 5, 6, 7, 8, 9, 10, 11] (by kernel_rfl) (qw6 rfl rfl rfl rfl rfl rfl (qv8 rfl rfl rfl rfl rfl rfl rfl rfl)) (by decide) rfl
       exact anyo_nil
      refine any_cut2 #[true, false, true, true, false, false, true, true, false, false, false, false, false, false] 9 (Unit) (fun σ => [(1, .int .i64 from_1), (2, boxP b1 0), (4, boxP b2 0), (6, boxP b32 0), (14, boxP b89 0), (100, v22), (101, .int .i64 (x_36.length : Int)), (102, .int .i64 s_98), (15, boxP b117 0), (16, boxP b118 0), (107, boxP b89 0), (110, .int .i64 x116.sum_), (114, v102)]) (fun σ => [box b1 [.int .i64 n_0.Nodes, n_0_Arcsv], ro n_0_Arcsv 4 (n_0.Arcs.map S_api_Arc.enc), box b2 [.slice none 0 0, .slice none 0 0, .slice none 0 0], box b32 [v22], row v22 3 (x_36.map S_graph_reached.enc), box b89 [v101, v102, .slice none 0 0], row v101 1 (x_99.map (eInt .i64)), row v102 1 (x_100.map (eInt .i64)), box b117 [.int .i64 s_98], box b118 [.bool x116.is_, .int .i64 x116.sum_, .int .i64 x116.arcs_]]) ?_ (fun hK211 => ?_)
      ·rintro _
       change AnyL _ _ _ _ _ (VF.of [(1, .int .i64 from_1), (2, boxP b1 0), (4, boxP b2 0), (6, boxP b32 0), (14, boxP b89 0), (100, v22), (101, .int .i64 (x_36.length : Int)), (102, .int .i64 s_98), (15, boxP b117 0), (16, boxP b118 0), (107, boxP b89 0), (110, .int .i64 x116.sum_), (114, v102)]) [box b1 [.int .i64 n_0.Nodes, n_0_Arcsv], ro n_0_Arcsv 4 (n_0.Arcs.map S_api_Arc.enc), box b2 [.slice none 0 0, .slice none 0 0, .slice none 0 0], box b32 [v22], row v22 3 (x_36.map S_graph_reached.enc), box b89 [v101, v102, .slice none 0 0], row v101 1 (x_99.map (eInt .i64)), row v102 1 (x_100.map (eInt .i64)), box b117 [.int .i64 s_98], box b118 [.bool x116.is_, .int .i64 x116.sum_, .int .i64 x116.arcs_]] _
       refine any_all [1, 4, 8] (by kernel_rfl) rfl ?_
       refine anyo_cons ?_ ?_
       ·
        refine any_ty rfl (wn rfl) rfl (y_load_box 5 Try.isAgg34 rfl rfl rfl) ⟨(ss (ss (ss (ss (ss (se (se (se (ss (ss (sn))))))))))), ?_⟩
        exact any_weak2 (hK196 ()) [0, 1, 2, 3, 4, 5, 6, 7, 8, 9] (by kernel_rfl) (qw6 rfl rfl rfl rfl rfl rfl (qv7 rfl rfl rfl rfl rfl rfl rfl)) (by decide) rfl
       refine anyo_cons ?_ ?_
       ·
        refine any_t rfl (wn rfl) rfl (t_lit [.int .i64 x116.sum_] Try.runUnderlying34 Try.sizeOf3 Try.zeroValue3 rfl (by decide) (by decide) rfl (by simp [Value.cells, boxP])) ?_
        rintro v212 _ ⟨rfl, _⟩
        refine ⟨(ss (ss (ss (ss (ss (se (se (se (ss (ss (sn))))))))))), ?_⟩
        refine any_turn (retell 10 (g := row v212 1 (([x116.sum_] : List Int).map (eInt .i64))) rfl rfl) ?_
        exact any_weak2 (hK201 v212) [0, 1, 2, 3, 4, 5, 6, 7, 8, 9, 10] (by kernel_rfl) (qw6 rfl rfl rfl rfl rfl rfl (qv7 rfl rfl rfl rfl rfl rfl rfl)) (by decide) rfl
       refine anyo_cons ?_ ?_
       ·
        refine any_t rfl (wn rfl) rfl (t_lit [.int .i64 (-1)] Try.runUnderlying34 Try.sizeOf3 Try.zeroValue3 rfl (by decide) (by decide) rfl (by simp [Value.cells, boxP])) ?_
        rintro v213 _ ⟨rfl, _⟩
        refine ⟨(ss (ss (ss (ss (ss (se (se (se (ss (ss (sn))))))))))), ?_⟩
        refine any_turn (retell 10 (g := row v213 1 (([(-1)] : List Int).map (eInt .i64))) rfl rfl) ?_
        exact any_weak2 (hK204 v213) [0, 1, 2, 3, 4, 5, 6, 7, 8, 9, 10] (by kernel_rfl) (qw6 rfl rfl rfl rfl rfl rfl (qv8 rfl rfl rfl rfl rfl rfl rfl rfl)) (by decide) rfl
       exact anyo_nil
      refine any_cut2 #[true, false, true, true, false, false, true, false, true, false, false, false, false, false] 9 (Value) (fun σ => [(1, .int .i64 from_1), (2, boxP b1 0), (4, boxP b2 0), (6, boxP b32 0), (14, boxP b89 0), (100, v22), (101, .int .i64 (x_36.length : Int)), (102, .int .i64 s_98), (15, boxP b117 0), (16, boxP b118 0), (107, boxP b89 0), (110, .int .i64 x116.sum_), (113, boxP b89 1), (115, σ)]) (fun σ => [box b1 [.int .i64 n_0.Nodes, n_0_Arcsv], ro n_0_Arcsv 4 (n_0.Arcs.map S_api_Arc.enc), box b2 [.slice none 0 0, .slice none 0 0, .slice none 0 0], box b32 [v22], row v22 3 (x_36.map S_graph_reached.enc), box b89 [v101, v102, .slice none 0 0], row v101 1 (x_99.map (eInt .i64)), row v102 1 (x_100.map (eInt .i64)), box b117 [.int .i64 s_98], box b118 [.bool x116.is_, .int .i64 x116.sum_, .int .i64 x116.arcs_], row σ 1 (([(-1)] : List Int).map (eInt .i64))]) ?_ (fun hK214 => ?_)
      ·rintro v128
       change AnyL _ _ _ _ _ (VF.of [(1, .int .i64 from_1), (2, boxP b1 0), (4, boxP b2 0), (6, boxP b32 0), (14, boxP b89 0), (100, v22), (101, .int .i64 (x_36.length : Int)), (102, .int .i64 s_98), (15, boxP b117 0), (16, boxP b118 0), (107, boxP b89 0), (110, .int .i64 x116.sum_), (113, boxP b89 1), (115, v128)]) [box b1 [.int .i64 n_0.Nodes, n_0_Arcsv], ro n_0_Arcsv 4 (n_0.Arcs.map S_api_Arc.enc), box b2 [.slice none 0 0, .slice none 0 0, .slice none 0 0], box b32 [v22], row v22 3 (x_36.map S_graph_reached.enc), box b89 [v101, v102, .slice none 0 0], row v101 1 (x_99.map (eInt .i64)), row v102 1 (x_100.map (eInt .i64)), box b117 [.int .i64 s_98], box b118 [.bool x116.is_, .int .i64 x116.sum_, .int .i64 x116.arcs_], row v128 1 (([(-1)] : List Int).map (eInt .i64))] _
       refine any_all [1, 4, 7] (by kernel_rfl) rfl ?_
       refine anyo_cons ?_ ?_
       ·
        refine any_ty rfl (wn rfl) rfl (y_load_box 5 Try.isAgg34 rfl rfl rfl) ⟨(ss (ss (ss (ss (ss (se (se (se (ss (ss (sn))))))))))), ?_⟩
        exact any_weak2 (hK199 v128) [0, 1, 2, 3, 4, 5, 6, 7, 8, 9, 10] (by kernel_rfl) (qw6 rfl rfl rfl rfl rfl rfl (qv8 rfl rfl rfl rfl rfl rfl rfl rfl)) (by decide) rfl
       refine anyo_cons ?_ ?_
       ·
        refine any_t rfl (wn rfl) rfl (t_lit [.int .i64 x116.sum_] Try.runUnderlying34 Try.sizeOf3 Try.zeroValue3 rfl (by decide) (by decide) rfl (by simp [Value.cells, boxP])) ?_
        rintro v215 _ ⟨rfl, _⟩
        refine ⟨(ss (ss (ss (ss (ss (se (se (se (ss (ss (sn))))))))))), ?_⟩
        refine any_turn (retell 11 (g := row v215 1 (([x116.sum_] : List Int).map (eInt .i64))) rfl rfl) ?_
        exact any_weak2 (hK203 (v215, v128)) [0, 1, 2, 3, 4, 5, 6, 7, 8, 9, 11, 10] (by kernel_rfl) (qw6 rfl rfl rfl rfl rfl rfl (qv8 rfl rfl rfl rfl rfl rfl rfl rfl)) (by decide) rfl
       refine anyo_cons ?_ ?_
       ·
        refine any_ty rfl (wn rfl) rfl (y_load_box 5 Try.isAgg34 rfl rfl rfl) ⟨(ss (ss (ss (ss (ss (se (se (se (ss (ss (sn))))))))))), ?_⟩
        exact any_weak2 (hK204 v128) [0, 1, 2, 3, 4, 5, 6, 7, 8, 9, 10] (by kernel_rfl) (qw6 rfl rfl rfl rfl rfl rfl (qv8 rfl rfl rfl rfl rfl rfl rfl rfl)) (by decide) rfl
       exact anyo_nil
      refine any_all [1, 4, 7, 8] (by kernel_rfl) rfl ?_
      refine anyo_cons ?_ ?_
      ·
       refine any_ty rfl (wn rfl) rfl (y_load_box 5 Try.isAgg34 rfl rfl rfl) ⟨(ss (ss (ss (ss (ss (se (se (se (ss (ss (sn))))))))))), ?_⟩
       exact any_weak2 (hK206 ()) [0, 1, 2, 3, 4, 5, 6, 7, 8, 9] (by kernel_rfl) (qw6 rfl rfl rfl rfl rfl rfl (qv7 rfl rfl rfl rfl rfl rfl rfl)) (by decide) rfl
      refine anyo_cons ?_ ?_
      ·
       refine any_t rfl (wn rfl) rfl (t_lit [.int .i64 x116.sum_] Try.runUnderlying34 Try.sizeOf3 Try.zeroValue3 rfl (by decide) (by decide) rfl (by simp [Value.cells, boxP])) ?_
       rintro v216 _ ⟨rfl, _⟩
       refine ⟨(ss (ss (ss (ss (ss (se (se (se (ss (ss (sn))))))))))), ?_⟩
       refine any_turn (retell 10 (g := row v216 1 (([x116.sum_] : List Int).map (eInt .i64))) rfl rfl) ?_
       exact any_weak2 (hK209 v216) [0, 1, 2, 3, 4, 5, 6, 7, 8, 9, 10] (by kernel_rfl) (qw6 rfl rfl rfl rfl rfl rfl (qv7 rfl rfl rfl rfl rfl rfl rfl)) (by decide) rfl
      refine anyo_cons ?_ ?_
      ·
       refine any_ty rfl (wn rfl) rfl (y_load_box 5 Try.isAgg34 rfl rfl rfl) ⟨(ss (ss (ss (ss (ss (se (se (se (ss (ss (sn))))))))))), ?_⟩
       exact any_weak2 (hK211 ()) [0, 1, 2, 3, 4, 5, 6, 7, 8, 9] (by kernel_rfl) (qw6 rfl rfl rfl rfl rfl rfl (qv7 rfl rfl rfl rfl rfl rfl rfl)) (by decide) rfl
      refine anyo_cons ?_ ?_
      ·
       refine any_t rfl (wn rfl) rfl (t_lit [.int .i64 (-1)] Try.runUnderlying34 Try.sizeOf3 Try.zeroValue3 rfl (by decide) (by decide) rfl (by simp [Value.cells, boxP])) ?_
       rintro v217 _ ⟨rfl, _⟩
       refine ⟨(ss (ss (ss (ss (ss (se (se (se (ss (ss (sn))))))))))), ?_⟩
       refine any_turn (retell 10 (g := row v217 1 (([(-1)] : List Int).map (eInt .i64))) rfl rfl) ?_
       exact any_weak2 (hK214 v217) [0, 1, 2, 3, 4, 5, 6, 7, 8, 9, 10] (by kernel_rfl) (qw6 rfl rfl rfl rfl rfl rfl (qv8 rfl rfl rfl rfl rfl rfl rfl rfl)) (by decide) rfl
      exact anyo_nil
     rintro ⟨⟨x_108, x_109⟩, ⟨v110, v111⟩⟩ hj
     obtain rfl : o112 = _ := hj
     replace h := after_go ho113
     clear ho113
     change Run _ _ _ (VF.of [(1, .int .i64 from_1), (2, boxP b1 0), (4, boxP b2 0), (6, boxP b32 0), (14, boxP b89 0), (100, v22), (101, .int .i64 (x_36.length : Int)), (102, .int .i64 s_98)]) [box b1 [.int .i64 n_0.Nodes, n_0_Arcsv], ro n_0_Arcsv 4 (n_0.Arcs.map S_api_Arc.enc), box b2 [.slice none 0 0, .slice none 0 0, .slice none 0 0], box b32 [v22], row v22 3 (x_36.map S_graph_reached.enc), box b89 [v110, v111, .slice none 0 0], row v110 1 (x_108.map (eInt .i64)), row v111 1 (x_109.map (eInt .i64))]
     refine run_region' ?_
     refine oy rfl rfl (y_add rfl rfl) ?_
     refine oy rfl rfl (y_move rfl) ?_
     refine ops_nil ?_
     obtain rfl := some_eq h
     exact goes_iter hgo104 ((IntKind.i64.wrap (s_98 + 1)), x_108, x_109) (v110, v111) [0, 1, 2, 3, 4, 5, 6, 7] rfl (qv8 rfl rfl rfl rfl rfl rfl rfl rfl) (by decide) rfl
    ·replace h := cond_f h hc107
     refine run_exit _ rfl ?_
     obtain rfl := some_eq h
     obtain rfl := hstop105 _ rfl
     exact goes_cut hL96 ((x_99, x_100), (v101, v102)) [2, 5, 6, 7] (qv2 rfl rfl) (by decide) rfl rfl
   rintro ⟨⟨x_90, x_91⟩, ⟨v92, v93⟩⟩ hj
   obtain rfl : o94 = _ := hj
   replace h := after_go ho95
   clear ho95
   change Run _ _ _ (VF.of [(4, boxP b2 0), (14, boxP b89 0)]) [box b2 [.slice none 0 0, .slice none 0 0, .slice none 0 0], box b89 [v92, v93, .slice none 0 0], row v92 1 (x_90.map (eInt .i64)), row v93 1 (x_91.map (eInt .i64))]
   refine run_seq ?_
   refine run_region' ?_
   refine oy rfl rfl (y_load_boxagg (c := [v92, v93, .slice none 0 0]) 1 Try.isAgg51 Try.sizeOf51 rfl rfl rfl) ?_
   refine ops_slc 2 rfl reads_row (fun hs218 hs218o => ?_)
   refine ops_slc 3 rfl reads_row (fun hs219 hs219o => ?_)
   refine ot rfl rfl (t_store 0 Try.sizeOf51 rfl rfl rfl rfl (by simp [Value.cells, boxP]) (by intro u hu; replace hu : u ∈ ([v92, v93, .slice none 0 0] : List Value) := hu; simp only [List.mem_cons, List.not_mem_nil, or_false] at hu; rcases hu with rfl | rfl | rfl <;> first | rfl | assumption)) ?_
   rintro _ _ ⟨rfl, rfl⟩
   refine ops_turn (retell 0 (g := box b2 [v92, v93, .slice none 0 0]) rfl rfl) ?_
   refine oy rfl rfl (y_assign rfl) ?_
   refine ops_nil ?_
   refine goes_code ?_
   refine run_ret ?_
   refine fin_turn (nilrow 1) ?_
   refine fin_turn (retell 4 (g := row (.slice none 0 0) 1 (([] : List Int).map (eInt .i64))) rfl rfl) ?_
   obtain rfl := some_eq h
   refine fin_res [.cell 4 51, .tmp 5] [.agg #[v92, v93, (.slice none 0 0)], .int .i64 0] [2, 3, 4] [row v92 1 (x_90.map (eInt .i64)), row v93 1 (x_91.map (eInt .i64)), row (.slice none 0 0) 1 (([] : List Int).map (eInt .i64))] Try.results22 rfl (rescons (res_box 0 Try.isAgg51 Try.sizeOf51 rfl rfl rfl) (rescons (res_tmp rfl) resnil)) (by decide) rfl ?_
   exact ⟨_, _, _, rfl, rfl⟩
  refine any_cut2 #[true, true, true, true, true, true, true, true, false, false] 2 (Value × Value × Nat × Value) (fun σ => [(1, .int .i64 from_1), (2, boxP b1 0), (4, boxP b2 0), (32, σ.1), (36, σ.2.1), (6, boxP σ.2.2.1 0)]) (fun σ => [ro n_0_Arcsv 4 (n_0.Arcs.map S_api_Arc.enc), box b1 [.int .i64 n_0.Nodes, n_0_Arcsv], box b2 [.slice none 0 0, .slice none 0 0, .slice none 0 0], row σ.1 3 ((List.replicate (n_0.Nodes).toNat ((S_graph_reached.mk false 0 0) : S_graph_reached)).map S_graph_reached.enc), row σ.2.2.2 1 (([(-1)] : List Int).map (eInt .i64)), row σ.2.1 1 (r17.map (eInt .i64)), box σ.2.2.1 [.slice none 0 0]]) ?_ (fun hK220 => ?_)
  ·rintro ⟨v22, v29, b32, v25⟩
   change AnyL _ _ _ _ _ (VF.of [(1, .int .i64 from_1), (2, boxP b1 0), (4, boxP b2 0), (32, v22), (36, v29), (6, boxP b32 0)]) [ro n_0_Arcsv 4 (n_0.Arcs.map S_api_Arc.enc), box b1 [.int .i64 n_0.Nodes, n_0_Arcsv], box b2 [.slice none 0 0, .slice none 0 0, .slice none 0 0], row v22 3 ((List.replicate (n_0.Nodes).toNat ((S_graph_reached.mk false 0 0) : S_graph_reached)).map S_graph_reached.enc), row v25 1 (([(-1)] : List Int).map (eInt .i64)), row v29 1 (r17.map (eInt .i64)), box b32 [.slice none 0 0]] _
   refine any_all [8] (by kernel_rfl) rfl ?_
   refine anyo_cons ?_ ?_
   ·
    refine anyo_slc 3 rfl reads_row (fun hs221 hs221o => ?_)
    refine any_t rfl (wn rfl) rfl (t_store 6 Try.sizeOf86 rfl rfl rfl (by rw [hs221]; rfl) (by simp [Value.cells, boxP]) (by rw [hs221]; intro u hu; replace hu : u ∈ ([v22] : List Value) := hu; simp only [List.mem_cons, List.not_mem_nil, or_false] at hu; rcases hu with rfl <;> first | rfl | assumption)) ?_
    rintro _ _ ⟨rfl, rfl⟩
    refine ⟨(ss (ss (ss (sn)))), ?_⟩
    refine any_turn (retell 6 (g := box b32 [v22]) rfl (by rw [hs221]; rfl)) ?_
    refine any_y 9 rfl (by kernel_rfl) (by kernel_rfl) (by kernel_rfl) (ss (ss (ss (sn)))) (wn rfl) rfl (y_assign rfl) ?_
    exact any_weak2 (hK34 (b32, v29, v22, v25)) [0, 1, 2, 3, 4, 5, 6] (by kernel_rfl) (qv5 rfl rfl rfl rfl rfl) (by decide) rfl
   exact anyo_nil
  refine any_cut2 #[true, true, true, true, true, true, true, false, false, false] 3 (Value × Value × Value) (fun σ => [(1, .int .i64 from_1), (2, boxP b1 0), (4, boxP b2 0), (32, σ.1), (36, σ.2.1)]) (fun σ => [ro n_0_Arcsv 4 (n_0.Arcs.map S_api_Arc.enc), box b1 [.int .i64 n_0.Nodes, n_0_Arcsv], box b2 [.slice none 0 0, .slice none 0 0, .slice none 0 0], row σ.1 3 ((List.replicate (n_0.Nodes).toNat ((S_graph_reached.mk false 0 0) : S_graph_reached)).map S_graph_reached.enc), row σ.2.2 1 (([(-1)] : List Int).map (eInt .i64)), row σ.2.1 1 (r17.map (eInt .i64))]) ?_ (fun hK222 => ?_)
  ·rintro ⟨v22, v29, v25⟩
   change AnyL _ _ _ _ _ (VF.of [(1, .int .i64 from_1), (2, boxP b1 0), (4, boxP b2 0), (32, v22), (36, v29)]) [ro n_0_Arcsv 4 (n_0.Arcs.map S_api_Arc.enc), box b1 [.int .i64 n_0.Nodes, n_0_Arcsv], box b2 [.slice none 0 0, .slice none 0 0, .slice none 0 0], row v22 3 ((List.replicate (n_0.Nodes).toNat ((S_graph_reached.mk false 0 0) : S_graph_reached)).map S_graph_reached.enc), row v25 1 (([(-1)] : List Int).map (eInt .i64)), row v29 1 (r17.map (eInt .i64))] _
   refine any_all [7] (by kernel_rfl) rfl ?_
   refine anyo_cons ?_ ?_
   ·
    refine any_t rfl (wn rfl) rfl (t_alloc Try.zeroValue86) ?_
    rintro _ _ ⟨b223, rfl, rfl⟩
    refine ⟨(ss (ss (ss (sn)))), ?_⟩
    exact any_weak2 (hK220 (v22, v29, b223, v25)) [0, 1, 2, 3, 4, 5, 6] (by kernel_rfl) (qv6 rfl rfl rfl rfl rfl rfl) (by decide) rfl
   exact anyo_nil
  refine any_cut2 #[true, true, true, true, true, true, false, true, false, false] 3 (Value × Value × Nat) (fun σ => [(1, .int .i64 from_1), (2, boxP b1 0), (4, boxP b2 0), (35, .int .i64 n_0.Nodes), (32, σ.1), (33, σ.2.1), (6, boxP σ.2.2 0)]) (fun σ => [ro n_0_Arcsv 4 (n_0.Arcs.map S_api_Arc.enc), box b1 [.int .i64 n_0.Nodes, n_0_Arcsv], box b2 [.slice none 0 0, .slice none 0 0, .slice none 0 0], row σ.1 3 ((List.replicate (n_0.Nodes).toNat ((S_graph_reached.mk false 0 0) : S_graph_reached)).map S_graph_reached.enc), row σ.2.1 1 (([(-1)] : List Int).map (eInt .i64)), box σ.2.2 [.slice none 0 0]]) ?_ (fun hK224 => ?_)
  ·rintro ⟨v22, v25, b30⟩
   change AnyL _ _ _ _ _ (VF.of [(1, .int .i64 from_1), (2, boxP b1 0), (4, boxP b2 0), (35, .int .i64 n_0.Nodes), (32, v22), (33, v25), (6, boxP b30 0)]) [ro n_0_Arcsv 4 (n_0.Arcs.map S_api_Arc.enc), box b1 [.int .i64 n_0.Nodes, n_0_Arcsv], box b2 [.slice none 0 0, .slice none 0 0, .slice none 0 0], row v22 3 ((List.replicate (n_0.Nodes).toNat ((S_graph_reached.mk false 0 0) : S_graph_reached)).map S_graph_reached.enc), row v25 1 (([(-1)] : List Int).map (eInt .i64)), box b30 [.slice none 0 0]] _
   refine any_all [6] (by kernel_rfl) rfl ?_
   refine anyo_cons ?_ ?_
   ·
    refine any_t rfl (wn rfl) rfl (t_callx (vs := [v25, .int .i64 n_0.Nodes]) (cs := []) [(4, 1)] rfl Try.call48 rfl (slices_Repeat_int_int_48_ok n ([(-1)] : List Int) n_0.Nodes v25 hr18) (showsX_look 4 rfl views_row showsX_nil) rfl (.inr (by rintro _ _ ⟨_, rfl, rfl⟩ g hg; first | (cases hg; done) | (simp only [List.mem_cons, List.not_mem_nil, or_false] at hg; first | (subst hg; first | exact strict_row | exact strict_box) | (rcases hg with rfl | rfl <;> first | exact strict_row | exact strict_box) | (rcases hg with rfl | rfl | rfl <;> first | exact strict_row | exact strict_box))))) ?_
    rintro v225 _ ⟨_, ⟨_, rfl, rfl⟩, rfl⟩
    refine ⟨(ss (ss (ss (sn)))), ?_⟩
    exact any_weak2 (hK220 (v22, v225, b30, v25)) [0, 1, 2, 3, 4, 6, 5] (by kernel_rfl) (qv6 rfl rfl rfl rfl rfl rfl) (by decide) rfl
   exact anyo_nil
  refine any_cut2 #[true, true, false, true, true, true, true, true, false, false] 3 (Value × Nat × Value) (fun σ => [(1, .int .i64 from_1), (2, boxP b1 0), (4, boxP b2 0), (31, .int .i64 n_0.Nodes), (36, σ.1), (6, boxP σ.2.1 0)]) (fun σ => [ro n_0_Arcsv 4 (n_0.Arcs.map S_api_Arc.enc), box b1 [.int .i64 n_0.Nodes, n_0_Arcsv], box b2 [.slice none 0 0, .slice none 0 0, .slice none 0 0], row σ.2.2 1 (([(-1)] : List Int).map (eInt .i64)), row σ.1 1 (r17.map (eInt .i64)), box σ.2.1 [.slice none 0 0]]) ?_ (fun hK226 => ?_)
  ·rintro ⟨v27, b31, v23⟩
   change AnyL _ _ _ _ _ (VF.of [(1, .int .i64 from_1), (2, boxP b1 0), (4, boxP b2 0), (31, .int .i64 n_0.Nodes), (36, v27), (6, boxP b31 0)]) [ro n_0_Arcsv 4 (n_0.Arcs.map S_api_Arc.enc), box b1 [.int .i64 n_0.Nodes, n_0_Arcsv], box b2 [.slice none 0 0, .slice none 0 0, .slice none 0 0], row v23 1 (([(-1)] : List Int).map (eInt .i64)), row v27 1 (r17.map (eInt .i64)), box b31 [.slice none 0 0]] _
   refine any_all [2] (by kernel_rfl) rfl ?_
   refine anyo_cons ?_ ?_
   ·
    refine any_t rfl (wn rfl) rfl (t_makeSlice (es := 3) Try.runUnderlying86 Try.typeInfo89 rfl Try.zeroValue89 rfl (by decide) rfl rfl hm15.1 hm15.2 (by decide)) ?_
    rintro v227 _ rfl
    refine ⟨(ss (ss (ss (sn)))), ?_⟩
    refine any_turn (retell 6 (g := row v227 3 ((List.replicate (n_0.Nodes).toNat ((S_graph_reached.mk false 0 0) : S_graph_reached)).map S_graph_reached.enc)) rfl (congrArg (row _ _) (map_rep rfl))) ?_
    exact any_weak2 (hK220 (v227, v27, b31, v23)) [0, 1, 2, 6, 3, 4, 5] (by kernel_rfl) (qv6 rfl rfl rfl rfl rfl rfl) (by decide) rfl
   exact anyo_nil
  refine any_cut2 #[true, true, true, true, true, true, false, false, false, false] 4 (Value × Value) (fun σ => [(1, .int .i64 from_1), (2, boxP b1 0), (4, boxP b2 0), (35, .int .i64 n_0.Nodes), (32, σ.1), (33, σ.2)]) (fun σ => [ro n_0_Arcsv 4 (n_0.Arcs.map S_api_Arc.enc), box b1 [.int .i64 n_0.Nodes, n_0_Arcsv], box b2 [.slice none 0 0, .slice none 0 0, .slice none 0 0], row σ.1 3 ((List.replicate (n_0.Nodes).toNat ((S_graph_reached.mk false 0 0) : S_graph_reached)).map S_graph_reached.enc), row σ.2 1 (([(-1)] : List Int).map (eInt .i64))]) ?_ (fun hK228 => ?_)
  ·rintro ⟨v22, v25⟩
   change AnyL _ _ _ _ _ (VF.of [(1, .int .i64 from_1), (2, boxP b1 0), (4, boxP b2 0), (35, .int .i64 n_0.Nodes), (32, v22), (33, v25)]) [ro n_0_Arcsv 4 (n_0.Arcs.map S_api_Arc.enc), box b1 [.int .i64 n_0.Nodes, n_0_Arcsv], box b2 [.slice none 0 0, .slice none 0 0, .slice none 0 0], row v22 3 ((List.replicate (n_0.Nodes).toNat ((S_graph_reached.mk false 0 0) : S_graph_reached)).map S_graph_reached.enc), row v25 1 (([(-1)] : List Int).map (eInt .i64))] _
   refine any_all [6, 7] (by kernel_rfl) rfl ?_
   refine anyo_cons ?_ ?_
   ·
    refine any_t rfl (wn rfl) rfl (t_callx (vs := [v25, .int .i64 n_0.Nodes]) (cs := []) [(4, 1)] rfl Try.call48 rfl (slices_Repeat_int_int_48_ok n ([(-1)] : List Int) n_0.Nodes v25 hr18) (showsX_look 4 rfl views_row showsX_nil) rfl (.inr (by rintro _ _ ⟨_, rfl, rfl⟩ g hg; first | (cases hg; done) | (simp only [List.mem_cons, List.not_mem_nil, or_false] at hg; first | (subst hg; first | exact strict_row | exact strict_box) | (rcases hg with rfl | rfl <;> first | exact strict_row | exact strict_box) | (rcases hg with rfl | rfl | rfl <;> first | exact strict_row | exact strict_box))))) ?_
    rintro v229 _ ⟨_, ⟨_, rfl, rfl⟩, rfl⟩
    refine ⟨(ss (ss (ss (sn)))), ?_⟩
    exact any_weak2 (hK222 (v22, v229, v25)) [0, 1, 2, 3, 4, 5] (by kernel_rfl) (qv5 rfl rfl rfl rfl rfl) (by decide) rfl
   refine anyo_cons ?_ ?_
   ·
    refine any_t rfl (wn rfl) rfl (t_alloc Try.zeroValue86) ?_
    rintro _ _ ⟨b230, rfl, rfl⟩
    refine ⟨(ss (ss (ss (sn)))), ?_⟩
    exact any_weak2 (hK224 (v22, v25, b230)) [0, 1, 2, 3, 4, 5] (by kernel_rfl) (qv7 rfl rfl rfl rfl rfl rfl rfl) (by decide) rfl
   exact anyo_nil
  refine any_cut2 #[true, true, true, false, true, true, false, true, false, false] 4 (Value × Nat) (fun σ => [(1, .int .i64 from_1), (2, boxP b1 0), (4, boxP b2 0), (35, .int .i64 n_0.Nodes), (32, σ.1), (6, boxP σ.2 0)]) (fun σ => [ro n_0_Arcsv 4 (n_0.Arcs.map S_api_Arc.enc), box b1 [.int .i64 n_0.Nodes, n_0_Arcsv], box b2 [.slice none 0 0, .slice none 0 0, .slice none 0 0], row σ.1 3 ((List.replicate (n_0.Nodes).toNat ((S_graph_reached.mk false 0 0) : S_graph_reached)).map S_graph_reached.enc), box σ.2 [.slice none 0 0]]) ?_ (fun hK231 => ?_)
  ·rintro ⟨v22, b26⟩
   change AnyL _ _ _ _ _ (VF.of [(1, .int .i64 from_1), (2, boxP b1 0), (4, boxP b2 0), (35, .int .i64 n_0.Nodes), (32, v22), (6, boxP b26 0)]) [ro n_0_Arcsv 4 (n_0.Arcs.map S_api_Arc.enc), box b1 [.int .i64 n_0.Nodes, n_0_Arcsv], box b2 [.slice none 0 0, .slice none 0 0, .slice none 0 0], row v22 3 ((List.replicate (n_0.Nodes).toNat ((S_graph_reached.mk false 0 0) : S_graph_reached)).map S_graph_reached.enc), box b26 [.slice none 0 0]] _
   refine any_all [3] (by kernel_rfl) rfl ?_
   refine anyo_cons ?_ ?_
   ·
    refine any_t rfl (wn rfl) rfl (t_lit [.int .i64 (-1)] Try.runUnderlying34 Try.sizeOf3 Try.zeroValue3 rfl (by decide) (by decide) rfl (by simp [Value.cells, boxP])) ?_
    rintro v232 _ ⟨rfl, _⟩
    refine ⟨(ss (ss (ss (sn)))), ?_⟩
    refine any_turn (retell 5 (g := row v232 1 (([(-1)] : List Int).map (eInt .i64))) rfl rfl) ?_
    exact any_weak2 (hK224 (v22, v232, b26)) [0, 1, 2, 3, 5, 4] (by kernel_rfl) (qv7 rfl rfl rfl rfl rfl rfl rfl) (by decide) rfl
   exact anyo_nil
  refine any_cut2 #[true, true, false, true, true, true, true, false, false, false] 4 (Value × Value) (fun σ => [(1, .int .i64 from_1), (2, boxP b1 0), (4, boxP b2 0), (31, .int .i64 n_0.Nodes), (36, σ.1)]) (fun σ => [ro n_0_Arcsv 4 (n_0.Arcs.map S_api_Arc.enc), box b1 [.int .i64 n_0.Nodes, n_0_Arcsv], box b2 [.slice none 0 0, .slice none 0 0, .slice none 0 0], row σ.2 1 (([(-1)] : List Int).map (eInt .i64)), row σ.1 1 (r17.map (eInt .i64))]) ?_ (fun hK233 => ?_)
  ·rintro ⟨v27, v23⟩
   change AnyL _ _ _ _ _ (VF.of [(1, .int .i64 from_1), (2, boxP b1 0), (4, boxP b2 0), (31, .int .i64 n_0.Nodes), (36, v27)]) [ro n_0_Arcsv 4 (n_0.Arcs.map S_api_Arc.enc), box b1 [.int .i64 n_0.Nodes, n_0_Arcsv], box b2 [.slice none 0 0, .slice none 0 0, .slice none 0 0], row v23 1 (([(-1)] : List Int).map (eInt .i64)), row v27 1 (r17.map (eInt .i64))] _
   refine any_all [2, 7] (by kernel_rfl) rfl ?_
   refine anyo_cons ?_ ?_
   ·
    refine any_t rfl (wn rfl) rfl (t_makeSlice (es := 3) Try.runUnderlying86 Try.typeInfo89 rfl Try.zeroValue89 rfl (by decide) rfl rfl hm15.1 hm15.2 (by decide)) ?_
    rintro v234 _ rfl
    refine ⟨(ss (ss (ss (sn)))), ?_⟩
    refine any_turn (retell 5 (g := row v234 3 ((List.replicate (n_0.Nodes).toNat ((S_graph_reached.mk false 0 0) : S_graph_reached)).map S_graph_reached.enc)) rfl (congrArg (row _ _) (map_rep rfl))) ?_
    exact any_weak2 (hK222 (v234, v27, v23)) [0, 1, 2, 5, 3, 4] (by kernel_rfl) (qv5 rfl rfl rfl rfl rfl) (by decide) rfl
   refine anyo_cons ?_ ?_
   ·
    refine any_t rfl (wn rfl) rfl (t_alloc Try.zeroValue86) ?_
    rintro _ _ ⟨b235, rfl, rfl⟩
    refine ⟨(ss (ss (ss (sn)))), ?_⟩
    exact any_weak2 (hK226 (v27, b235, v23)) [0, 1, 2, 3, 4, 5] (by kernel_rfl) (qv6 rfl rfl rfl rfl rfl rfl) (by decide) rfl
   exact anyo_nil
  refine any_cut2 #[true, true, false, true, true, true, false, true, false, false] 4 (Value × Nat) (fun σ => [(1, .int .i64 from_1), (2, boxP b1 0), (4, boxP b2 0), (31, .int .i64 n_0.Nodes), (35, .int .i64 n_0.Nodes), (33, σ.1), (6, boxP σ.2 0)]) (fun σ => [ro n_0_Arcsv 4 (n_0.Arcs.map S_api_Arc.enc), box b1 [.int .i64 n_0.Nodes, n_0_Arcsv], box b2 [.slice none 0 0, .slice none 0 0, .slice none 0 0], row σ.1 1 (([(-1)] : List Int).map (eInt .i64)), box σ.2 [.slice none 0 0]]) ?_ (fun hK236 => ?_)
  ·rintro ⟨v23, b28⟩
   change AnyL _ _ _ _ _ (VF.of [(1, .int .i64 from_1), (2, boxP b1 0), (4, boxP b2 0), (31, .int .i64 n_0.Nodes), (35, .int .i64 n_0.Nodes), (33, v23), (6, boxP b28 0)]) [ro n_0_Arcsv 4 (n_0.Arcs.map S_api_Arc.enc), box b1 [.int .i64 n_0.Nodes, n_0_Arcsv], box b2 [.slice none 0 0, .slice none 0 0, .slice none 0 0], row v23 1 (([(-1)] : List Int).map (eInt .i64)), box b28 [.slice none 0 0]] _
   refine any_all [2, 6] (by kernel_rfl) rfl ?_
   refine anyo_cons ?_ ?_
   ·
    refine any_t rfl (wn rfl) rfl (t_makeSlice (es := 3) Try.runUnderlying86 Try.typeInfo89 rfl Try.zeroValue89 rfl (by decide) rfl rfl hm15.1 hm15.2 (by decide)) ?_
    rintro v237 _ rfl
    refine ⟨(ss (ss (ss (sn)))), ?_⟩
    refine any_turn (retell 5 (g := row v237 3 ((List.replicate (n_0.Nodes).toNat ((S_graph_reached.mk false 0 0) : S_graph_reached)).map S_graph_reached.enc)) rfl (congrArg (row _ _) (map_rep rfl))) ?_
    exact any_weak2 (hK224 (v237, v23, b28)) [0, 1, 2, 5, 3, 4] (by kernel_rfl) (qv7 rfl rfl rfl rfl rfl rfl rfl) (by decide) rfl
   refine anyo_cons ?_ ?_
   ·
    refine any_t rfl (wn rfl) rfl (t_callx (vs := [v23, .int .i64 n_0.Nodes]) (cs := []) [(3, 1)] rfl Try.call48 rfl (slices_Repeat_int_int_48_ok n ([(-1)] : List Int) n_0.Nodes v23 hr18) (showsX_look 3 rfl views_row showsX_nil) rfl (.inr (by rintro _ _ ⟨_, rfl, rfl⟩ g hg; first | (cases hg; done) | (simp only [List.mem_cons, List.not_mem_nil, or_false] at hg; first | (subst hg; first | exact strict_row | exact strict_box) | (rcases hg with rfl | rfl <;> first | exact strict_row | exact strict_box) | (rcases hg with rfl | rfl | rfl <;> first | exact strict_row | exact strict_box))))) ?_
    rintro v238 _ ⟨_, ⟨_, rfl, rfl⟩, rfl⟩
    refine ⟨(ss (ss (ss (sn)))), ?_⟩
    exact any_weak2 (hK226 (v238, b28, v23)) [0, 1, 2, 3, 5, 4] (by kernel_rfl) (qv6 rfl rfl rfl rfl rfl rfl) (by decide) rfl
   exact anyo_nil
  refine any_cut2 #[true, true, true, false, true, true, false, false, false, false] 5 (Value) (fun σ => [(1, .int .i64 from_1), (2, boxP b1 0), (4, boxP b2 0), (35, .int .i64 n_0.Nodes), (32, σ)]) (fun σ => [ro n_0_Arcsv 4 (n_0.Arcs.map S_api_Arc.enc), box b1 [.int .i64 n_0.Nodes, n_0_Arcsv], box b2 [.slice none 0 0, .slice none 0 0, .slice none 0 0], row σ 3 ((List.replicate (n_0.Nodes).toNat ((S_graph_reached.mk false 0 0) : S_graph_reached)).map S_graph_reached.enc)]) ?_ (fun hK239 => ?_)
  ·rintro v22
   change AnyL _ _ _ _ _ (VF.of [(1, .int .i64 from_1), (2, boxP b1 0), (4, boxP b2 0), (35, .int .i64 n_0.Nodes), (32, v22)]) [ro n_0_Arcsv 4 (n_0.Arcs.map S_api_Arc.enc), box b1 [.int .i64 n_0.Nodes, n_0_Arcsv], box b2 [.slice none 0 0, .slice none 0 0, .slice none 0 0], row v22 3 ((List.replicate (n_0.Nodes).toNat ((S_graph_reached.mk false 0 0) : S_graph_reached)).map S_graph_reached.enc)] _
   refine any_all [3, 7] (by kernel_rfl) rfl ?_
   refine anyo_cons ?_ ?_
   ·
    refine any_t rfl (wn rfl) rfl (t_lit [.int .i64 (-1)] Try.runUnderlying34 Try.sizeOf3 Try.zeroValue3 rfl (by decide) (by decide) rfl (by simp [Value.cells, boxP])) ?_
    rintro v240 _ ⟨rfl, _⟩
    refine ⟨(ss (ss (ss (sn)))), ?_⟩
    refine any_turn (retell 4 (g := row v240 1 (([(-1)] : List Int).map (eInt .i64))) rfl rfl) ?_
    exact any_weak2 (hK228 (v22, v240)) [0, 1, 2, 3, 4] (by kernel_rfl) (qv6 rfl rfl rfl rfl rfl rfl) (by decide) rfl
   refine anyo_cons ?_ ?_
   ·
    refine any_t rfl (wn rfl) rfl (t_alloc Try.zeroValue86) ?_
    rintro _ _ ⟨b241, rfl, rfl⟩
    refine ⟨(ss (ss (ss (sn)))), ?_⟩
    exact any_weak2 (hK231 (v22, b241)) [0, 1, 2, 3, 4] (by kernel_rfl) (qv6 rfl rfl rfl rfl rfl rfl) (by decide) rfl
   exact anyo_nil
  refine any_cut2 #[true, true, false, true, true, true, false, false, false, false] 5 (Value) (fun σ => [(1, .int .i64 from_1), (2, boxP b1 0), (4, boxP b2 0), (31, .int .i64 n_0.Nodes), (35, .int .i64 n_0.Nodes), (33, σ)]) (fun σ => [ro n_0_Arcsv 4 (n_0.Arcs.map S_api_Arc.enc), box b1 [.int .i64 n_0.Nodes, n_0_Arcsv], box b2 [.slice none 0 0, .slice none 0 0, .slice none 0 0], row σ 1 (([(-1)] : List Int).map (eInt .i64))]) ?_ (fun hK242 => ?_)
  ·rintro v23
   change AnyL _ _ _ _ _ (VF.of [(1, .int .i64 from_1), (2, boxP b1 0), (4, boxP b2 0), (31, .int .i64 n_0.Nodes), (35, .int .i64 n_0.Nodes), (33, v23)]) [ro n_0_Arcsv 4 (n_0.Arcs.map S_api_Arc.enc), box b1 [.int .i64 n_0.Nodes, n_0_Arcsv], box b2 [.slice none 0 0, .slice none 0 0, .slice none 0 0], row v23 1 (([(-1)] : List Int).map (eInt .i64))] _
   refine any_all [2, 6, 7] (by kernel_rfl) rfl ?_
   refine anyo_cons ?_ ?_
   ·
    refine any_t rfl (wn rfl) rfl (t_makeSlice (es := 3) Try.runUnderlying86 Try.typeInfo89 rfl Try.zeroValue89 rfl (by decide) rfl rfl hm15.1 hm15.2 (by decide)) ?_
    rintro v243 _ rfl
    refine ⟨(ss (ss (ss (sn)))), ?_⟩
    refine any_turn (retell 4 (g := row v243 3 ((List.replicate (n_0.Nodes).toNat ((S_graph_reached.mk false 0 0) : S_graph_reached)).map S_graph_reached.enc)) rfl (congrArg (row _ _) (map_rep rfl))) ?_
    exact any_weak2 (hK228 (v243, v23)) [0, 1, 2, 4, 3] (by kernel_rfl) (qv6 rfl rfl rfl rfl rfl rfl) (by decide) rfl
   refine anyo_cons ?_ ?_
   ·
    refine any_t rfl (wn rfl) rfl (t_callx (vs := [v23, .int .i64 n_0.Nodes]) (cs := []) [(3, 1)] rfl Try.call48 rfl (slices_Repeat_int_int_48_ok n ([(-1)] : List Int) n_0.Nodes v23 hr18) (showsX_look 3 rfl views_row showsX_nil) rfl (.inr (by rintro _ _ ⟨_, rfl, rfl⟩ g hg; first | (cases hg; done) | (simp only [List.mem_cons, List.not_mem_nil, or_false] at hg; first | (subst hg; first | exact strict_row | exact strict_box) | (rcases hg with rfl | rfl <;> first | exact strict_row | exact strict_box) | (rcases hg with rfl | rfl | rfl <;> first | exact strict_row | exact strict_box))))) ?_
    rintro v244 _ ⟨_, ⟨_, rfl, rfl⟩, rfl⟩
    refine ⟨(ss (ss (ss (sn)))), ?_⟩
    exact any_weak2 (hK233 (v244, v23)) [0, 1, 2, 3, 4] (by kernel_rfl) (qv5 rfl rfl rfl rfl rfl) (by decide) rfl
   refine anyo_cons ?_ ?_
   ·
    refine any_t rfl (wn rfl) rfl (t_alloc Try.zeroValue86) ?_
    rintro _ _ ⟨b245, rfl, rfl⟩
    refine ⟨(ss (ss (ss (sn)))), ?_⟩
    exact any_weak2 (hK236 (v23, b245)) [0, 1, 2, 3, 4] (by kernel_rfl) (qv7 rfl rfl rfl rfl rfl rfl rfl) (by decide) rfl
   exact anyo_nil
  refine any_cut2 #[true, true, false, false, true, true, false, true, false, false] 5 (Nat) (fun σ => [(1, .int .i64 from_1), (2, boxP b1 0), (4, boxP b2 0), (31, .int .i64 n_0.Nodes), (35, .int .i64 n_0.Nodes), (6, boxP σ 0)]) (fun σ => [ro n_0_Arcsv 4 (n_0.Arcs.map S_api_Arc.enc), box b1 [.int .i64 n_0.Nodes, n_0_Arcsv], box b2 [.slice none 0 0, .slice none 0 0, .slice none 0 0], box σ [.slice none 0 0]]) ?_ (fun hK246 => ?_)
  ·rintro b24
   change AnyL _ _ _ _ _ (VF.of [(1, .int .i64 from_1), (2, boxP b1 0), (4, boxP b2 0), (31, .int .i64 n_0.Nodes), (35, .int .i64 n_0.Nodes), (6, boxP b24 0)]) [ro n_0_Arcsv 4 (n_0.Arcs.map S_api_Arc.enc), box b1 [.int .i64 n_0.Nodes, n_0_Arcsv], box b2 [.slice none 0 0, .slice none 0 0, .slice none 0 0], box b24 [.slice none 0 0]] _
   refine any_all [2, 3] (by kernel_rfl) rfl ?_
   refine anyo_cons ?_ ?_
   ·
    refine any_t rfl (wn rfl) rfl (t_makeSlice (es := 3) Try.runUnderlying86 Try.typeInfo89 rfl Try.zeroValue89 rfl (by decide) rfl rfl hm15.1 hm15.2 (by decide)) ?_
    rintro v247 _ rfl
    refine ⟨(ss (ss (ss (sn)))), ?_⟩
    refine any_turn (retell 4 (g := row v247 3 ((List.replicate (n_0.Nodes).toNat ((S_graph_reached.mk false 0 0) : S_graph_reached)).map S_graph_reached.enc)) rfl (congrArg (row _ _) (map_rep rfl))) ?_
    exact any_weak2 (hK231 (v247, b24)) [0, 1, 2, 4, 3] (by kernel_rfl) (qv6 rfl rfl rfl rfl rfl rfl) (by decide) rfl
   refine anyo_cons ?_ ?_
   ·
    refine any_t rfl (wn rfl) rfl (t_lit [.int .i64 (-1)] Try.runUnderlying34 Try.sizeOf3 Try.zeroValue3 rfl (by decide) (by decide) rfl (by simp [Value.cells, boxP])) ?_
    rintro v248 _ ⟨rfl, _⟩
    refine ⟨(ss (ss (ss (sn)))), ?_⟩
    refine any_turn (retell 4 (g := row v248 1 (([(-1)] : List Int).map (eInt .i64))) rfl rfl) ?_
    exact any_weak2 (hK236 (v248, b24)) [0, 1, 2, 4, 3] (by kernel_rfl) (qv7 rfl rfl rfl rfl rfl rfl rfl) (by decide) rfl
   exact anyo_nil
  refine any_all [2, 3, 7] (by kernel_rfl) rfl ?_
  refine anyo_cons ?_ ?_
  ·
   refine any_t rfl (wn rfl) rfl (t_makeSlice (es := 3) Try.runUnderlying86 Try.typeInfo89 rfl Try.zeroValue89 rfl (by decide) rfl rfl hm15.1 hm15.2 (by decide)) ?_
   rintro v249 _ rfl
   refine ⟨(ss (ss (ss (sn)))), ?_⟩
   refine any_turn (retell 3 (g := row v249 3 ((List.replicate (n_0.Nodes).toNat ((S_graph_reached.mk false 0 0) : S_graph_reached)).map S_graph_reached.enc)) rfl (congrArg (row _ _) (map_rep rfl))) ?_
   exact any_weak2 (hK239 v249) [0, 1, 2, 3] (by kernel_rfl) (qv5 rfl rfl rfl rfl rfl) (by decide) rfl
  refine anyo_cons ?_ ?_
  ·
   refine any_t rfl (wn rfl) rfl (t_lit [.int .i64 (-1)] Try.runUnderlying34 Try.sizeOf3 Try.zeroValue3 rfl (by decide) (by decide) rfl (by simp [Value.cells, boxP])) ?_
   rintro v250 _ ⟨rfl, _⟩
   refine ⟨(ss (ss (ss (sn)))), ?_⟩
   refine any_turn (retell 3 (g := row v250 1 (([(-1)] : List Int).map (eInt .i64))) rfl rfl) ?_
   exact any_weak2 (hK242 v250) [0, 1, 2, 3] (by kernel_rfl) (qv6 rfl rfl rfl rfl rfl rfl) (by decide) rfl
  refine anyo_cons ?_ ?_
  ·
   refine any_t rfl (wn rfl) rfl (t_alloc Try.zeroValue86) ?_
   rintro _ _ ⟨b251, rfl, rfl⟩
   refine ⟨(ss (ss (ss (sn)))), ?_⟩
   exact any_weak2 (hK246 b251) [0, 1, 2, 3] (by kernel_rfl) (qv6 rfl rfl rfl rfl rfl rfl) (by decide) rfl
  exact anyo_nil

end Go.Proofs.Ytgelifcckhemiaa
