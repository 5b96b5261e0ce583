/-
  Functions that the law GraphWalksAsSpecified needs, lifted.
-/
import Derived.Test.YtgelifcckhemiaaM7
namespace Go.Proofs.Ytgelifcckhemiaa
open Go.Abs
set_option linter.unusedVariables false
set_option linter.unusedSimpArgs false
set_option maxRecDepth 20000
set_option maxHeartbeats 4000000

def ref09_Valid_L1 (n_0 : S_api_Net) : (Int) → Option (Lp (Int) (Lp (Unit) (Bool))) :=
 fun i_13 =>
  cond (decide (i_13 < (n_0.Arcs.length : Int)))
   (idx n_0.Arcs i_13 fun x19 =>
   cond (((((decide (x19.From < 0) || decide (n_0.Nodes ≤ x19.From)) || decide (x19.To < 0)) || decide (n_0.Nodes ≤ x19.To)) || decide (1048576 < x19.Cost)) || decide (x19.Cost < (-1048576)))
    (some (.stop (.stop false)))
    (some (.go (IntKind.i64.wrap (i_13 + 1)))))
   (some (.stop (.go ())))
def ref09_Valid (n : Nat) (n_0 : S_api_Net) : Option (Bool) :=
 cond ((decide (n_0.Nodes < 0) || decide (256 < n_0.Nodes)) || decide (2048 < (n_0.Arcs.length : Int)))
  (some false)
  (bindJ (S := Unit)
   (iter (ref09_Valid_L1 n_0) n 0)
  (fun _ =>
   some true))
theorem ref09_Valid_ok (n : Nat) (n_0 : S_api_Net) (n_0_Arcsv : Value) {r : Bool} (h : ref09_Valid n n_0 = some r) :
  Meets Try.prog 18 [.agg #[.int .i64 n_0.Nodes, n_0_Arcsv]] [ro n_0_Arcsv 4 (n_0.Arcs.map S_api_Arc.enc)] (fun v G => v = .bool r ∧ G = []) := by
 refine fn_of_run Try.func18 rfl Try.ntmps18 rfl (fun w0 o0 => ?_)
 refine run_seq ?_
 refine run_region' ?_
 refine ot rfl rfl (t_box rfl) ?_
 rintro _ _ ⟨b1, rfl, rfl⟩
 refine oy rfl rfl (y_assign rfl) ?_
 refine ops_nil ?_
 refine goes_code ?_
 refine run_seq ?_
 refine run_seq ?_
 refine run_region' ?_
 refine oy rfl rfl (y_fieldAddr_box (sz := 0) Try.runUnderlying24 rfl Try.sizeOf3 rfl) ?_
 refine oy rfl rfl (y_load_box 1 Try.isAgg3 rfl rfl rfl) ?_
 refine oy rfl rfl (y_lss rfl rfl) ?_
 refine oy rfl rfl (y_move rfl) ?_
 refine ops_cut 4 (Bool) (fun σ => [(1, boxP b1 0), (12, .bool σ)]) (fun σ => [ro n_0_Arcsv 4 (n_0.Arcs.map S_api_Arc.enc), box b1 [.int .i64 n_0.Nodes, n_0_Arcsv]]) (fun σ => σ = (decide (n_0.Nodes < 0) || decide (256 < n_0.Nodes))) (fun L2 hL3 => ?_) ?_
 ·refine ops_split 8 (decide (n_0.Nodes < 0)) rfl (fun hg4 => ?_) (fun hg4 => ?_)
  ·skip
   refine ops_no 3 false 8 rfl rfl rfl rfl rfl ?_
   refine ops_no 3 false 8 rfl rfl rfl rfl rfl ?_
   refine ops_no 3 false 8 rfl rfl rfl rfl rfl ?_
   refine oy rfl rfl (y_pick (b := true) rfl rfl) ?_
   refine ops_nil ?_
   exact goes_cut hL3 true [0, 1] (qv2 rfl rfl) (by decide) rfl (by rw [hg4]; simp)
  ·skip
   refine ops_y (wg 3 false 8 rfl rfl rfl rfl) rfl (y_fieldAddr_box (sz := 0) Try.runUnderlying24 rfl Try.sizeOf3 rfl) ?_
   refine ops_y (wg 3 false 8 rfl rfl rfl rfl) rfl (y_load_box 1 Try.isAgg3 rfl rfl rfl) ?_
   refine ops_y (wg 3 false 8 rfl rfl rfl rfl) rfl (y_gtr rfl rfl) ?_
   refine oy rfl rfl (y_pick (b := false) rfl rfl) ?_
   refine ops_nil ?_
   exact goes_cut hL3 (decide (256 < n_0.Nodes)) [0, 1] (qv2 rfl rfl) (by decide) rfl (by rw [hg4]; simp)
 rintro _ rfl
 refine oy rfl rfl (y_move rfl) ?_
 refine ops_cut 5 (Bool) (fun σ => [(1, boxP b1 0), (18, .bool σ)]) (fun σ => [ro n_0_Arcsv 4 (n_0.Arcs.map S_api_Arc.enc), box b1 [.int .i64 n_0.Nodes, n_0_Arcsv]]) (fun σ => σ = ((decide (n_0.Nodes < 0) || decide (256 < n_0.Nodes)) || decide (2048 < (n_0.Arcs.length : Int)))) (fun L5 hL6 => ?_) ?_
 ·refine ops_split 13 (decide (n_0.Nodes < 0) || decide (256 < n_0.Nodes)) rfl (fun hg7 => ?_) (fun hg7 => ?_)
  ·skip
   refine ops_no 8 false 13 rfl rfl rfl rfl rfl ?_
   refine ops_no 8 false 13 rfl rfl rfl rfl rfl ?_
   refine ops_no 8 false 13 rfl rfl rfl rfl rfl ?_
   refine ops_no 8 false 13 rfl rfl rfl rfl rfl ?_
   refine oy rfl rfl (y_pick (b := true) rfl rfl) ?_
   refine ops_nil ?_
   exact goes_cut hL6 true [0, 1] (qv2 rfl rfl) (by decide) rfl (by rw [hg7]; simp)
  ·skip
   refine ops_y (wg 8 false 13 rfl rfl rfl rfl) rfl (y_fieldAddr_box (sz := 0) Try.runUnderlying24 rfl Try.sizeOf22 rfl) ?_
   refine ops_y (wg 8 false 13 rfl rfl rfl rfl) rfl (y_load_box 1 Try.isAgg22 rfl rfl rfl) ?_
   refine ops_y (wg 8 false 13 rfl rfl rfl rfl) rfl ((y_len 0 rfl Try.runUnderlying22 rfl rfl reads_ro).to (v_len S_api_Arc.enc _)) ?_
   refine ops_y (wg 8 false 13 rfl rfl rfl rfl) rfl (y_gtr rfl rfl) ?_
   refine oy rfl rfl (y_pick (b := false) rfl rfl) ?_
   refine ops_nil ?_
   exact goes_cut hL6 (decide (2048 < (n_0.Arcs.length : Int))) [0, 1] (qv2 rfl rfl) (by decide) rfl (by rw [hg7]; simp)
 rintro _ rfl
 refine ops_nil ?_
 refine goes_code ?_
 refine run_cond ((decide (n_0.Nodes < 0) || decide (256 < n_0.Nodes)) || decide (2048 < (n_0.Arcs.length : Int))) rfl (fun hc8 => ?_) (fun hc8 => ?_)
 ·replace h := cond_t h hc8
  refine run_seq ?_
  refine run_region' ?_
  refine oy rfl rfl (y_assign rfl) ?_
  refine ops_nil ?_
  refine goes_code ?_
  refine run_ret ?_
  obtain rfl := some_eq h
  refine fin_slots [2] [.bool false] [] [] Try.results18 rfl (by decide) rfl ?_
  exact ⟨rfl, rfl⟩
 ·replace h := cond_f h hc8
  refine run_skip ?_
  refine goes_code ?_
  obtain ⟨o9, h, ho10⟩ := bindJ_some h
  refine run_cut ((Unit) × (Unit)) (fun σ => []) (fun σ => []) (fun σ => o9 = .go σ.1) (fun L12 hL11 => ?_) ?_
  ·
   refine run_seq ?_
   refine run_region' ?_
   refine oy rfl rfl (y_assign rfl) ?_
   refine ops_nil ?_
   refine goes_code ?_
   refine run_block ?_
   refine run_iter (step := ref09_Valid_L1 n_0) (n := n) (s0 := 0) h (G := Unit) () (fun σ γ => [(1, boxP b1 0), (3, .int .i64 σ)]) (fun σ γ => [box b1 [.int .i64 n_0.Nodes, n_0_Arcsv], ro n_0_Arcsv 4 (n_0.Arcs.map S_api_Arc.enc)]) [1, 0] (qv2 rfl rfl) (by decide) rfl ?_
   rintro i_13 _ o14 h L17 hgo15 hstop16
   change Run _ _ _ (VF.of [(1, boxP b1 0), (3, .int .i64 i_13)]) [box b1 [.int .i64 n_0.Nodes, n_0_Arcsv], ro n_0_Arcsv 4 (n_0.Arcs.map S_api_Arc.enc)]
   refine run_seq ?_
   refine run_seq ?_
   refine run_region' ?_
   refine oy rfl rfl (y_move rfl) ?_
   refine oy rfl rfl (y_fieldAddr_box (sz := 0) Try.runUnderlying24 rfl Try.sizeOf22 rfl) ?_
   refine oy rfl rfl (y_load_box 0 Try.isAgg22 rfl rfl rfl) ?_
   refine oy rfl rfl ((y_len 1 rfl Try.runUnderlying22 rfl rfl reads_ro).to (v_len S_api_Arc.enc _)) ?_
   refine oy rfl rfl (y_lss rfl rfl) ?_
   refine ops_nil ?_
   refine goes_code ?_
   refine run_cond (decide (i_13 < (n_0.Arcs.length : Int))) rfl (fun hc18 => ?_) (fun hc18 => ?_)
   ·replace h := cond_t h hc18
    refine run_skip ?_
    refine goes_code ?_
    refine run_seq ?_
    refine run_block ?_
    refine run_seq ?_
    refine run_region' ?_
    refine oy rfl rfl (y_fieldAddr_box (sz := 0) Try.runUnderlying24 rfl Try.sizeOf22 rfl) ?_
    refine oy rfl rfl (y_load_box 0 Try.isAgg22 rfl rfl rfl) ?_
    refine oy rfl rfl (y_move rfl) ?_
    obtain ⟨x19, hzx19, hlx19, hxx19, h⟩ := idx_some h
    refine oy rfl rfl (y_indexAddrI (kd := .i64) (i := i_13) 1 Try.runUnderlying22 Try.sizeOf67 rfl rfl rfl reads_ro hzx19 (map_lt hlx19)) ?_
    refine oy rfl rfl (y_load_agg (i := i_13.toNat) (c := [.int .i64 x19.From, .int .i64 x19.To, .int .i64 x19.Cap, .int .i64 x19.Cost]) 1 Try.isAgg67 Try.sizeOf67 rfl rfl reads_ro (map_get hxx19)) ?_
    refine ot rfl rfl (t_alloc Try.zeroValue67) ?_
    rintro _ _ ⟨b20, rfl, rfl⟩
    refine ot rfl rfl (t_store 2 Try.sizeOf67 rfl rfl rfl rfl (by simp [Value.cells, boxP]) (by simp [Value.cells, Value.oneCell', boxP])) ?_
    rintro _ _ ⟨rfl, rfl⟩
    refine ops_turn (retell 2 (g := box b20 [.int .i64 x19.From, .int .i64 x19.To, .int .i64 x19.Cap, .int .i64 x19.Cost]) rfl rfl) ?_
    refine ops_nil ?_
    refine goes_code ?_
    refine run_seq ?_
    refine run_weak [(1, boxP b1 0), (3, .int .i64 i_13), (4, boxP b20 0)] [0, 1, 2] [box b1 [.int .i64 n_0.Nodes, n_0_Arcsv], ro n_0_Arcsv 4 (n_0.Arcs.map S_api_Arc.enc), box b20 [.int .i64 x19.From, .int .i64 x19.To, .int .i64 x19.Cap, .int .i64 x19.Cost]] (qv3 rfl rfl rfl) (by decide) rfl ?_
    refine run_region' ?_
    refine oy rfl rfl (y_fieldAddr_box (sz := 0) Try.runUnderlying67 rfl Try.sizeOf3 rfl) ?_
    refine oy rfl rfl (y_load_box 2 Try.isAgg3 rfl rfl rfl) ?_
    refine oy rfl rfl (y_lss rfl rfl) ?_
    refine oy rfl rfl (y_move rfl) ?_
    refine ops_cut 6 (Bool) (fun σ => [(1, boxP b1 0), (3, .int .i64 i_13), (4, boxP b20 0), (40, .bool σ)]) (fun σ => [box b1 [.int .i64 n_0.Nodes, n_0_Arcsv], ro n_0_Arcsv 4 (n_0.Arcs.map S_api_Arc.enc), box b20 [.int .i64 x19.From, .int .i64 x19.To, .int .i64 x19.Cap, .int .i64 x19.Cost]]) (fun σ => σ = (decide (x19.From < 0) || decide (n_0.Nodes ≤ x19.From))) (fun L21 hL22 => ?_) ?_
    ·refine ops_split 34 (decide (x19.From < 0)) rfl (fun hg23 => ?_) (fun hg23 => ?_)
     ·skip
      refine ops_no 3 false 34 rfl rfl rfl rfl rfl ?_
      refine ops_no 3 false 34 rfl rfl rfl rfl rfl ?_
      refine ops_no 3 false 34 rfl rfl rfl rfl rfl ?_
      refine ops_no 3 false 34 rfl rfl rfl rfl rfl ?_
      refine ops_no 3 false 34 rfl rfl rfl rfl rfl ?_
      refine oy rfl rfl (y_pick (b := true) rfl rfl) ?_
      refine ops_nil ?_
      exact goes_cut hL22 true [0, 1, 2] (qv4 rfl rfl rfl rfl) (by decide) rfl (by rw [hg23]; simp)
     ·skip
      refine ops_y (wg 3 false 34 rfl rfl rfl rfl) rfl (y_fieldAddr_box (sz := 0) Try.runUnderlying67 rfl Try.sizeOf3 rfl) ?_
      refine ops_y (wg 3 false 34 rfl rfl rfl rfl) rfl (y_load_box 2 Try.isAgg3 rfl rfl rfl) ?_
      refine ops_y (wg 3 false 34 rfl rfl rfl rfl) rfl (y_fieldAddr_box (sz := 0) Try.runUnderlying24 rfl Try.sizeOf3 rfl) ?_
      refine ops_y (wg 3 false 34 rfl rfl rfl rfl) rfl (y_load_box 0 Try.isAgg3 rfl rfl rfl) ?_
      refine ops_y (wg 3 false 34 rfl rfl rfl rfl) rfl (y_geq rfl rfl) ?_
      refine oy rfl rfl (y_pick (b := false) rfl rfl) ?_
      refine ops_nil ?_
      exact goes_cut hL22 (decide (n_0.Nodes ≤ x19.From)) [0, 1, 2] (qv4 rfl rfl rfl rfl) (by decide) rfl (by rw [hg23]; simp)
    rintro _ rfl
    refine oy rfl rfl (y_move rfl) ?_
    refine ops_cut 4 (Bool) (fun σ => [(1, boxP b1 0), (3, .int .i64 i_13), (4, boxP b20 0), (45, .bool σ)]) (fun σ => [box b1 [.int .i64 n_0.Nodes, n_0_Arcsv], ro n_0_Arcsv 4 (n_0.Arcs.map S_api_Arc.enc), box b20 [.int .i64 x19.From, .int .i64 x19.To, .int .i64 x19.Cap, .int .i64 x19.Cost]]) (fun σ => σ = ((decide (x19.From < 0) || decide (n_0.Nodes ≤ x19.From)) || decide (x19.To < 0))) (fun L24 hL25 => ?_) ?_
    ·refine ops_split 41 (decide (x19.From < 0) || decide (n_0.Nodes ≤ x19.From)) rfl (fun hg26 => ?_) (fun hg26 => ?_)
     ·skip
      refine ops_no 10 false 41 rfl rfl rfl rfl rfl ?_
      refine ops_no 10 false 41 rfl rfl rfl rfl rfl ?_
      refine ops_no 10 false 41 rfl rfl rfl rfl rfl ?_
      refine oy rfl rfl (y_pick (b := true) rfl rfl) ?_
      refine ops_nil ?_
      exact goes_cut hL25 true [0, 1, 2] (qv4 rfl rfl rfl rfl) (by decide) rfl (by rw [hg26]; simp)
     ·skip
      refine ops_y (wg 10 false 41 rfl rfl rfl rfl) rfl (y_fieldAddr_box (sz := 0) Try.runUnderlying67 rfl Try.sizeOf3 rfl) ?_
      refine ops_y (wg 10 false 41 rfl rfl rfl rfl) rfl (y_load_box 2 Try.isAgg3 rfl rfl rfl) ?_
      refine ops_y (wg 10 false 41 rfl rfl rfl rfl) rfl (y_lss rfl rfl) ?_
      refine oy rfl rfl (y_pick (b := false) rfl rfl) ?_
      refine ops_nil ?_
      exact goes_cut hL25 (decide (x19.To < 0)) [0, 1, 2] (qv4 rfl rfl rfl rfl) (by decide) rfl (by rw [hg26]; simp)
    rintro _ rfl
    refine oy rfl rfl (y_move rfl) ?_
    refine ops_cut 6 (Bool) (fun σ => [(1, boxP b1 0), (3, .int .i64 i_13), (4, boxP b20 0), (52, .bool σ)]) (fun σ => [box b1 [.int .i64 n_0.Nodes, n_0_Arcsv], ro n_0_Arcsv 4 (n_0.Arcs.map S_api_Arc.enc), box b20 [.int .i64 x19.From, .int .i64 x19.To, .int .i64 x19.Cap, .int .i64 x19.Cost]]) (fun σ => σ = (((decide (x19.From < 0) || decide (n_0.Nodes ≤ x19.From)) || decide (x19.To < 0)) || decide (n_0.Nodes ≤ x19.To))) (fun L27 hL28 => ?_) ?_
    ·refine ops_split 46 ((decide (x19.From < 0) || decide (n_0.Nodes ≤ x19.From)) || decide (x19.To < 0)) rfl (fun hg29 => ?_) (fun hg29 => ?_)
     ·skip
      refine ops_no 15 false 46 rfl rfl rfl rfl rfl ?_
      refine ops_no 15 false 46 rfl rfl rfl rfl rfl ?_
      refine ops_no 15 false 46 rfl rfl rfl rfl rfl ?_
      refine ops_no 15 false 46 rfl rfl rfl rfl rfl ?_
      refine ops_no 15 false 46 rfl rfl rfl rfl rfl ?_
      refine oy rfl rfl (y_pick (b := true) rfl rfl) ?_
      refine ops_nil ?_
      exact goes_cut hL28 true [0, 1, 2] (qv4 rfl rfl rfl rfl) (by decide) rfl (by rw [hg29]; simp)
     ·skip
      refine ops_y (wg 15 false 46 rfl rfl rfl rfl) rfl (y_fieldAddr_box (sz := 0) Try.runUnderlying67 rfl Try.sizeOf3 rfl) ?_
      refine ops_y (wg 15 false 46 rfl rfl rfl rfl) rfl (y_load_box 2 Try.isAgg3 rfl rfl rfl) ?_
      refine ops_y (wg 15 false 46 rfl rfl rfl rfl) rfl (y_fieldAddr_box (sz := 0) Try.runUnderlying24 rfl Try.sizeOf3 rfl) ?_
      refine ops_y (wg 15 false 46 rfl rfl rfl rfl) rfl (y_load_box 0 Try.isAgg3 rfl rfl rfl) ?_
      refine ops_y (wg 15 false 46 rfl rfl rfl rfl) rfl (y_geq rfl rfl) ?_
      refine oy rfl rfl (y_pick (b := false) rfl rfl) ?_
      refine ops_nil ?_
      exact goes_cut hL28 (decide (n_0.Nodes ≤ x19.To)) [0, 1, 2] (qv4 rfl rfl rfl rfl) (by decide) rfl (by rw [hg29]; simp)
    rintro _ rfl
    refine oy rfl rfl (y_move rfl) ?_
    refine ops_cut 4 (Bool) (fun σ => [(1, boxP b1 0), (3, .int .i64 i_13), (4, boxP b20 0), (57, .bool σ)]) (fun σ => [box b1 [.int .i64 n_0.Nodes, n_0_Arcsv], ro n_0_Arcsv 4 (n_0.Arcs.map S_api_Arc.enc), box b20 [.int .i64 x19.From, .int .i64 x19.To, .int .i64 x19.Cap, .int .i64 x19.Cost]]) (fun σ => σ = ((((decide (x19.From < 0) || decide (n_0.Nodes ≤ x19.From)) || decide (x19.To < 0)) || decide (n_0.Nodes ≤ x19.To)) || decide (1048576 < x19.Cost))) (fun L30 hL31 => ?_) ?_
    ·refine ops_split 53 (((decide (x19.From < 0) || decide (n_0.Nodes ≤ x19.From)) || decide (x19.To < 0)) || decide (n_0.Nodes ≤ x19.To)) rfl (fun hg32 => ?_) (fun hg32 => ?_)
     ·skip
      refine ops_no 22 false 53 rfl rfl rfl rfl rfl ?_
      refine ops_no 22 false 53 rfl rfl rfl rfl rfl ?_
      refine ops_no 22 false 53 rfl rfl rfl rfl rfl ?_
      refine oy rfl rfl (y_pick (b := true) rfl rfl) ?_
      refine ops_nil ?_
      exact goes_cut hL31 true [0, 1, 2] (qv4 rfl rfl rfl rfl) (by decide) rfl (by rw [hg32]; simp)
     ·skip
      refine ops_y (wg 22 false 53 rfl rfl rfl rfl) rfl (y_fieldAddr_box (sz := 0) Try.runUnderlying67 rfl Try.sizeOf3 rfl) ?_
      refine ops_y (wg 22 false 53 rfl rfl rfl rfl) rfl (y_load_box 2 Try.isAgg3 rfl rfl rfl) ?_
      refine ops_y (wg 22 false 53 rfl rfl rfl rfl) rfl (y_gtr rfl rfl) ?_
      refine oy rfl rfl (y_pick (b := false) rfl rfl) ?_
      refine ops_nil ?_
      exact goes_cut hL31 (decide (1048576 < x19.Cost)) [0, 1, 2] (qv4 rfl rfl rfl rfl) (by decide) rfl (by rw [hg32]; simp)
    rintro _ rfl
    refine oy rfl rfl (y_move rfl) ?_
    refine ops_cut 4 (Bool) (fun σ => [(1, boxP b1 0), (3, .int .i64 i_13), (62, .bool σ)]) (fun σ => [box b1 [.int .i64 n_0.Nodes, n_0_Arcsv], ro n_0_Arcsv 4 (n_0.Arcs.map S_api_Arc.enc)]) (fun σ => σ = (((((decide (x19.From < 0) || decide (n_0.Nodes ≤ x19.From)) || decide (x19.To < 0)) || decide (n_0.Nodes ≤ x19.To)) || decide (1048576 < x19.Cost)) || decide (x19.Cost < (-1048576)))) (fun L33 hL34 => ?_) ?_
    ·refine ops_split 58 ((((decide (x19.From < 0) || decide (n_0.Nodes ≤ x19.From)) || decide (x19.To < 0)) || decide (n_0.Nodes ≤ x19.To)) || decide (1048576 < x19.Cost)) rfl (fun hg35 => ?_) (fun hg35 => ?_)
     ·skip
      refine ops_no 27 false 58 rfl rfl rfl rfl rfl ?_
      refine ops_no 27 false 58 rfl rfl rfl rfl rfl ?_
      refine ops_no 27 false 58 rfl rfl rfl rfl rfl ?_
      refine oy rfl rfl (y_pick (b := true) rfl rfl) ?_
      refine ops_nil ?_
      exact goes_cut hL34 true [0, 1] (qv3 rfl rfl rfl) (by decide) rfl (by rw [hg35]; simp)
     ·skip
      refine ops_y (wg 27 false 58 rfl rfl rfl rfl) rfl (y_fieldAddr_box (sz := 0) Try.runUnderlying67 rfl Try.sizeOf3 rfl) ?_
      refine ops_y (wg 27 false 58 rfl rfl rfl rfl) rfl (y_load_box 2 Try.isAgg3 rfl rfl rfl) ?_
      refine ops_y (wg 27 false 58 rfl rfl rfl rfl) rfl (y_lss rfl rfl) ?_
      refine oy rfl rfl (y_pick (b := false) rfl rfl) ?_
      refine ops_nil ?_
      exact goes_cut hL34 (decide (x19.Cost < (-1048576))) [0, 1] (qv3 rfl rfl rfl) (by decide) rfl (by rw [hg35]; simp)
    rintro _ rfl
    refine ops_nil ?_
    refine goes_code ?_
    refine run_cond (((((decide (x19.From < 0) || decide (n_0.Nodes ≤ x19.From)) || decide (x19.To < 0)) || decide (n_0.Nodes ≤ x19.To)) || decide (1048576 < x19.Cost)) || decide (x19.Cost < (-1048576))) rfl (fun hc36 => ?_) (fun hc36 => ?_)
    ·replace h := cond_t h hc36
     refine run_seq ?_
     refine run_region' ?_
     refine oy rfl rfl (y_assign rfl) ?_
     refine ops_nil ?_
     refine goes_code ?_
     refine run_ret ?_
     obtain rfl := some_eq h
     obtain rfl := hstop16 _ rfl
     skip
     obtain rfl := after_stop ho10
     refine fin_slots [2] [.bool false] [] [] Try.results18 rfl (by decide) rfl ?_
     exact ⟨rfl, rfl⟩
    ·replace h := cond_f h hc36
     refine run_skip ?_
     refine goes_blk ?_
     refine goes_code ?_
     refine run_region' ?_
     refine oy rfl rfl (y_move rfl) ?_
     refine oy rfl rfl (y_add rfl rfl) ?_
     refine oy rfl rfl (y_assign rfl) ?_
     refine ops_nil ?_
     obtain rfl := some_eq h
     exact goes_iter hgo15 (IntKind.i64.wrap (i_13 + 1)) () [0, 1] rfl (qv2 rfl rfl) (by decide) rfl
   ·replace h := cond_f h hc18
    refine run_exit _ rfl ?_
    obtain rfl := some_eq h
    obtain rfl := hstop16 _ rfl
    exact goes_cut hL11 ((), ()) [] vnil (by decide) rfl rfl
  rintro ⟨_, _⟩ hj
  obtain rfl : o9 = _ := hj
  replace h := after_go ho10
  clear ho10
  change Run _ _ _ (VF.of []) []
  refine run_seq ?_
  refine run_region' ?_
  refine oy rfl rfl (y_assign rfl) ?_
  refine ops_nil ?_
  refine goes_code ?_
  refine run_ret ?_
  obtain rfl := some_eq h
  refine fin_slots [2] [.bool true] [] [] Try.results18 rfl (by decide) rfl ?_
  exact ⟨rfl, rfl⟩

def ref09_node (n_0 : S_api_Net) (v_1 : Int) : Option (Bool) :=
 some (decide (0 ≤ v_1) && decide (v_1 < n_0.Nodes))
theorem ref09_node_ok (n_0 : S_api_Net) (v_1 : Int) (n_0_Arcsv : Value) {r : Bool} (h : ref09_node n_0 v_1 = some r) :
  Meets Try.prog 43 [.agg #[.int .i64 n_0.Nodes, n_0_Arcsv], .int .i64 v_1] [ro n_0_Arcsv 4 (n_0.Arcs.map S_api_Arc.enc)] (fun v G => v = .bool r ∧ G = []) := by
 refine fn_of_run Try.func43 rfl Try.ntmps43 rfl (fun w0 o0 => ?_)
 refine run_seq ?_
 refine run_region' ?_
 refine ot rfl rfl (t_box rfl) ?_
 rintro _ _ ⟨b1, rfl, rfl⟩
 refine oy rfl rfl (y_assign rfl) ?_
 refine ops_nil ?_
 refine goes_code ?_
 refine run_seq ?_
 refine run_region' ?_
 refine oy rfl rfl (y_move rfl) ?_
 refine oy rfl rfl (y_geq rfl rfl) ?_
 refine oy rfl rfl (y_move rfl) ?_
 refine ops_cut 5 (Bool) (fun σ => [(12, .bool σ)]) (fun σ => []) (fun σ => σ = (decide (0 ≤ v_1) && decide (v_1 < n_0.Nodes))) (fun L2 hL3 => ?_) ?_
 ·refine ops_split 7 (decide (0 ≤ v_1)) rfl (fun hg4 => ?_) (fun hg4 => ?_)
  ·skip
   refine ops_y (wg 2 true 7 rfl rfl rfl rfl) rfl (y_move rfl) ?_
   refine ops_y (wg 2 true 7 rfl rfl rfl rfl) rfl (y_fieldAddr_box (sz := 0) Try.runUnderlying24 rfl Try.sizeOf3 rfl) ?_
   refine ops_y (wg 2 true 7 rfl rfl rfl rfl) rfl (y_load_box 1 Try.isAgg3 rfl rfl rfl) ?_
   refine ops_y (wg 2 true 7 rfl rfl rfl rfl) rfl (y_lss rfl rfl) ?_
   refine oy rfl rfl (y_pick (b := true) rfl rfl) ?_
   refine ops_nil ?_
   exact goes_cut hL3 (decide (v_1 < n_0.Nodes)) [] (qv1 rfl) (by decide) rfl (by rw [hg4]; simp)
  ·skip
   refine ops_no 2 true 7 rfl rfl rfl rfl rfl ?_
   refine ops_no 2 true 7 rfl rfl rfl rfl rfl ?_
   refine ops_no 2 true 7 rfl rfl rfl rfl rfl ?_
   refine ops_no 2 true 7 rfl rfl rfl rfl rfl ?_
   refine oy rfl rfl (y_pick (b := false) rfl rfl) ?_
   refine ops_nil ?_
   exact goes_cut hL3 false [] (qv1 rfl) (by decide) rfl (by rw [hg4]; simp)
 rintro _ rfl
 refine oy rfl rfl (y_assign rfl) ?_
 refine ops_nil ?_
 refine goes_code ?_
 refine run_ret ?_
 obtain rfl := some_eq h
 refine fin_slots [4] [.bool (decide (0 ≤ v_1) && decide (v_1 < n_0.Nodes))] [] [] Try.results43 rfl (by decide) rfl ?_
 exact ⟨rfl, rfl⟩

def ref09_reach_L2 (n_0 : S_api_Net) : (Bool × Int × (List Bool)) → Option (Lp (Bool × Int × (List Bool)) (Lp (Bool × (List Bool)) (Lp (Int × (List Bool)) (Lp ((List Bool)) ((List Bool)))))) :=
 fun (changed_23, i_24, x_25) =>
  cond (decide (i_24 < (n_0.Arcs.length : Int)))
   (bindJ (S := Bool × (List Bool))
    (idx n_0.Arcs i_24 fun x37 =>
    idx x_25 x37.From fun x38 =>
    bindJ (S := Bool)
     (cond x38
      (idx x_25 x37.To fun x45 =>
      some (.go (!x45)))
      (some (.go false)))
    (fun b39 =>
     cond b39
      (idx x_25 x37.To fun x47 =>
      some (.go (true, (x_25.set ((x37.To).toNat) true))))
      (some (.go (changed_23, x_25)))))
   (fun (changed_31, x_32) =>
    some (.go (changed_31, (IntKind.i64.wrap (i_24 + 1)), x_32))))
   (some (.stop (.go (changed_23, x_25))))
def ref09_reach_L1 (n : Nat) (n_0 : S_api_Net) : (Int × (List Bool)) → Option (Lp (Int × (List Bool)) (Lp ((List Bool)) ((List Bool)))) :=
 fun (k_10, x_11) =>
  cond (decide (k_10 < n_0.Nodes))
   (bindJ (S := Bool × (List Bool))
    (iter (ref09_reach_L2 n_0) n (false, 0, x_11))
   (fun (changed_17, x_18) =>
    cond (!changed_17)
     (some (.stop (.stop x_18)))
     (some (.go ((IntKind.i64.wrap (k_10 + 1)), x_18)))))
   (some (.stop (.go x_11)))
def ref09_reach (n : Nat) (n_0 : S_api_Net) (from_1 : Int) : Option ((List Bool)) :=
 need (0 ≤ n_0.Nodes ∧ n_0.Nodes ≤ 4294967296) (
 idx (List.replicate (n_0.Nodes).toNat (false : Bool)) from_1 fun x4 =>
 bindJ (S := (List Bool))
  (iter (ref09_reach_L1 n n_0) n (0, ((List.replicate (n_0.Nodes).toNat (false : Bool)).set from_1.toNat true)))
 (fun x_5 =>
  some x_5))
theorem ref09_reach_ok (n : Nat) (n_0 : S_api_Net) (from_1 : Int) (n_0_Arcsv : Value) {r : (List Bool)} (h : ref09_reach n n_0 from_1 = some r) :
  Meets Try.prog 44 [.agg #[.int .i64 n_0.Nodes, n_0_Arcsv], .int .i64 from_1] [ro n_0_Arcsv 4 (n_0.Arcs.map S_api_Arc.enc)] (fun v G => ∃ v0, v = v0 ∧ G = [row v0 1 (r.map eBool)]) := by
 refine fn_of_run Try.func44 rfl Try.ntmps44 rfl (fun w0 o0 => ?_)
 refine run_seq ?_
 refine run_region' ?_
 refine ot rfl rfl (t_box rfl) ?_
 rintro _ _ ⟨b1, rfl, rfl⟩
 refine oy rfl rfl (y_assign rfl) ?_
 refine ops_nil ?_
 refine goes_code ?_
 refine run_seq ?_
 refine run_region' ?_
 refine oy rfl rfl (y_fieldAddr_box (sz := 0) Try.runUnderlying24 rfl Try.sizeOf3 rfl) ?_
 refine oy rfl rfl (y_load_box 1 Try.isAgg3 rfl rfl rfl) ?_
 obtain ⟨hm3, h⟩ := need_some h
 refine ot rfl rfl (t_makeSlice (es := 1) Try.runUnderlying27 Try.typeInfo4 rfl Try.zeroValue4 rfl (by decide) rfl rfl hm3.1 hm3.2 (by decide)) ?_
 rintro v2 _ rfl
 refine ops_turn (retell 2 (g := row v2 1 ((List.replicate (n_0.Nodes).toNat (false : Bool)).map eBool)) rfl (congrArg (row _ _) (map_rep rfl))) ?_
 refine oy rfl rfl (y_assign rfl) ?_
 refine ops_nil ?_
 refine goes_code ?_
 refine run_seq ?_
 refine run_region' ?_
 refine oy rfl rfl (y_move rfl) ?_
 refine oy rfl rfl (y_move rfl) ?_
 obtain ⟨x4, hzx4, hlx4, hxx4, h⟩ := idx_some h
 refine oy rfl rfl (y_indexAddrI (kd := .i64) (i := from_1) 2 Try.runUnderlying27 Try.sizeOf4 rfl rfl rfl reads_row hzx4 (map_lt hlx4)) ?_
 refine ot rfl rfl (t_store_row (i := from_1.toNat) (j := 0) (c := eBool x4) 2 Try.sizeOf4 rfl rfl rfl rfl (map_get hxx4) (by decide) (by simp [Value.cells, Value.oneCell', boxP])) ?_
 rintro _ _ ⟨rfl, rfl⟩
 refine ops_turn (retell 2 (g := row v2 1 (((List.replicate (n_0.Nodes).toNat (false : Bool)).set from_1.toNat true).map eBool)) rfl (congrArg (row _ _) (map_set_at rfl))) ?_
 refine ops_nil ?_
 refine goes_code ?_
 obtain ⟨o6, h, ho7⟩ := bindJ_some h
 refine run_cut (((List Bool)) × (Unit)) (fun σ => [(5, v2)]) (fun σ => [row v2 1 (σ.1.map eBool)]) (fun σ => o6 = .go σ.1) (fun L9 hL8 => ?_) ?_
 ·
  refine run_seq ?_
  refine run_weak [(2, boxP b1 0), (5, v2)] [0, 1, 2] [ro n_0_Arcsv 4 (n_0.Arcs.map S_api_Arc.enc), box b1 [.int .i64 n_0.Nodes, n_0_Arcsv], row v2 1 (((List.replicate (n_0.Nodes).toNat (false : Bool)).set from_1.toNat true).map eBool)] (qv2 rfl rfl) (by decide) rfl ?_
  refine run_region' ?_
  refine oy rfl rfl (y_assign rfl) ?_
  refine ops_nil ?_
  refine goes_code ?_
  refine run_block ?_
  refine run_iter (step := ref09_reach_L1 n n_0) (n := n) (s0 := (0, ((List.replicate (n_0.Nodes).toNat (false : Bool)).set from_1.toNat true))) h (G := Unit) () (fun σ γ => [(2, boxP b1 0), (5, v2), (6, .int .i64 σ.1)]) (fun σ γ => [box b1 [.int .i64 n_0.Nodes, n_0_Arcsv], ro n_0_Arcsv 4 (n_0.Arcs.map S_api_Arc.enc), row v2 1 (σ.2.map eBool)]) [1, 0, 2] (qv3 rfl rfl rfl) (by decide) rfl ?_
  rintro ⟨k_10, x_11⟩ _ o12 h L15 hgo13 hstop14
  change Run _ _ _ (VF.of [(2, boxP b1 0), (5, v2), (6, .int .i64 k_10)]) [box b1 [.int .i64 n_0.Nodes, n_0_Arcsv], ro n_0_Arcsv 4 (n_0.Arcs.map S_api_Arc.enc), row v2 1 (x_11.map eBool)]
  refine run_seq ?_
  refine run_seq ?_
  refine run_region' ?_
  refine oy rfl rfl (y_move rfl) ?_
  refine oy rfl rfl (y_fieldAddr_box (sz := 0) Try.runUnderlying24 rfl Try.sizeOf3 rfl) ?_
  refine oy rfl rfl (y_load_box 0 Try.isAgg3 rfl rfl rfl) ?_
  refine oy rfl rfl (y_lss rfl rfl) ?_
  refine ops_nil ?_
  refine goes_code ?_
  refine run_cond (decide (k_10 < n_0.Nodes)) rfl (fun hc16 => ?_) (fun hc16 => ?_)
  ·replace h := cond_t h hc16
   refine run_skip ?_
   refine goes_code ?_
   refine run_seq ?_
   refine run_block ?_
   refine run_seq ?_
   refine run_region' ?_
   refine oy rfl rfl (y_assign rfl) ?_
   refine ops_nil ?_
   refine goes_code ?_
   obtain ⟨o19, h, ho20⟩ := bindJ_some h
   refine run_cut ((Bool × (List Bool)) × (Unit)) (fun σ => [(2, boxP b1 0), (5, v2), (6, .int .i64 k_10), (7, .bool σ.1.1)]) (fun σ => [box b1 [.int .i64 n_0.Nodes, n_0_Arcsv], ro n_0_Arcsv 4 (n_0.Arcs.map S_api_Arc.enc), row v2 1 (σ.1.2.map eBool)]) (fun σ => o19 = .go σ.1) (fun L22 hL21 => ?_) ?_
   ·
    refine run_seq ?_
    refine run_region' ?_
    refine oy rfl rfl (y_assign rfl) ?_
    refine ops_nil ?_
    refine goes_code ?_
    refine run_block ?_
    refine run_iter (step := ref09_reach_L2 n_0) (n := n) (s0 := (false, 0, x_11)) h (G := Unit) () (fun σ γ => [(2, boxP b1 0), (5, v2), (6, .int .i64 k_10), (7, .bool σ.1), (8, .int .i64 σ.2.1)]) (fun σ γ => [box b1 [.int .i64 n_0.Nodes, n_0_Arcsv], ro n_0_Arcsv 4 (n_0.Arcs.map S_api_Arc.enc), row v2 1 (σ.2.2.map eBool)]) [0, 1, 2] (qv5 rfl rfl rfl rfl rfl) (by decide) rfl ?_
    rintro ⟨changed_23, i_24, x_25⟩ _ o26 h L29 hgo27 hstop28
    change Run _ _ _ (VF.of [(2, boxP b1 0), (5, v2), (6, .int .i64 k_10), (7, .bool changed_23), (8, .int .i64 i_24)]) [box b1 [.int .i64 n_0.Nodes, n_0_Arcsv], ro n_0_Arcsv 4 (n_0.Arcs.map S_api_Arc.enc), row v2 1 (x_25.map eBool)]
    refine run_seq ?_
    refine run_seq ?_
    refine run_region' ?_
    refine oy rfl rfl (y_move rfl) ?_
    refine oy rfl rfl (y_fieldAddr_box (sz := 0) Try.runUnderlying24 rfl Try.sizeOf22 rfl) ?_
    refine oy rfl rfl (y_load_box 0 Try.isAgg22 rfl rfl rfl) ?_
    refine oy rfl rfl ((y_len 1 rfl Try.runUnderlying22 rfl rfl reads_ro).to (v_len S_api_Arc.enc _)) ?_
    refine oy rfl rfl (y_lss rfl rfl) ?_
    refine ops_nil ?_
    refine goes_code ?_
    refine run_cond (decide (i_24 < (n_0.Arcs.length : Int))) rfl (fun hc30 => ?_) (fun hc30 => ?_)
    ·replace h := cond_t h hc30
     refine run_skip ?_
     refine goes_code ?_
     obtain ⟨o33, h, ho34⟩ := bindJ_some h
     refine run_cut ((Bool × (List Bool)) × (Unit)) (fun σ => [(2, boxP b1 0), (5, v2), (6, .int .i64 k_10), (7, .bool σ.1.1), (8, .int .i64 i_24)]) (fun σ => [box b1 [.int .i64 n_0.Nodes, n_0_Arcsv], ro n_0_Arcsv 4 (n_0.Arcs.map S_api_Arc.enc), row v2 1 (σ.1.2.map eBool)]) (fun σ => o33 = .go σ.1) (fun L36 hL35 => ?_) ?_
     ·
      refine run_block ?_
      refine run_seq ?_
      refine run_region' ?_
      refine oy rfl rfl (y_move rfl) ?_
      refine oy rfl rfl (y_fieldAddr_box (sz := 0) Try.runUnderlying24 rfl Try.sizeOf22 rfl) ?_
      refine oy rfl rfl (y_load_box 0 Try.isAgg22 rfl rfl rfl) ?_
      refine oy rfl rfl (y_move rfl) ?_
      obtain ⟨x37, hzx37, hlx37, hxx37, h⟩ := idx_some h
      refine oy rfl rfl (y_indexAddrI (kd := .i64) (i := i_24) 1 Try.runUnderlying22 Try.sizeOf67 rfl rfl rfl reads_ro hzx37 (map_lt hlx37)) ?_
      refine oy rfl rfl (y_fieldAddr_elem (sz := 0) Try.runUnderlying67 rfl Try.sizeOf3 rfl) ?_
      refine oy rfl rfl (y_load_field (i := i_24.toNat) (j := 0) 1 Try.isAgg3 rfl rfl reads_ro (map_get hxx37) rfl) ?_
      obtain ⟨x38, hzx38, hlx38, hxx38, h⟩ := idx_some h
      refine oy rfl rfl (y_indexAddrI (kd := .i64) (i := x37.From) 2 Try.runUnderlying27 Try.sizeOf4 rfl rfl rfl reads_row hzx38 (map_lt hlx38)) ?_
      refine oy rfl rfl (y_load_elem (i := (x37.From).toNat) 2 Try.isAgg4 rfl rfl reads_row (map_get hxx38)) ?_
      refine oy rfl rfl (y_move rfl) ?_
      obtain ⟨o40, h, ho41⟩ := bindJ_some h
      refine ops_cut 11 (Bool) (fun σ => [(2, boxP b1 0), (5, v2), (6, .int .i64 k_10), (7, .bool changed_23), (8, .int .i64 i_24), (48, .bool σ)]) (fun σ => [box b1 [.int .i64 n_0.Nodes, n_0_Arcsv], ro n_0_Arcsv 4 (n_0.Arcs.map S_api_Arc.enc), row v2 1 (x_25.map eBool)]) (fun σ => o40 = .go σ) (fun L42 hL43 => ?_) ?_
      ·refine ops_split 37 x38 rfl (fun hg44 => ?_) (fun hg44 => ?_)
       ·replace h := cond_t h hg44
        refine ops_weak [(2, boxP b1 0), (5, v2), (6, .int .i64 k_10), (7, .bool changed_23), (8, .int .i64 i_24), (37, .bool true)] [0, 1, 2] [box b1 [.int .i64 n_0.Nodes, n_0_Arcsv], ro n_0_Arcsv 4 (n_0.Arcs.map S_api_Arc.enc), row v2 1 (x_25.map eBool)] (qv6 rfl rfl rfl rfl rfl rfl) (by decide) rfl ?_
        refine ops_y (wg 9 true 37 rfl rfl rfl rfl) rfl (y_move rfl) ?_
        refine ops_y (wg 9 true 37 rfl rfl rfl rfl) rfl (y_fieldAddr_box (sz := 0) Try.runUnderlying24 rfl Try.sizeOf22 rfl) ?_
        refine ops_y (wg 9 true 37 rfl rfl rfl rfl) rfl (y_load_box 0 Try.isAgg22 rfl rfl rfl) ?_
        refine ops_y (wg 9 true 37 rfl rfl rfl rfl) rfl (y_move rfl) ?_
        refine ops_y (wg 9 true 37 rfl rfl rfl rfl) rfl (y_indexAddrI (kd := .i64) (i := i_24) 1 Try.runUnderlying22 Try.sizeOf67 rfl rfl rfl reads_ro hzx37 (map_lt hlx37)) ?_
        refine ops_y (wg 9 true 37 rfl rfl rfl rfl) rfl (y_fieldAddr_elem (sz := 0) Try.runUnderlying67 rfl Try.sizeOf3 rfl) ?_
        refine ops_y (wg 9 true 37 rfl rfl rfl rfl) rfl (y_load_field (i := i_24.toNat) (j := 1) 1 Try.isAgg3 rfl rfl reads_ro (map_get hxx37) rfl) ?_
        obtain ⟨x45, hzx45, hlx45, hxx45, h⟩ := idx_some h
        refine ops_y (wg 9 true 37 rfl rfl rfl rfl) rfl (y_indexAddrI (kd := .i64) (i := x37.To) 2 Try.runUnderlying27 Try.sizeOf4 rfl rfl rfl reads_row hzx45 (map_lt hlx45)) ?_
        refine ops_y (wg 9 true 37 rfl rfl rfl rfl) rfl (y_load_elem (i := (x37.To).toNat) 2 Try.isAgg4 rfl rfl reads_row (map_get hxx45)) ?_
        refine ops_y (wg 9 true 37 rfl rfl rfl rfl) rfl (y_not rfl) ?_
        refine oy rfl rfl (y_pick (b := true) rfl rfl) ?_
        refine ops_nil ?_
        obtain rfl := some_eq h
        exact goes_cut hL43 (!x45) [0, 1, 2] (qv6 rfl rfl rfl rfl rfl rfl) (by decide) rfl rfl
       ·replace h := cond_f h hg44
        refine ops_weak [(2, boxP b1 0), (5, v2), (6, .int .i64 k_10), (7, .bool changed_23), (8, .int .i64 i_24), (37, .bool false)] [0, 1, 2] [box b1 [.int .i64 n_0.Nodes, n_0_Arcsv], ro n_0_Arcsv 4 (n_0.Arcs.map S_api_Arc.enc), row v2 1 (x_25.map eBool)] (qv6 rfl rfl rfl rfl rfl rfl) (by decide) rfl ?_
        refine ops_no 9 true 37 rfl rfl rfl rfl rfl ?_
        refine ops_no 9 true 37 rfl rfl rfl rfl rfl ?_
        refine ops_no 9 true 37 rfl rfl rfl rfl rfl ?_
        refine ops_no 9 true 37 rfl rfl rfl rfl rfl ?_
        refine ops_no 9 true 37 rfl rfl rfl rfl rfl ?_
        refine ops_no 9 true 37 rfl rfl rfl rfl rfl ?_
        refine ops_no 9 true 37 rfl rfl rfl rfl rfl ?_
        refine ops_no 9 true 37 rfl rfl rfl rfl rfl ?_
        refine ops_no 9 true 37 rfl rfl rfl rfl rfl ?_
        refine ops_no 9 true 37 rfl rfl rfl rfl rfl ?_
        refine oy rfl rfl (y_pick (b := false) rfl rfl) ?_
        refine ops_nil ?_
        obtain rfl := some_eq h
        exact goes_cut hL43 false [0, 1, 2] (qv6 rfl rfl rfl rfl rfl rfl) (by decide) rfl rfl
      rintro b39 hj
      obtain rfl : o40 = _ := hj
      replace h := after_go ho41
      clear ho41
      refine ops_nil ?_
      refine goes_code ?_
      refine run_cond b39 rfl (fun hc46 => ?_) (fun hc46 => ?_)
      ·replace h := cond_t h hc46
       refine run_seq ?_
       refine run_region' ?_
       refine oy rfl rfl (y_move rfl) ?_
       refine oy rfl rfl (y_fieldAddr_box (sz := 0) Try.runUnderlying24 rfl Try.sizeOf22 rfl) ?_
       refine oy rfl rfl (y_load_box 0 Try.isAgg22 rfl rfl rfl) ?_
       refine oy rfl rfl (y_move rfl) ?_
       refine oy rfl rfl (y_indexAddrI (kd := .i64) (i := i_24) 1 Try.runUnderlying22 Try.sizeOf67 rfl rfl rfl reads_ro hzx37 (map_lt hlx37)) ?_
       refine oy rfl rfl (y_fieldAddr_elem (sz := 0) Try.runUnderlying67 rfl Try.sizeOf3 rfl) ?_
       refine oy rfl rfl (y_load_field (i := i_24.toNat) (j := 1) 1 Try.isAgg3 rfl rfl reads_ro (map_get hxx37) rfl) ?_
       obtain ⟨x47, hzx47, hlx47, hxx47, h⟩ := idx_some h
       refine oy rfl rfl (y_indexAddrI (kd := .i64) (i := x37.To) 2 Try.runUnderlying27 Try.sizeOf4 rfl rfl rfl reads_row hzx47 (map_lt hlx47)) ?_
       refine ot rfl rfl (t_store_row (i := (x37.To).toNat) (j := 0) (c := eBool x47) 2 Try.sizeOf4 rfl rfl rfl rfl (map_get hxx47) (by decide) (by simp [Value.cells, Value.oneCell', boxP])) ?_
       rintro _ _ ⟨rfl, rfl⟩
       refine ops_turn (retell 2 (g := row v2 1 ((x_25.set ((x37.To).toNat) true).map eBool)) rfl (congrArg (row _ _) (map_set_at rfl))) ?_
       refine ops_nil ?_
       refine goes_code ?_
       refine run_weak [(2, boxP b1 0), (5, v2), (6, .int .i64 k_10), (8, .int .i64 i_24)] [0, 1, 2] [box b1 [.int .i64 n_0.Nodes, n_0_Arcsv], ro n_0_Arcsv 4 (n_0.Arcs.map S_api_Arc.enc), row v2 1 ((x_25.set ((x37.To).toNat) true).map eBool)] (qv4 rfl rfl rfl rfl) (by decide) rfl ?_
       refine run_region' ?_
       refine oy rfl rfl (y_assign rfl) ?_
       refine ops_nil ?_
       refine goes_blk ?_
       obtain rfl := some_eq h
       exact goes_cut hL35 ((true, (x_25.set ((x37.To).toNat) true)), ()) [0, 1, 2] (qv5 rfl rfl rfl rfl rfl) (by decide) rfl rfl
      ·replace h := cond_f h hc46
       refine run_skip ?_
       refine goes_blk ?_
       obtain rfl := some_eq h
       exact goes_cut hL35 ((changed_23, x_25), ()) [0, 1, 2] (qv5 rfl rfl rfl rfl rfl) (by decide) rfl rfl
     rintro ⟨⟨changed_31, x_32⟩, _⟩ hj
     obtain rfl : o33 = _ := hj
     replace h := after_go ho34
     clear ho34
     change Run _ _ _ (VF.of [(2, boxP b1 0), (5, v2), (6, .int .i64 k_10), (7, .bool changed_31), (8, .int .i64 i_24)]) [box b1 [.int .i64 n_0.Nodes, n_0_Arcsv], ro n_0_Arcsv 4 (n_0.Arcs.map S_api_Arc.enc), row v2 1 (x_32.map eBool)]
     refine run_region' ?_
     refine oy rfl rfl (y_move rfl) ?_
     refine oy rfl rfl (y_add rfl rfl) ?_
     refine oy rfl rfl (y_assign rfl) ?_
     refine ops_nil ?_
     obtain rfl := some_eq h
     exact goes_iter hgo27 (changed_31, (IntKind.i64.wrap (i_24 + 1)), x_32) () [0, 1, 2] rfl (qv5 rfl rfl rfl rfl rfl) (by decide) rfl
    ·replace h := cond_f h hc30
     refine run_exit _ rfl ?_
     obtain rfl := some_eq h
     obtain rfl := hstop28 _ rfl
     exact goes_cut hL21 ((changed_23, x_25), ()) [0, 1, 2] (qv4 rfl rfl rfl rfl) (by decide) rfl rfl
   rintro ⟨⟨changed_17, x_18⟩, _⟩ hj
   obtain rfl : o19 = _ := hj
   replace h := after_go ho20
   clear ho20
   change Run _ _ _ (VF.of [(2, boxP b1 0), (5, v2), (6, .int .i64 k_10), (7, .bool changed_17)]) [box b1 [.int .i64 n_0.Nodes, n_0_Arcsv], ro n_0_Arcsv 4 (n_0.Arcs.map S_api_Arc.enc), row v2 1 (x_18.map eBool)]
   refine run_seq ?_
   refine run_region' ?_
   refine oy rfl rfl (y_move rfl) ?_
   refine oy rfl rfl (y_not rfl) ?_
   refine ops_nil ?_
   refine goes_code ?_
   refine run_cond (!changed_17) rfl (fun hc48 => ?_) (fun hc48 => ?_)
   ·replace h := cond_t h hc48
    refine run_seq ?_
    refine run_region' ?_
    refine oy rfl rfl (y_move rfl) ?_
    refine oy rfl rfl (y_assign rfl) ?_
    refine ops_nil ?_
    refine goes_code ?_
    refine run_ret ?_
    obtain rfl := some_eq h
    obtain rfl := hstop14 _ rfl
    skip
    obtain rfl := after_stop ho7
    refine fin_slots [4] [v2] [2] [row v2 1 (x_18.map eBool)] Try.results44 rfl (by decide) rfl ?_
    exact ⟨_, rfl, rfl⟩
   ·replace h := cond_f h hc48
    refine run_skip ?_
    refine goes_blk ?_
    refine goes_code ?_
    refine run_region' ?_
    refine oy rfl rfl (y_move rfl) ?_
    refine oy rfl rfl (y_add rfl rfl) ?_
    refine oy rfl rfl (y_assign rfl) ?_
    refine ops_nil ?_
    obtain rfl := some_eq h
    exact goes_iter hgo13 ((IntKind.i64.wrap (k_10 + 1)), x_18) () [0, 1, 2] rfl (qv3 rfl rfl rfl) (by decide) rfl
  ·replace h := cond_f h hc16
   refine run_exit _ rfl ?_
   obtain rfl := some_eq h
   obtain rfl := hstop14 _ rfl
   exact goes_cut hL8 (x_11, ()) [2] (qv1 rfl) (by decide) rfl rfl
 rintro ⟨x_5, _⟩ hj
 obtain rfl : o6 = _ := hj
 replace h := after_go ho7
 clear ho7
 change Run _ _ _ (VF.of [(5, v2)]) [row v2 1 (x_5.map eBool)]
 refine run_seq ?_
 refine run_region' ?_
 refine oy rfl rfl (y_move rfl) ?_
 refine oy rfl rfl (y_assign rfl) ?_
 refine ops_nil ?_
 refine goes_code ?_
 refine run_ret ?_
 obtain rfl := some_eq h
 refine fin_slots [4] [v2] [0] [row v2 1 (x_5.map eBool)] Try.results44 rfl (by decide) rfl ?_
 exact ⟨_, rfl, rfl⟩

def ref09_walk_L1 (n_0 : S_api_Net) (l_1 : (List Int)) : (Int × (List Bool)) → Option (Lp (Int × (List Bool)) (Lp (Unit) (Bool))) :=
 fun (i_9, x_10) =>
  cond (decide (i_9 < (l_1.length : Int)))
   (idx l_1 i_9 fun x16 =>
   cond (decide (x16 < 0) || decide ((n_0.Arcs.length : Int) ≤ x16))
    (some (.stop (.stop false)))
    (idx l_1 i_9 fun x21 =>
    idx n_0.Arcs x21 fun x22 =>
    need ((l_1.length : Int) ≠ 0) (
    idx l_1 ((IntKind.i64.wrap ((IntKind.i64.wrap (i_9 + (l_1.length : Int))) - 1)).tmod (l_1.length : Int)) fun x25 =>
    bindJ (S := Bool)
     (cond (decide (x25 < 0) || decide ((n_0.Arcs.length : Int) ≤ x25))
      (some (.go true))
      (idx n_0.Arcs x25 fun x35 =>
      some (.go (decide (x35.To ≠ x22.From)))))
    (fun b29 =>
     bindJ (S := Bool)
      (cond b29
       (some (.go true))
       (idx x_10 x22.From fun x42 =>
       some (.go x42)))
     (fun b36 =>
      cond b36
       (some (.stop (.stop false)))
       (idx x_10 x22.From fun x44 =>
       some (.go ((IntKind.i64.wrap (i_9 + 1)), (x_10.set ((x22.From).toNat) true)))))))))
   (some (.stop (.go ())))
def ref09_walk (n : Nat) (n_0 : S_api_Net) (l_1 : (List Int)) : Option (Bool) :=
 cond (decide ((l_1.length : Int) = 0))
  (some false)
  (need (0 ≤ n_0.Nodes ∧ n_0.Nodes ≤ 4294967296) (
  bindJ (S := Unit)
   (iter (ref09_walk_L1 n_0 l_1) n (0, (List.replicate (n_0.Nodes).toNat (false : Bool))))
  (fun _ =>
   some true)))
theorem ref09_walk_ok (n : Nat) (n_0 : S_api_Net) (l_1 : (List Int)) (n_0_Arcsv : Value) (l_1v : Value) {r : Bool} (h : ref09_walk n n_0 l_1 = some r) :
  Meets Try.prog 47 [.agg #[.int .i64 n_0.Nodes, n_0_Arcsv], l_1v] [ro n_0_Arcsv 4 (n_0.Arcs.map S_api_Arc.enc), ro l_1v 1 (l_1.map (eInt .i64))] (fun v G => v = .bool r ∧ G = []) := by
 refine fn_of_run Try.func47 rfl Try.ntmps47 rfl (fun w0 o0 => ?_)
 refine run_seq ?_
 refine run_region' ?_
 refine ot rfl rfl (t_box rfl) ?_
 rintro _ _ ⟨b1, rfl, rfl⟩
 refine oy rfl rfl (y_assign rfl) ?_
 refine ops_nil ?_
 refine goes_code ?_
 refine run_seq ?_
 refine run_seq ?_
 refine run_region' ?_
 refine oy rfl rfl (y_move rfl) ?_
 refine oy rfl rfl ((y_len 1 rfl Try.runUnderlying34 rfl rfl reads_ro).to (v_len (eInt .i64) _)) ?_
 refine oy rfl rfl (y_eql rfl rfl) ?_
 refine ops_nil ?_
 refine goes_code ?_
 refine run_cond (decide ((l_1.length : Int) = 0)) rfl (fun hc2 => ?_) (fun hc2 => ?_)
 ·replace h := cond_t h hc2
  refine run_seq ?_
  refine run_region' ?_
  refine oy rfl rfl (y_assign rfl) ?_
  refine ops_nil ?_
  refine goes_code ?_
  refine run_ret ?_
  obtain rfl := some_eq h
  refine fin_slots [4] [.bool false] [] [] Try.results47 rfl (by decide) rfl ?_
  exact ⟨rfl, rfl⟩
 ·replace h := cond_f h hc2
  refine run_skip ?_
  refine goes_code ?_
  refine run_seq ?_
  refine run_region' ?_
  refine oy rfl rfl (y_fieldAddr_box (sz := 0) Try.runUnderlying24 rfl Try.sizeOf3 rfl) ?_
  refine oy rfl rfl (y_load_box 2 Try.isAgg3 rfl rfl rfl) ?_
  obtain ⟨hm4, h⟩ := need_some h
  refine ot rfl rfl (t_makeSlice (es := 1) Try.runUnderlying27 Try.typeInfo4 rfl Try.zeroValue4 rfl (by decide) rfl rfl hm4.1 hm4.2 (by decide)) ?_
  rintro v3 _ rfl
  refine ops_turn (retell 3 (g := row v3 1 ((List.replicate (n_0.Nodes).toNat (false : Bool)).map eBool)) rfl (congrArg (row _ _) (map_rep rfl))) ?_
  refine oy rfl rfl (y_assign rfl) ?_
  refine ops_nil ?_
  refine goes_code ?_
  obtain ⟨o5, h, ho6⟩ := bindJ_some h
  refine run_cut ((Unit) × (Unit)) (fun σ => []) (fun σ => []) (fun σ => o5 = .go σ.1) (fun L8 hL7 => ?_) ?_
  ·
   refine run_seq ?_
   refine run_weak [(1, l_1v), (2, boxP b1 0), (5, v3)] [0, 1, 2, 3] [ro n_0_Arcsv 4 (n_0.Arcs.map S_api_Arc.enc), ro l_1v 1 (l_1.map (eInt .i64)), box b1 [.int .i64 n_0.Nodes, n_0_Arcsv], row v3 1 ((List.replicate (n_0.Nodes).toNat (false : Bool)).map eBool)] (qv3 rfl rfl rfl) (by decide) rfl ?_
   refine run_region' ?_
   refine oy rfl rfl (y_assign rfl) ?_
   refine ops_nil ?_
   refine goes_code ?_
   refine run_block ?_
   refine run_iter (step := ref09_walk_L1 n_0 l_1) (n := n) (s0 := (0, (List.replicate (n_0.Nodes).toNat (false : Bool)))) h (G := Unit) () (fun σ γ => [(1, l_1v), (2, boxP b1 0), (5, v3), (6, .int .i64 σ.1)]) (fun σ γ => [ro l_1v 1 (l_1.map (eInt .i64)), box b1 [.int .i64 n_0.Nodes, n_0_Arcsv], ro n_0_Arcsv 4 (n_0.Arcs.map S_api_Arc.enc), row v3 1 (σ.2.map eBool)]) [1, 2, 0, 3] (qv4 rfl rfl rfl rfl) (by decide) rfl ?_
   rintro ⟨i_9, x_10⟩ _ o11 h L14 hgo12 hstop13
   change Run _ _ _ (VF.of [(1, l_1v), (2, boxP b1 0), (5, v3), (6, .int .i64 i_9)]) [ro l_1v 1 (l_1.map (eInt .i64)), box b1 [.int .i64 n_0.Nodes, n_0_Arcsv], ro n_0_Arcsv 4 (n_0.Arcs.map S_api_Arc.enc), row v3 1 (x_10.map eBool)]
   refine run_seq ?_
   refine run_seq ?_
   refine run_region' ?_
   refine oy rfl rfl (y_move rfl) ?_
   refine oy rfl rfl (y_move rfl) ?_
   refine oy rfl rfl ((y_len 0 rfl Try.runUnderlying34 rfl rfl reads_ro).to (v_len (eInt .i64) _)) ?_
   refine oy rfl rfl (y_lss rfl rfl) ?_
   refine ops_nil ?_
   refine goes_code ?_
   refine run_cond (decide (i_9 < (l_1.length : Int))) rfl (fun hc15 => ?_) (fun hc15 => ?_)
   ·replace h := cond_t h hc15
    refine run_skip ?_
    refine goes_code ?_
    refine run_seq ?_
    refine run_block ?_
    refine run_seq ?_
    refine run_seq ?_
    refine run_draw (by kernel_rfl) (by kernel_rfl) ?_
    refine sy rfl rfl (y_move rfl) ?_
    refine sy rfl rfl (y_move rfl) ?_
    obtain ⟨x16, hzx16, hlx16, hxx16, h⟩ := idx_some h
    refine sy rfl rfl (y_indexAddrI (kd := .i64) (i := i_9) 0 Try.runUnderlying34 Try.sizeOf3 rfl rfl rfl reads_ro hzx16 (map_lt hlx16)) ?_
    refine sy rfl rfl (y_load_elem (i := i_9.toNat) 0 Try.isAgg3 rfl rfl reads_ro (map_get hxx16)) ?_
    refine sy rfl rfl (y_lss rfl rfl) ?_
    refine sy rfl rfl (y_move rfl) ?_
    refine still_cut 9 (Bool) (fun σ => [(1, l_1v), (2, boxP b1 0), (5, v3), (6, .int .i64 i_9), (35, .bool σ)]) (fun σ => [ro l_1v 1 (l_1.map (eInt .i64)), box b1 [.int .i64 n_0.Nodes, n_0_Arcsv], ro n_0_Arcsv 4 (n_0.Arcs.map S_api_Arc.enc), row v3 1 (x_10.map eBool)]) (fun σ => σ = (decide (x16 < 0) || decide ((n_0.Arcs.length : Int) ≤ x16))) (fun L17 hL18 => ?_) ?_
    ·refine still_split 26 (decide (x16 < 0)) rfl (fun hg19 => ?_) (fun hg19 => ?_)
     ·skip
      refine still_no 5 false 26 rfl rfl rfl rfl rfl ?_
      refine still_no 5 false 26 rfl rfl rfl rfl rfl ?_
      refine still_no 5 false 26 rfl rfl rfl rfl rfl ?_
      refine still_no 5 false 26 rfl rfl rfl rfl rfl ?_
      refine still_no 5 false 26 rfl rfl rfl rfl rfl ?_
      refine still_no 5 false 26 rfl rfl rfl rfl rfl ?_
      refine still_no 5 false 26 rfl rfl rfl rfl rfl ?_
      refine still_no 5 false 26 rfl rfl rfl rfl rfl ?_
      refine sy rfl rfl (y_pick (b := true) rfl rfl) ?_
      refine still_nil ?_
      exact goes_cut hL18 true [0, 1, 2, 3] (qv5 rfl rfl rfl rfl rfl) (by decide) rfl (by rw [hg19]; simp)
     ·skip
      refine still_y (wg 5 false 26 rfl rfl rfl rfl) rfl (y_move rfl) ?_
      refine still_y (wg 5 false 26 rfl rfl rfl rfl) rfl (y_move rfl) ?_
      refine still_y (wg 5 false 26 rfl rfl rfl rfl) rfl (y_indexAddrI (kd := .i64) (i := i_9) 0 Try.runUnderlying34 Try.sizeOf3 rfl rfl rfl reads_ro hzx16 (map_lt hlx16)) ?_
      refine still_y (wg 5 false 26 rfl rfl rfl rfl) rfl (y_load_elem (i := i_9.toNat) 0 Try.isAgg3 rfl rfl reads_ro (map_get hxx16)) ?_
      refine still_y (wg 5 false 26 rfl rfl rfl rfl) rfl (y_fieldAddr_box (sz := 0) Try.runUnderlying24 rfl Try.sizeOf22 rfl) ?_
      refine still_y (wg 5 false 26 rfl rfl rfl rfl) rfl (y_load_box 1 Try.isAgg22 rfl rfl rfl) ?_
      refine still_y (wg 5 false 26 rfl rfl rfl rfl) rfl ((y_len 2 rfl Try.runUnderlying22 rfl rfl reads_ro).to (v_len S_api_Arc.enc _)) ?_
      refine still_y (wg 5 false 26 rfl rfl rfl rfl) rfl (y_geq rfl rfl) ?_
      refine sy rfl rfl (y_pick (b := false) rfl rfl) ?_
      refine still_nil ?_
      exact goes_cut hL18 (decide ((n_0.Arcs.length : Int) ≤ x16)) [0, 1, 2, 3] (qv5 rfl rfl rfl rfl rfl) (by decide) rfl (by rw [hg19]; simp)
    rintro _ rfl
    refine still_nil ?_
    refine goes_code ?_
    refine run_cond (decide (x16 < 0) || decide ((n_0.Arcs.length : Int) ≤ x16)) rfl (fun hc20 => ?_) (fun hc20 => ?_)
    ·replace h := cond_t h hc20
     refine run_seq ?_
     refine run_region' ?_
     refine oy rfl rfl (y_assign rfl) ?_
     refine ops_nil ?_
     refine goes_code ?_
     refine run_ret ?_
     obtain rfl := some_eq h
     obtain rfl := hstop13 _ rfl
     skip
     obtain rfl := after_stop ho6
     refine fin_slots [4] [.bool false] [] [] Try.results47 rfl (by decide) rfl ?_
     exact ⟨rfl, rfl⟩
    ·replace h := cond_f h hc20
     refine run_skip ?_
     refine goes_code ?_
     refine run_seq ?_
     refine run_drawany [ro l_1v 1 (l_1.map (eInt .i64)), box b1 [.int .i64 n_0.Nodes, n_0_Arcsv], ro n_0_Arcsv 4 (n_0.Arcs.map S_api_Arc.enc), row v3 1 (x_10.map eBool)] (by kernel_rfl) ?_
     refine any_y 0 rfl (by kernel_rfl) (by kernel_rfl) (by kernel_rfl) (ss (ss (ss (ss (sn))))) (wn rfl) rfl (y_fieldAddr_box (sz := 0) Try.runUnderlying24 rfl Try.sizeOf22 rfl) ?_
     refine any_y 1 rfl (by kernel_rfl) (by kernel_rfl) (by kernel_rfl) (ss (ss (ss (ss (sn))))) (wn rfl) rfl (y_load_box 1 Try.isAgg22 rfl rfl rfl) ?_
     refine any_y 2 rfl (by kernel_rfl) (by kernel_rfl) (by kernel_rfl) (ss (ss (ss (ss (sn))))) (wn rfl) rfl (y_move rfl) ?_
     refine any_y 3 rfl (by kernel_rfl) (by kernel_rfl) (by kernel_rfl) (ss (ss (ss (ss (sn))))) (wn rfl) rfl (y_move rfl) ?_
     obtain ⟨x21, hzx21, hlx21, hxx21, h⟩ := idx_some h
     refine any_y 4 rfl (by kernel_rfl) (by kernel_rfl) (by kernel_rfl) (ss (ss (ss (ss (sn))))) (wn rfl) rfl (y_indexAddrI (kd := .i64) (i := i_9) 0 Try.runUnderlying34 Try.sizeOf3 rfl rfl rfl reads_ro hzx21 (map_lt hlx21)) ?_
     refine any_y 5 rfl (by kernel_rfl) (by kernel_rfl) (by kernel_rfl) (ss (ss (ss (ss (sn))))) (wn rfl) rfl (y_load_elem (i := i_9.toNat) 0 Try.isAgg3 rfl rfl reads_ro (map_get hxx21)) ?_
     obtain ⟨x22, hzx22, hlx22, hxx22, h⟩ := idx_some h
     refine any_y 6 rfl (by kernel_rfl) (by kernel_rfl) (by kernel_rfl) (ss (ss (ss (ss (sn))))) (wn rfl) rfl (y_indexAddrI (kd := .i64) (i := x21) 2 Try.runUnderlying22 Try.sizeOf67 rfl rfl rfl reads_ro hzx22 (map_lt hlx22)) ?_
     refine any_y 7 rfl (by kernel_rfl) (by kernel_rfl) (by kernel_rfl) (ss (ss (ss (ss (sn))))) (wn rfl) rfl (y_load_agg (i := x21.toNat) (c := [.int .i64 x22.From, .int .i64 x22.To, .int .i64 x22.Cap, .int .i64 x22.Cost]) 2 Try.isAgg67 Try.sizeOf67 rfl rfl reads_ro (map_get hxx22)) ?_
     refine any_all [8] (by kernel_rfl) rfl (anyo_cons ?_ anyo_nil)
     refine any_t rfl (wn rfl) rfl (t_alloc Try.zeroValue67) ?_
     rintro _ _ ⟨b23, rfl, rfl⟩
     refine ⟨(ss (ss (ss (ss (sn))))), ?_⟩
     refine any_all [9] (by kernel_rfl) rfl (anyo_cons ?_ anyo_nil)
     refine any_t rfl (wn rfl) rfl (t_store 4 Try.sizeOf67 rfl rfl rfl rfl (by simp [Value.cells, boxP]) (by simp [Value.cells, Value.oneCell', boxP])) ?_
     rintro _ _ ⟨rfl, rfl⟩
     refine ⟨(ss (ss (ss (ss (sn))))), ?_⟩
     refine any_turn (retell 4 (g := box b23 [.int .i64 x22.From, .int .i64 x22.To, .int .i64 x22.Cap, .int .i64 x22.Cost]) rfl rfl) ?_
     refine any_nil (by kernel_rfl) ?_
     refine goes_code ?_
     refine run_seq ?_
     refine run_weak [(1, l_1v), (2, boxP b1 0), (5, v3), (6, .int .i64 i_9), (7, boxP b23 0)] [0, 1, 2, 3, 4] [ro l_1v 1 (l_1.map (eInt .i64)), box b1 [.int .i64 n_0.Nodes, n_0_Arcsv], ro n_0_Arcsv 4 (n_0.Arcs.map S_api_Arc.enc), row v3 1 (x_10.map eBool), box b23 [.int .i64 x22.From, .int .i64 x22.To, .int .i64 x22.Cap, .int .i64 x22.Cost]] (qv5 rfl rfl rfl rfl rfl) (by decide) rfl ?_
     refine run_region' ?_
     refine oy rfl rfl (y_move rfl) ?_
     refine oy rfl rfl (y_move rfl) ?_
     refine oy rfl rfl (y_move rfl) ?_
     refine oy rfl rfl ((y_len 0 rfl Try.runUnderlying34 rfl rfl reads_ro).to (v_len (eInt .i64) _)) ?_
     refine oy rfl rfl (y_add rfl rfl) ?_
     refine oy rfl rfl (y_sub rfl rfl) ?_
     refine oy rfl rfl (y_move rfl) ?_
     refine oy rfl rfl ((y_len 0 rfl Try.runUnderlying34 rfl rfl reads_ro).to (v_len (eInt .i64) _)) ?_
     obtain ⟨hd24, h⟩ := need_some h
     refine oy rfl rfl (y_rem rfl rfl hd24) ?_
     obtain ⟨x25, hzx25, hlx25, hxx25, h⟩ := idx_some h
     refine oy rfl rfl (y_indexAddrI (kd := .i64) (i := ((IntKind.i64.wrap ((IntKind.i64.wrap (i_9 + (l_1.length : Int))) - 1)).tmod (l_1.length : Int))) 0 Try.runUnderlying34 Try.sizeOf3 rfl rfl rfl reads_ro hzx25 (map_lt hlx25)) ?_
     refine oy rfl rfl (y_load_elem (i := (((IntKind.i64.wrap ((IntKind.i64.wrap (i_9 + (l_1.length : Int))) - 1)).tmod (l_1.length : Int))).toNat) 0 Try.isAgg3 rfl rfl reads_ro (map_get hxx25)) ?_
     refine oy rfl rfl (y_assign rfl) ?_
     refine ops_nil ?_
     refine goes_code ?_
     refine run_seq ?_
     refine run_seq ?_
     refine run_weak [(1, l_1v), (2, boxP b1 0), (5, v3), (6, .int .i64 i_9), (7, boxP b23 0), (8, .int .i64 x25)] [0, 1, 2, 3, 4] [ro l_1v 1 (l_1.map (eInt .i64)), box b1 [.int .i64 n_0.Nodes, n_0_Arcsv], ro n_0_Arcsv 4 (n_0.Arcs.map S_api_Arc.enc), row v3 1 (x_10.map eBool), box b23 [.int .i64 x22.From, .int .i64 x22.To, .int .i64 x22.Cap, .int .i64 x22.Cost]] (qv6 rfl rfl rfl rfl rfl rfl) (by decide) rfl ?_
     refine run_draw (by kernel_rfl) (by kernel_rfl) ?_
     refine sy rfl rfl (y_move rfl) ?_
     refine sy rfl rfl (y_lss rfl rfl) ?_
     refine sy rfl rfl (y_move rfl) ?_
     refine still_cut 6 (Bool) (fun σ => [(1, l_1v), (2, boxP b1 0), (5, v3), (6, .int .i64 i_9), (7, boxP b23 0), (8, .int .i64 x25), (63, .bool σ)]) (fun σ => [ro l_1v 1 (l_1.map (eInt .i64)), box b1 [.int .i64 n_0.Nodes, n_0_Arcsv], ro n_0_Arcsv 4 (n_0.Arcs.map S_api_Arc.enc), row v3 1 (x_10.map eBool), box b23 [.int .i64 x22.From, .int .i64 x22.To, .int .i64 x22.Cap, .int .i64 x22.Cost]]) (fun σ => σ = (decide (x25 < 0) || decide ((n_0.Arcs.length : Int) ≤ x25))) (fun L26 hL27 => ?_) ?_
     ·refine still_split 57 (decide (x25 < 0)) rfl (fun hg28 => ?_) (fun hg28 => ?_)
      ·skip
       refine still_no 2 false 57 rfl rfl rfl rfl rfl ?_
       refine still_no 2 false 57 rfl rfl rfl rfl rfl ?_
       refine still_no 2 false 57 rfl rfl rfl rfl rfl ?_
       refine still_no 2 false 57 rfl rfl rfl rfl rfl ?_
       refine still_no 2 false 57 rfl rfl rfl rfl rfl ?_
       refine sy rfl rfl (y_pick (b := true) rfl rfl) ?_
       refine still_nil ?_
       exact goes_cut hL27 true [0, 1, 2, 3, 4] (qv7 rfl rfl rfl rfl rfl rfl rfl) (by decide) rfl (by rw [hg28]; simp)
      ·skip
       refine still_y (wg 2 false 57 rfl rfl rfl rfl) rfl (y_move rfl) ?_
       refine still_y (wg 2 false 57 rfl rfl rfl rfl) rfl (y_fieldAddr_box (sz := 0) Try.runUnderlying24 rfl Try.sizeOf22 rfl) ?_
       refine still_y (wg 2 false 57 rfl rfl rfl rfl) rfl (y_load_box 1 Try.isAgg22 rfl rfl rfl) ?_
       refine still_y (wg 2 false 57 rfl rfl rfl rfl) rfl ((y_len 2 rfl Try.runUnderlying22 rfl rfl reads_ro).to (v_len S_api_Arc.enc _)) ?_
       refine still_y (wg 2 false 57 rfl rfl rfl rfl) rfl (y_geq rfl rfl) ?_
       refine sy rfl rfl (y_pick (b := false) rfl rfl) ?_
       refine still_nil ?_
       exact goes_cut hL27 (decide ((n_0.Arcs.length : Int) ≤ x25)) [0, 1, 2, 3, 4] (qv7 rfl rfl rfl rfl rfl rfl rfl) (by decide) rfl (by rw [hg28]; simp)
     rintro _ rfl
     refine sy rfl rfl (y_move rfl) ?_
     obtain ⟨o30, h, ho31⟩ := bindJ_some h
     refine still_cut 10 (Bool) (fun σ => [(1, l_1v), (2, boxP b1 0), (5, v3), (6, .int .i64 i_9), (7, boxP b23 0), (74, .bool σ)]) (fun σ => [ro l_1v 1 (l_1.map (eInt .i64)), box b1 [.int .i64 n_0.Nodes, n_0_Arcsv], ro n_0_Arcsv 4 (n_0.Arcs.map S_api_Arc.enc), row v3 1 (x_10.map eBool), box b23 [.int .i64 x22.From, .int .i64 x22.To, .int .i64 x22.Cap, .int .i64 x22.Cost]]) (fun σ => o30 = .go σ) (fun L32 hL33 => ?_) ?_
     ·refine still_split 64 (decide (x25 < 0) || decide ((n_0.Arcs.length : Int) ≤ x25)) rfl (fun hg34 => ?_) (fun hg34 => ?_)
      ·replace h := cond_t h hg34
       refine still_no 9 false 64 rfl rfl rfl rfl rfl ?_
       refine still_no 9 false 64 rfl rfl rfl rfl rfl ?_
       refine still_no 9 false 64 rfl rfl rfl rfl rfl ?_
       refine still_no 9 false 64 rfl rfl rfl rfl rfl ?_
       refine still_no 9 false 64 rfl rfl rfl rfl rfl ?_
       refine still_no 9 false 64 rfl rfl rfl rfl rfl ?_
       refine still_no 9 false 64 rfl rfl rfl rfl rfl ?_
       refine still_no 9 false 64 rfl rfl rfl rfl rfl ?_
       refine still_no 9 false 64 rfl rfl rfl rfl rfl ?_
       refine sy rfl rfl (y_pick (b := true) rfl rfl) ?_
       refine still_nil ?_
       obtain rfl := some_eq h
       exact goes_cut hL33 true [0, 1, 2, 3, 4] (qv6 rfl rfl rfl rfl rfl rfl) (by decide) rfl rfl
      ·replace h := cond_f h hg34
       refine still_y (wg 9 false 64 rfl rfl rfl rfl) rfl (y_fieldAddr_box (sz := 0) Try.runUnderlying24 rfl Try.sizeOf22 rfl) ?_
       refine still_y (wg 9 false 64 rfl rfl rfl rfl) rfl (y_load_box 1 Try.isAgg22 rfl rfl rfl) ?_
       refine still_y (wg 9 false 64 rfl rfl rfl rfl) rfl (y_move rfl) ?_
       obtain ⟨x35, hzx35, hlx35, hxx35, h⟩ := idx_some h
       refine still_y (wg 9 false 64 rfl rfl rfl rfl) rfl (y_indexAddrI (kd := .i64) (i := x25) 2 Try.runUnderlying22 Try.sizeOf67 rfl rfl rfl reads_ro hzx35 (map_lt hlx35)) ?_
       refine still_y (wg 9 false 64 rfl rfl rfl rfl) rfl (y_fieldAddr_elem (sz := 0) Try.runUnderlying67 rfl Try.sizeOf3 rfl) ?_
       refine still_y (wg 9 false 64 rfl rfl rfl rfl) rfl (y_load_field (i := x25.toNat) (j := 1) 2 Try.isAgg3 rfl rfl reads_ro (map_get hxx35) rfl) ?_
       refine still_y (wg 9 false 64 rfl rfl rfl rfl) rfl (y_fieldAddr_box (sz := 0) Try.runUnderlying67 rfl Try.sizeOf3 rfl) ?_
       refine still_y (wg 9 false 64 rfl rfl rfl rfl) rfl (y_load_box 4 Try.isAgg3 rfl rfl rfl) ?_
       refine still_y (wg 9 false 64 rfl rfl rfl rfl) rfl (y_neq rfl rfl) ?_
       refine sy rfl rfl (y_pick (b := false) rfl rfl) ?_
       refine still_nil ?_
       obtain rfl := some_eq h
       exact goes_cut hL33 (decide (x35.To ≠ x22.From)) [0, 1, 2, 3, 4] (qv6 rfl rfl rfl rfl rfl rfl) (by decide) rfl rfl
     rintro b29 hj
     obtain rfl : o30 = _ := hj
     replace h := after_go ho31
     clear ho31
     refine sy rfl rfl (y_move rfl) ?_
     obtain ⟨o37, h, ho38⟩ := bindJ_some h
     refine still_cut 6 (Bool) (fun σ => [(1, l_1v), (2, boxP b1 0), (5, v3), (6, .int .i64 i_9), (7, boxP b23 0), (81, .bool σ)]) (fun σ => [ro l_1v 1 (l_1.map (eInt .i64)), box b1 [.int .i64 n_0.Nodes, n_0_Arcsv], ro n_0_Arcsv 4 (n_0.Arcs.map S_api_Arc.enc), row v3 1 (x_10.map eBool), box b23 [.int .i64 x22.From, .int .i64 x22.To, .int .i64 x22.Cap, .int .i64 x22.Cost]]) (fun σ => o37 = .go σ) (fun L39 hL40 => ?_) ?_
     ·refine still_split 75 b29 rfl (fun hg41 => ?_) (fun hg41 => ?_)
      ·replace h := cond_t h hg41
       refine still_no 20 false 75 rfl rfl rfl rfl rfl ?_
       refine still_no 20 false 75 rfl rfl rfl rfl rfl ?_
       refine still_no 20 false 75 rfl rfl rfl rfl rfl ?_
       refine still_no 20 false 75 rfl rfl rfl rfl rfl ?_
       refine still_no 20 false 75 rfl rfl rfl rfl rfl ?_
       refine sy rfl rfl (y_pick (b := true) rfl rfl) ?_
       refine still_nil ?_
       obtain rfl := some_eq h
       exact goes_cut hL40 true [0, 1, 2, 3, 4] (qv6 rfl rfl rfl rfl rfl rfl) (by decide) rfl rfl
      ·replace h := cond_f h hg41
       refine still_y (wg 20 false 75 rfl rfl rfl rfl) rfl (y_move rfl) ?_
       refine still_y (wg 20 false 75 rfl rfl rfl rfl) rfl (y_fieldAddr_box (sz := 0) Try.runUnderlying67 rfl Try.sizeOf3 rfl) ?_
       refine still_y (wg 20 false 75 rfl rfl rfl rfl) rfl (y_load_box 4 Try.isAgg3 rfl rfl rfl) ?_
       obtain ⟨x42, hzx42, hlx42, hxx42, h⟩ := idx_some h
       refine still_y (wg 20 false 75 rfl rfl rfl rfl) rfl (y_indexAddrI (kd := .i64) (i := x22.From) 3 Try.runUnderlying27 Try.sizeOf4 rfl rfl rfl reads_row hzx42 (map_lt hlx42)) ?_
       refine still_y (wg 20 false 75 rfl rfl rfl rfl) rfl (y_load_elem (i := (x22.From).toNat) 3 Try.isAgg4 rfl rfl reads_row (map_get hxx42)) ?_
       refine sy rfl rfl (y_pick (b := false) rfl rfl) ?_
       refine still_nil ?_
       obtain rfl := some_eq h
       exact goes_cut hL40 x42 [0, 1, 2, 3, 4] (qv6 rfl rfl rfl rfl rfl rfl) (by decide) rfl rfl
     rintro b36 hj
     obtain rfl : o37 = _ := hj
     replace h := after_go ho38
     clear ho38
     refine still_nil ?_
     refine goes_code ?_
     refine run_cond b36 rfl (fun hc43 => ?_) (fun hc43 => ?_)
     ·replace h := cond_t h hc43
      refine run_seq ?_
      refine run_region' ?_
      refine oy rfl rfl (y_assign rfl) ?_
      refine ops_nil ?_
      refine goes_code ?_
      refine run_ret ?_
      obtain rfl := some_eq h
      obtain rfl := hstop13 _ rfl
      skip
      obtain rfl := after_stop ho6
      refine fin_slots [4] [.bool false] [] [] Try.results47 rfl (by decide) rfl ?_
      exact ⟨rfl, rfl⟩
     ·replace h := cond_f h hc43
      refine run_skip ?_
      refine goes_code ?_
      refine run_region' ?_
      refine oy rfl rfl (y_move rfl) ?_
      refine oy rfl rfl (y_fieldAddr_box (sz := 0) Try.runUnderlying67 rfl Try.sizeOf3 rfl) ?_
      refine oy rfl rfl (y_load_box 4 Try.isAgg3 rfl rfl rfl) ?_
      obtain ⟨x44, hzx44, hlx44, hxx44, h⟩ := idx_some h
      refine oy rfl rfl (y_indexAddrI (kd := .i64) (i := x22.From) 3 Try.runUnderlying27 Try.sizeOf4 rfl rfl rfl reads_row hzx44 (map_lt hlx44)) ?_
      refine ot rfl rfl (t_store_row (i := (x22.From).toNat) (j := 0) (c := eBool x44) 3 Try.sizeOf4 rfl rfl rfl rfl (map_get hxx44) (by decide) (by simp [Value.cells, Value.oneCell', boxP])) ?_
      rintro _ _ ⟨rfl, rfl⟩
      refine ops_turn (retell 3 (g := row v3 1 ((x_10.set ((x22.From).toNat) true).map eBool)) rfl (congrArg (row _ _) (map_set_at rfl))) ?_
      refine ops_nil ?_
      refine goes_blk ?_
      refine goes_code ?_
      refine run_region' ?_
      refine oy rfl rfl (y_move rfl) ?_
      refine oy rfl rfl (y_add rfl rfl) ?_
      refine oy rfl rfl (y_assign rfl) ?_
      refine ops_nil ?_
      obtain rfl := some_eq h
      exact goes_iter hgo12 ((IntKind.i64.wrap (i_9 + 1)), (x_10.set ((x22.From).toNat) true)) () [0, 1, 2, 3] rfl (qv4 rfl rfl rfl rfl) (by decide) rfl
   ·replace h := cond_f h hc15
    refine run_exit _ rfl ?_
    obtain rfl := some_eq h
    obtain rfl := hstop13 _ rfl
    exact goes_cut hL7 ((), ()) [] vnil (by decide) rfl rfl
  rintro ⟨_, _⟩ hj
  obtain rfl : o5 = _ := hj
  replace h := after_go ho6
  clear ho6
  change Run _ _ _ (VF.of []) []
  refine run_seq ?_
  refine run_region' ?_
  refine oy rfl rfl (y_assign rfl) ?_
  refine ops_nil ?_
  refine goes_code ?_
  refine run_ret ?_
  obtain rfl := some_eq h
  refine fin_slots [4] [.bool true] [] [] Try.results47 rfl (by decide) rfl ?_
  exact ⟨rfl, rfl⟩

end Go.Proofs.Ytgelifcckhemiaa
