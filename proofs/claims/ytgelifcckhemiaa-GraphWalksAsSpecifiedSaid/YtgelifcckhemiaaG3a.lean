/-
  Functions that the law GraphWalksAsSpecified needs, lifted.
-/
import Derived.Test.YtgelifcckhemiaaG6a
namespace Go.Proofs.Ytgelifcckhemiaa
open Go.Abs
set_option linter.unusedVariables false
set_option linter.unusedSimpArgs false
set_option maxRecDepth 20000
set_option maxHeartbeats 4000000


def ref09_Valid_L1 (n_0 : S_api_Net) : (Int) → Option (Lp (Int) (Lp (Unit) (Bool))) :=
 fun i_13 =>
  cond (decide (i_13 < (n_0.Arcs.length : Int)))
   (idx n_0.Arcs i_13 fun x19 =>
   cond (((((decide (x19.From < 0) || decide (n_0.Nodes ≤ x19.From)) || decide (x19.To < 0)) || decide (n_0.Nodes ≤ x19.To)) || decide (1048576 < x19.Cost)) || decide (x19.Cost < (-1048576)))
    (some (.stop (.stop false)))
    (some (.go (IntKind.i64.wrap (i_13 + 1)))))
   (some (.stop (.go ())))
def ref09_Valid (n : Nat) (n_0 : S_api_Net) : Option (Bool) :=
 cond ((decide (n_0.Nodes < 0) || decide (256 < n_0.Nodes)) || decide (2048 < (n_0.Arcs.length : Int)))
  (some false)
  (bindJ (S := Unit)
   (iter (ref09_Valid_L1 n_0) n 0)
  (fun _ =>
   some true))
theorem ref09_Valid_ok (n : Nat) (n_0 : S_api_Net) (n_0_Arcsv : Value) {r : Bool} (h : ref09_Valid n n_0 = some r) :
  Meets Try.prog 18 [.agg #[.int .i64 n_0.Nodes, n_0_Arcsv]] [ro n_0_Arcsv 4 (n_0.Arcs.map S_api_Arc.enc)] (fun v G => v = .bool r ∧ G = []) := by
 refine fn_of_run Try.func18 rfl Try.ntmps18 rfl (fun w0 o0 => ?_)
 refine run_seq ?_
 refine run_region' ?_
 refine ot rfl rfl (t_box rfl) ?_
 rintro _ _ ⟨b1, rfl, rfl⟩
 refine oy rfl rfl (y_assign rfl) ?_
 refine ops_nil ?_
 refine goes_code ?_
 refine run_seq ?_
 refine run_seq ?_
 refine run_region' ?_
 refine oy rfl rfl (y_fieldAddr_box (sz := 0) Try.runUnderlying24 rfl Try.sizeOf3 rfl) ?_
 refine oy rfl rfl (y_load_box 1 Try.isAgg3 rfl rfl rfl) ?_
 refine oy rfl rfl (y_lss rfl rfl) ?_
 refine oy rfl rfl (y_move rfl) ?_
 refine ops_cut 4 (Bool) (fun σ => [(1, boxP b1 0), (12, .bool σ)]) (fun σ => [ro n_0_Arcsv 4 (n_0.Arcs.map S_api_Arc.enc), box b1 [.int .i64 n_0.Nodes, n_0_Arcsv]]) (fun σ => σ = (decide (n_0.Nodes < 0) || decide (256 < n_0.Nodes))) (fun L2 hL3 => ?_) ?_
 ·refine ops_split 8 (decide (n_0.Nodes < 0)) rfl (fun hg4 => ?_) (fun hg4 => ?_)
  ·skip
   refine ops_no 3 false 8 rfl rfl rfl rfl rfl ?_
   refine ops_no 3 false 8 rfl rfl rfl rfl rfl ?_
   refine ops_no 3 false 8 rfl rfl rfl rfl rfl ?_
   refine oy rfl rfl (y_pick (b := true) rfl rfl) ?_
   refine ops_nil ?_
   exact goes_cut hL3 true [0, 1] (vcons rfl (vcons rfl (vnil))) (by decide) rfl (by rw [hg4]; simp)
  ·skip
   refine ops_y (wg 3 false 8 rfl rfl rfl rfl) rfl (y_fieldAddr_box (sz := 0) Try.runUnderlying24 rfl Try.sizeOf3 rfl) ?_
   refine ops_y (wg 3 false 8 rfl rfl rfl rfl) rfl (y_load_box 1 Try.isAgg3 rfl rfl rfl) ?_
   refine ops_y (wg 3 false 8 rfl rfl rfl rfl) rfl (y_gtr rfl rfl) ?_
   refine oy rfl rfl (y_pick (b := false) rfl rfl) ?_
   refine ops_nil ?_
   exact goes_cut hL3 (decide (256 < n_0.Nodes)) [0, 1] (vcons rfl (vcons rfl (vnil))) (by decide) rfl (by rw [hg4]; simp)
 rintro _ rfl
 refine oy rfl rfl (y_move rfl) ?_
 refine ops_cut 5 (Bool) (fun σ => [(1, boxP b1 0), (18, .bool σ)]) (fun σ => [ro n_0_Arcsv 4 (n_0.Arcs.map S_api_Arc.enc), box b1 [.int .i64 n_0.Nodes, n_0_Arcsv]]) (fun σ => σ = ((decide (n_0.Nodes < 0) || decide (256 < n_0.Nodes)) || decide (2048 < (n_0.Arcs.length : Int)))) (fun L5 hL6 => ?_) ?_
 ·refine ops_split 13 (decide (n_0.Nodes < 0) || decide (256 < n_0.Nodes)) rfl (fun hg7 => ?_) (fun hg7 => ?_)
  ·skip
   refine ops_no 8 false 13 rfl rfl rfl rfl rfl ?_
   refine ops_no 8 false 13 rfl rfl rfl rfl rfl ?_
   refine ops_no 8 false 13 rfl rfl rfl rfl rfl ?_
   refine ops_no 8 false 13 rfl rfl rfl rfl rfl ?_
   refine oy rfl rfl (y_pick (b := true) rfl rfl) ?_
   refine ops_nil ?_
   exact goes_cut hL6 true [0, 1] (vcons rfl (vcons rfl (vnil))) (by decide) rfl (by rw [hg7]; simp)
  ·skip
   refine ops_y (wg 8 false 13 rfl rfl rfl rfl) rfl (y_fieldAddr_box (sz := 0) Try.runUnderlying24 rfl Try.sizeOf22 rfl) ?_
   refine ops_y (wg 8 false 13 rfl rfl rfl rfl) rfl (y_load_box 1 Try.isAgg22 rfl rfl rfl) ?_
   refine ops_y (wg 8 false 13 rfl rfl rfl rfl) rfl ((y_len 0 rfl Try.runUnderlying22 rfl rfl reads_ro).to (v_len S_api_Arc.enc _)) ?_
   refine ops_y (wg 8 false 13 rfl rfl rfl rfl) rfl (y_gtr rfl rfl) ?_
   refine oy rfl rfl (y_pick (b := false) rfl rfl) ?_
   refine ops_nil ?_
   exact goes_cut hL6 (decide (2048 < (n_0.Arcs.length : Int))) [0, 1] (vcons rfl (vcons rfl (vnil))) (by decide) rfl (by rw [hg7]; simp)
 rintro _ rfl
 refine ops_nil ?_
 refine goes_code ?_
 refine run_cond ((decide (n_0.Nodes < 0) || decide (256 < n_0.Nodes)) || decide (2048 < (n_0.Arcs.length : Int))) rfl (fun hc8 => ?_) (fun hc8 => ?_)
 ·replace h := cond_t h hc8
  refine run_seq ?_
  refine run_region' ?_
  refine oy rfl rfl (y_assign rfl) ?_
  refine ops_nil ?_
  refine goes_code ?_
  refine run_ret ?_
  obtain rfl := some_eq h
  refine fin_slots [2] [.bool false] [] [] Try.results18 rfl (by decide) rfl ?_
  exact ⟨rfl, rfl⟩
 ·replace h := cond_f h hc8
  refine run_skip ?_
  refine goes_code ?_
  obtain ⟨o9, h, ho10⟩ := bindJ_some h
  refine run_cut ((Unit) × (Unit)) (fun σ => []) (fun σ => []) (fun σ => o9 = .go σ.1) (fun L12 hL11 => ?_) ?_
  ·
   refine run_seq ?_
   refine run_region' ?_
   refine oy rfl rfl (y_assign rfl) ?_
   refine ops_nil ?_
   refine goes_code ?_
   refine run_block ?_
   refine run_iter (step := ref09_Valid_L1 n_0) (n := n) (s0 := 0) h (G := Unit) () (fun σ γ => [(1, boxP b1 0), (3, .int .i64 σ)]) (fun σ γ => [box b1 [.int .i64 n_0.Nodes, n_0_Arcsv], ro n_0_Arcsv 4 (n_0.Arcs.map S_api_Arc.enc)]) [1, 0] (vcons rfl (vcons rfl (vnil))) (by decide) rfl ?_
   rintro i_13 _ o14 h L17 hgo15 hstop16
   change Run _ _ _ (VF.of [(1, boxP b1 0), (3, .int .i64 i_13)]) [box b1 [.int .i64 n_0.Nodes, n_0_Arcsv], ro n_0_Arcsv 4 (n_0.Arcs.map S_api_Arc.enc)]
   refine run_seq ?_
   refine run_seq ?_
   refine run_region' ?_
   refine oy rfl rfl (y_move rfl) ?_
   refine oy rfl rfl (y_fieldAddr_box (sz := 0) Try.runUnderlying24 rfl Try.sizeOf22 rfl) ?_
   refine oy rfl rfl (y_load_box 0 Try.isAgg22 rfl rfl rfl) ?_
   refine oy rfl rfl ((y_len 1 rfl Try.runUnderlying22 rfl rfl reads_ro).to (v_len S_api_Arc.enc _)) ?_
   refine oy rfl rfl (y_lss rfl rfl) ?_
   refine ops_nil ?_
   refine goes_code ?_
   refine run_cond (decide (i_13 < (n_0.Arcs.length : Int))) rfl (fun hc18 => ?_) (fun hc18 => ?_)
   ·replace h := cond_t h hc18
    refine run_skip ?_
    refine goes_code ?_
    refine run_seq ?_
    refine run_block ?_
    refine run_seq ?_
    refine run_region' ?_
    refine oy rfl rfl (y_fieldAddr_box (sz := 0) Try.runUnderlying24 rfl Try.sizeOf22 rfl) ?_
    refine oy rfl rfl (y_load_box 0 Try.isAgg22 rfl rfl rfl) ?_
    refine oy rfl rfl (y_move rfl) ?_
    obtain ⟨x19, hzx19, hlx19, hxx19, h⟩ := idx_some h
    refine oy rfl rfl (y_indexAddrI (kd := .i64) (i := i_13) 1 Try.runUnderlying22 Try.sizeOf67 rfl rfl rfl reads_ro hzx19 (map_lt hlx19)) ?_
    refine oy rfl rfl (y_load_agg (i := i_13.toNat) (c := [.int .i64 x19.From, .int .i64 x19.To, .int .i64 x19.Cap, .int .i64 x19.Cost]) 1 Try.isAgg67 Try.sizeOf67 rfl rfl reads_ro (map_get hxx19)) ?_
    refine ot rfl rfl (t_alloc Try.zeroValue67) ?_
    rintro _ _ ⟨b20, rfl, rfl⟩
    refine ot rfl rfl (t_store 2 Try.sizeOf67 rfl rfl rfl rfl (by simp [Value.cells, boxP]) (by simp [Value.cells, Value.oneCell', boxP])) ?_
    rintro _ _ ⟨rfl, rfl⟩
    refine ops_turn (retell 2 (g := box b20 [.int .i64 x19.From, .int .i64 x19.To, .int .i64 x19.Cap, .int .i64 x19.Cost]) rfl rfl) ?_
    refine ops_nil ?_
    refine goes_code ?_
    refine run_seq ?_
    refine run_weak [(1, boxP b1 0), (3, .int .i64 i_13), (4, boxP b20 0)] [0, 1, 2] [box b1 [.int .i64 n_0.Nodes, n_0_Arcsv], ro n_0_Arcsv 4 (n_0.Arcs.map S_api_Arc.enc), box b20 [.int .i64 x19.From, .int .i64 x19.To, .int .i64 x19.Cap, .int .i64 x19.Cost]] (vcons rfl (vcons rfl (vcons rfl (vnil)))) (by decide) rfl ?_
    refine run_region' ?_
    refine oy rfl rfl (y_fieldAddr_box (sz := 0) Try.runUnderlying67 rfl Try.sizeOf3 rfl) ?_
    refine oy rfl rfl (y_load_box 2 Try.isAgg3 rfl rfl rfl) ?_
    refine oy rfl rfl (y_lss rfl rfl) ?_
    refine oy rfl rfl (y_move rfl) ?_
    refine ops_cut 6 (Bool) (fun σ => [(1, boxP b1 0), (3, .int .i64 i_13), (4, boxP b20 0), (40, .bool σ)]) (fun σ => [box b1 [.int .i64 n_0.Nodes, n_0_Arcsv], ro n_0_Arcsv 4 (n_0.Arcs.map S_api_Arc.enc), box b20 [.int .i64 x19.From, .int .i64 x19.To, .int .i64 x19.Cap, .int .i64 x19.Cost]]) (fun σ => σ = (decide (x19.From < 0) || decide (n_0.Nodes ≤ x19.From))) (fun L21 hL22 => ?_) ?_
    ·refine ops_split 34 (decide (x19.From < 0)) rfl (fun hg23 => ?_) (fun hg23 => ?_)
     ·skip
      refine ops_no 3 false 34 rfl rfl rfl rfl rfl ?_
      refine ops_no 3 false 34 rfl rfl rfl rfl rfl ?_
      refine ops_no 3 false 34 rfl rfl rfl rfl rfl ?_
      refine ops_no 3 false 34 rfl rfl rfl rfl rfl ?_
      refine ops_no 3 false 34 rfl rfl rfl rfl rfl ?_
      refine oy rfl rfl (y_pick (b := true) rfl rfl) ?_
      refine ops_nil ?_
      exact goes_cut hL22 true [0, 1, 2] (vcons rfl (vcons rfl (vcons rfl (vcons rfl (vnil))))) (by decide) rfl (by rw [hg23]; simp)
     ·skip
      refine ops_y (wg 3 false 34 rfl rfl rfl rfl) rfl (y_fieldAddr_box (sz := 0) Try.runUnderlying67 rfl Try.sizeOf3 rfl) ?_
      refine ops_y (wg 3 false 34 rfl rfl rfl rfl) rfl (y_load_box 2 Try.isAgg3 rfl rfl rfl) ?_
      refine ops_y (wg 3 false 34 rfl rfl rfl rfl) rfl (y_fieldAddr_box (sz := 0) Try.runUnderlying24 rfl Try.sizeOf3 rfl) ?_
      refine ops_y (wg 3 false 34 rfl rfl rfl rfl) rfl (y_load_box 0 Try.isAgg3 rfl rfl rfl) ?_
      refine ops_y (wg 3 false 34 rfl rfl rfl rfl) rfl (y_geq rfl rfl) ?_
      refine oy rfl rfl (y_pick (b := false) rfl rfl) ?_
      refine ops_nil ?_
      exact goes_cut hL22 (decide (n_0.Nodes ≤ x19.From)) [0, 1, 2] (vcons rfl (vcons rfl (vcons rfl (vcons rfl (vnil))))) (by decide) rfl (by rw [hg23]; simp)
    rintro _ rfl
    refine oy rfl rfl (y_move rfl) ?_
    refine ops_cut 4 (Bool) (fun σ => [(1, boxP b1 0), (3, .int .i64 i_13), (4, boxP b20 0), (45, .bool σ)]) (fun σ => [box b1 [.int .i64 n_0.Nodes, n_0_Arcsv], ro n_0_Arcsv 4 (n_0.Arcs.map S_api_Arc.enc), box b20 [.int .i64 x19.From, .int .i64 x19.To, .int .i64 x19.Cap, .int .i64 x19.Cost]]) (fun σ => σ = ((decide (x19.From < 0) || decide (n_0.Nodes ≤ x19.From)) || decide (x19.To < 0))) (fun L24 hL25 => ?_) ?_
    ·refine ops_split 41 (decide (x19.From < 0) || decide (n_0.Nodes ≤ x19.From)) rfl (fun hg26 => ?_) (fun hg26 => ?_)
     ·skip
      refine ops_no 10 false 41 rfl rfl rfl rfl rfl ?_
      refine ops_no 10 false 41 rfl rfl rfl rfl rfl ?_
      refine ops_no 10 false 41 rfl rfl rfl rfl rfl ?_
      refine oy rfl rfl (y_pick (b := true) rfl rfl) ?_
      refine ops_nil ?_
      exact goes_cut hL25 true [0, 1, 2] (vcons rfl (vcons rfl (vcons rfl (vcons rfl (vnil))))) (by decide) rfl (by rw [hg26]; simp)
     ·skip
      refine ops_y (wg 10 false 41 rfl rfl rfl rfl) rfl (y_fieldAddr_box (sz := 0) Try.runUnderlying67 rfl Try.sizeOf3 rfl) ?_
      refine ops_y (wg 10 false 41 rfl rfl rfl rfl) rfl (y_load_box 2 Try.isAgg3 rfl rfl rfl) ?_
      refine ops_y (wg 10 false 41 rfl rfl rfl rfl) rfl (y_lss rfl rfl) ?_
      refine oy rfl rfl (y_pick (b := false) rfl rfl) ?_
      refine ops_nil ?_
      exact goes_cut hL25 (decide (x19.To < 0)) [0, 1, 2] (vcons rfl (vcons rfl (vcons rfl (vcons rfl (vnil))))) (by decide) rfl (by rw [hg26]; simp)
    rintro _ rfl
    refine oy rfl rfl (y_move rfl) ?_
    refine ops_cut 6 (Bool) (fun σ => [(1, boxP b1 0), (3, .int .i64 i_13), (4, boxP b20 0), (52, .bool σ)]) (fun σ => [box b1 [.int .i64 n_0.Nodes, n_0_Arcsv], ro n_0_Arcsv 4 (n_0.Arcs.map S_api_Arc.enc), box b20 [.int .i64 x19.From, .int .i64 x19.To, .int .i64 x19.Cap, .int .i64 x19.Cost]]) (fun σ => σ = (((decide (x19.From < 0) || decide (n_0.Nodes ≤ x19.From)) || decide (x19.To < 0)) || decide (n_0.Nodes ≤ x19.To))) (fun L27 hL28 => ?_) ?_
    ·refine ops_split 46 ((decide (x19.From < 0) || decide (n_0.Nodes ≤ x19.From)) || decide (x19.To < 0)) rfl (fun hg29 => ?_) (fun hg29 => ?_)
     ·skip
      refine ops_no 15 false 46 rfl rfl rfl rfl rfl ?_
      refine ops_no 15 false 46 rfl rfl rfl rfl rfl ?_
      refine ops_no 15 false 46 rfl rfl rfl rfl rfl ?_
      refine ops_no 15 false 46 rfl rfl rfl rfl rfl ?_
      refine ops_no 15 false 46 rfl rfl rfl rfl rfl ?_
      refine oy rfl rfl (y_pick (b := true) rfl rfl) ?_
      refine ops_nil ?_
      exact goes_cut hL28 true [0, 1, 2] (vcons rfl (vcons rfl (vcons rfl (vcons rfl (vnil))))) (by decide) rfl (by rw [hg29]; simp)
     ·skip
      refine ops_y (wg 15 false 46 rfl rfl rfl rfl) rfl (y_fieldAddr_box (sz := 0) Try.runUnderlying67 rfl Try.sizeOf3 rfl) ?_
      refine ops_y (wg 15 false 46 rfl rfl rfl rfl) rfl (y_load_box 2 Try.isAgg3 rfl rfl rfl) ?_
      refine ops_y (wg 15 false 46 rfl rfl rfl rfl) rfl (y_fieldAddr_box (sz := 0) Try.runUnderlying24 rfl Try.sizeOf3 rfl) ?_
      refine ops_y (wg 15 false 46 rfl rfl rfl rfl) rfl (y_load_box 0 Try.isAgg3 rfl rfl rfl) ?_
      refine ops_y (wg 15 false 46 rfl rfl rfl rfl) rfl (y_geq rfl rfl) ?_
      refine oy rfl rfl (y_pick (b := false) rfl rfl) ?_
      refine ops_nil ?_
      exact goes_cut hL28 (decide (n_0.Nodes ≤ x19.To)) [0, 1, 2] (vcons rfl (vcons rfl (vcons rfl (vcons rfl (vnil))))) (by decide) rfl (by rw [hg29]; simp)
    rintro _ rfl
    refine oy rfl rfl (y_move rfl) ?_
    refine ops_cut 4 (Bool) (fun σ => [(1, boxP b1 0), (3, .int .i64 i_13), (4, boxP b20 0), (57, .bool σ)]) (fun σ => [box b1 [.int .i64 n_0.Nodes, n_0_Arcsv], ro n_0_Arcsv 4 (n_0.Arcs.map S_api_Arc.enc), box b20 [.int .i64 x19.From, .int .i64 x19.To, .int .i64 x19.Cap, .int .i64 x19.Cost]]) (fun σ => σ = ((((decide (x19.From < 0) || decide (n_0.Nodes ≤ x19.From)) || decide (x19.To < 0)) || decide (n_0.Nodes ≤ x19.To)) || decide (1048576 < x19.Cost))) (fun L30 hL31 => ?_) ?_
    ·refine ops_split 53 (((decide (x19.From < 0) || decide (n_0.Nodes ≤ x19.From)) || decide (x19.To < 0)) || decide (n_0.Nodes ≤ x19.To)) rfl (fun hg32 => ?_) (fun hg32 => ?_)
     ·skip
      refine ops_no 22 false 53 rfl rfl rfl rfl rfl ?_
      refine ops_no 22 false 53 rfl rfl rfl rfl rfl ?_
      refine ops_no 22 false 53 rfl rfl rfl rfl rfl ?_
      refine oy rfl rfl (y_pick (b := true) rfl rfl) ?_
      refine ops_nil ?_
      exact goes_cut hL31 true [0, 1, 2] (vcons rfl (vcons rfl (vcons rfl (vcons rfl (vnil))))) (by decide) rfl (by rw [hg32]; simp)
     ·skip
      refine ops_y (wg 22 false 53 rfl rfl rfl rfl) rfl (y_fieldAddr_box (sz := 0) Try.runUnderlying67 rfl Try.sizeOf3 rfl) ?_
      refine ops_y (wg 22 false 53 rfl rfl rfl rfl) rfl (y_load_box 2 Try.isAgg3 rfl rfl rfl) ?_
      refine ops_y (wg 22 false 53 rfl rfl rfl rfl) rfl (y_gtr rfl rfl) ?_
      refine oy rfl rfl (y_pick (b := false) rfl rfl) ?_
      refine ops_nil ?_
      exact goes_cut hL31 (decide (1048576 < x19.Cost)) [0, 1, 2] (vcons rfl (vcons rfl (vcons rfl (vcons rfl (vnil))))) (by decide) rfl (by rw [hg32]; simp)
    rintro _ rfl
    refine oy rfl rfl (y_move rfl) ?_
    refine ops_cut 4 (Bool) (fun σ => [(1, boxP b1 0), (3, .int .i64 i_13), (62, .bool σ)]) (fun σ => [box b1 [.int .i64 n_0.Nodes, n_0_Arcsv], ro n_0_Arcsv 4 (n_0.Arcs.map S_api_Arc.enc)]) (fun σ => σ = (((((decide (x19.From < 0) || decide (n_0.Nodes ≤ x19.From)) || decide (x19.To < 0)) || decide (n_0.Nodes ≤ x19.To)) || decide (1048576 < x19.Cost)) || decide (x19.Cost < (-1048576)))) (fun L33 hL34 => ?_) ?_
    ·refine ops_split 58 ((((decide (x19.From < 0) || decide (n_0.Nodes ≤ x19.From)) || decide (x19.To < 0)) || decide (n_0.Nodes ≤ x19.To)) || decide (1048576 < x19.Cost)) rfl (fun hg35 => ?_) (fun hg35 => ?_)
     ·skip
      refine ops_no 27 false 58 rfl rfl rfl rfl rfl ?_
      refine ops_no 27 false 58 rfl rfl rfl rfl rfl ?_
      refine ops_no 27 false 58 rfl rfl rfl rfl rfl ?_
      refine oy rfl rfl (y_pick (b := true) rfl rfl) ?_
      refine ops_nil ?_
      exact goes_cut hL34 true [0, 1] (vcons rfl (vcons rfl (vcons rfl (vnil)))) (by decide) rfl (by rw [hg35]; simp)
     ·skip
      refine ops_y (wg 27 false 58 rfl rfl rfl rfl) rfl (y_fieldAddr_box (sz := 0) Try.runUnderlying67 rfl Try.sizeOf3 rfl) ?_
      refine ops_y (wg 27 false 58 rfl rfl rfl rfl) rfl (y_load_box 2 Try.isAgg3 rfl rfl rfl) ?_
      refine ops_y (wg 27 false 58 rfl rfl rfl rfl) rfl (y_lss rfl rfl) ?_
      refine oy rfl rfl (y_pick (b := false) rfl rfl) ?_
      refine ops_nil ?_
      exact goes_cut hL34 (decide (x19.Cost < (-1048576))) [0, 1] (vcons rfl (vcons rfl (vcons rfl (vnil)))) (by decide) rfl (by rw [hg35]; simp)
    rintro _ rfl
    refine ops_nil ?_
    refine goes_code ?_
    refine run_cond (((((decide (x19.From < 0) || decide (n_0.Nodes ≤ x19.From)) || decide (x19.To < 0)) || decide (n_0.Nodes ≤ x19.To)) || decide (1048576 < x19.Cost)) || decide (x19.Cost < (-1048576))) rfl (fun hc36 => ?_) (fun hc36 => ?_)
    ·replace h := cond_t h hc36
     refine run_seq ?_
     refine run_region' ?_
     refine oy rfl rfl (y_assign rfl) ?_
     refine ops_nil ?_
     refine goes_code ?_
     refine run_ret ?_
     obtain rfl := some_eq h
     obtain rfl := hstop16 _ rfl
     skip
     obtain rfl := after_stop ho10
     refine fin_slots [2] [.bool false] [] [] Try.results18 rfl (by decide) rfl ?_
     exact ⟨rfl, rfl⟩
    ·replace h := cond_f h hc36
     refine run_skip ?_
     refine goes_blk ?_
     refine goes_code ?_
     refine run_region' ?_
     refine oy rfl rfl (y_move rfl) ?_
     refine oy rfl rfl (y_add rfl rfl) ?_
     refine oy rfl rfl (y_assign rfl) ?_
     refine ops_nil ?_
     obtain rfl := some_eq h
     exact goes_iter hgo15 (IntKind.i64.wrap (i_13 + 1)) () [0, 1] rfl (vcons rfl (vcons rfl (vnil))) (by decide) rfl
   ·replace h := cond_f h hc18
    refine run_exit _ rfl ?_
    obtain rfl := some_eq h
    obtain rfl := hstop16 _ rfl
    exact goes_cut hL11 ((), ()) [] vnil (by decide) rfl rfl
  rintro ⟨_, _⟩ hj
  obtain rfl : o9 = _ := hj
  replace h := after_go ho10
  clear ho10
  change Run _ _ _ (VF.of []) []
  refine run_seq ?_
  refine run_region' ?_
  refine oy rfl rfl (y_assign rfl) ?_
  refine ops_nil ?_
  refine goes_code ?_
  refine run_ret ?_
  obtain rfl := some_eq h
  refine fin_slots [2] [.bool true] [] [] Try.results18 rfl (by decide) rfl ?_
  exact ⟨rfl, rfl⟩

def ref09_node (n_0 : S_api_Net) (v_1 : Int) : Option (Bool) :=
 some (decide (0 ≤ v_1) && decide (v_1 < n_0.Nodes))
theorem ref09_node_ok (n_0 : S_api_Net) (v_1 : Int) (n_0_Arcsv : Value) {r : Bool} (h : ref09_node n_0 v_1 = some r) :
  Meets Try.prog 43 [.agg #[.int .i64 n_0.Nodes, n_0_Arcsv], .int .i64 v_1] [ro n_0_Arcsv 4 (n_0.Arcs.map S_api_Arc.enc)] (fun v G => v = .bool r ∧ G = []) := by
 refine fn_of_run Try.func43 rfl Try.ntmps43 rfl (fun w0 o0 => ?_)
 refine run_seq ?_
 refine run_region' ?_
 refine ot rfl rfl (t_box rfl) ?_
 rintro _ _ ⟨b1, rfl, rfl⟩
 refine oy rfl rfl (y_assign rfl) ?_
 refine ops_nil ?_
 refine goes_code ?_
 refine run_seq ?_
 refine run_region' ?_
 refine oy rfl rfl (y_move rfl) ?_
 refine oy rfl rfl (y_geq rfl rfl) ?_
 refine oy rfl rfl (y_move rfl) ?_
 refine ops_cut 5 (Bool) (fun σ => [(12, .bool σ)]) (fun σ => []) (fun σ => σ = (decide (0 ≤ v_1) && decide (v_1 < n_0.Nodes))) (fun L2 hL3 => ?_) ?_
 ·refine ops_split 7 (decide (0 ≤ v_1)) rfl (fun hg4 => ?_) (fun hg4 => ?_)
  ·skip
   refine ops_y (wg 2 true 7 rfl rfl rfl rfl) rfl (y_move rfl) ?_
   refine ops_y (wg 2 true 7 rfl rfl rfl rfl) rfl (y_fieldAddr_box (sz := 0) Try.runUnderlying24 rfl Try.sizeOf3 rfl) ?_
   refine ops_y (wg 2 true 7 rfl rfl rfl rfl) rfl (y_load_box 1 Try.isAgg3 rfl rfl rfl) ?_
   refine ops_y (wg 2 true 7 rfl rfl rfl rfl) rfl (y_lss rfl rfl) ?_
   refine oy rfl rfl (y_pick (b := true) rfl rfl) ?_
   refine ops_nil ?_
   exact goes_cut hL3 (decide (v_1 < n_0.Nodes)) [] (vcons rfl (vnil)) (by decide) rfl (by rw [hg4]; simp)
  ·skip
   refine ops_no 2 true 7 rfl rfl rfl rfl rfl ?_
   refine ops_no 2 true 7 rfl rfl rfl rfl rfl ?_
   refine ops_no 2 true 7 rfl rfl rfl rfl rfl ?_
   refine ops_no 2 true 7 rfl rfl rfl rfl rfl ?_
   refine oy rfl rfl (y_pick (b := false) rfl rfl) ?_
   refine ops_nil ?_
   exact goes_cut hL3 false [] (vcons rfl (vnil)) (by decide) rfl (by rw [hg4]; simp)
 rintro _ rfl
 refine oy rfl rfl (y_assign rfl) ?_
 refine ops_nil ?_
 refine goes_code ?_
 refine run_ret ?_
 obtain rfl := some_eq h
 refine fin_slots [4] [.bool (decide (0 ≤ v_1) && decide (v_1 < n_0.Nodes))] [] [] Try.results43 rfl (by decide) rfl ?_
 exact ⟨rfl, rfl⟩

def ref09_reach_L2 (n_0 : S_api_Net) : (Bool × Int × (List Bool)) → Option (Lp (Bool × Int × (List Bool)) (Lp (Bool × (List Bool)) (Lp (Int × (List Bool)) (Lp ((List Bool)) ((List Bool)))))) :=
 fun (changed_23, i_24, x_25) =>
  cond (decide (i_24 < (n_0.Arcs.length : Int)))
   (bindJ (S := Bool × (List Bool))
    (idx n_0.Arcs i_24 fun x37 =>
    idx x_25 x37.From fun x38 =>
    bindJ (S := Bool)
     (cond x38
      (idx x_25 x37.To fun x45 =>
      some (.go (!x45)))
      (some (.go false)))
    (fun b39 =>
     cond b39
      (idx x_25 x37.To fun x47 =>
      some (.go (true, (x_25.set ((x37.To).toNat) true))))
      (some (.go (changed_23, x_25)))))
   (fun (changed_31, x_32) =>
    some (.go (changed_31, (IntKind.i64.wrap (i_24 + 1)), x_32))))
   (some (.stop (.go (changed_23, x_25))))
def ref09_reach_L1 (n : Nat) (n_0 : S_api_Net) : (Int × (List Bool)) → Option (Lp (Int × (List Bool)) (Lp ((List Bool)) ((List Bool)))) :=
 fun (k_10, x_11) =>
  cond (decide (k_10 < n_0.Nodes))
   (bindJ (S := Bool × (List Bool))
    (iter (ref09_reach_L2 n_0) n (false, 0, x_11))
   (fun (changed_17, x_18) =>
    cond (!changed_17)
     (some (.stop (.stop x_18)))
     (some (.go ((IntKind.i64.wrap (k_10 + 1)), x_18)))))
   (some (.stop (.go x_11)))
def ref09_reach (n : Nat) (n_0 : S_api_Net) (from_1 : Int) : Option ((List Bool)) :=
 need (0 ≤ n_0.Nodes ∧ n_0.Nodes ≤ 4294967296) (
 idx (List.replicate (n_0.Nodes).toNat (false : Bool)) from_1 fun x4 =>
 bindJ (S := (List Bool))
  (iter (ref09_reach_L1 n n_0) n (0, ((List.replicate (n_0.Nodes).toNat (false : Bool)).set from_1.toNat true)))
 (fun x_5 =>
  some x_5))
theorem ref09_reach_ok (n : Nat) (n_0 : S_api_Net) (from_1 : Int) (n_0_Arcsv : Value) {r : (List Bool)} (h : ref09_reach n n_0 from_1 = some r) :
  Meets Try.prog 44 [.agg #[.int .i64 n_0.Nodes, n_0_Arcsv], .int .i64 from_1] [ro n_0_Arcsv 4 (n_0.Arcs.map S_api_Arc.enc)] (fun v G => ∃ v0, v = v0 ∧ G = [row v0 1 (r.map eBool)]) := by
 refine fn_of_run Try.func44 rfl Try.ntmps44 rfl (fun w0 o0 => ?_)
 refine run_seq ?_
 refine run_region' ?_
 refine ot rfl rfl (t_box rfl) ?_
 rintro _ _ ⟨b1, rfl, rfl⟩
 refine oy rfl rfl (y_assign rfl) ?_
 refine ops_nil ?_
 refine goes_code ?_
 refine run_seq ?_
 refine run_region' ?_
 refine oy rfl rfl (y_fieldAddr_box (sz := 0) Try.runUnderlying24 rfl Try.sizeOf3 rfl) ?_
 refine oy rfl rfl (y_load_box 1 Try.isAgg3 rfl rfl rfl) ?_
 obtain ⟨hm3, h⟩ := need_some h
 refine ot rfl rfl (t_makeSlice (es := 1) Try.runUnderlying27 Try.typeInfo4 rfl Try.zeroValue4 rfl (by decide) rfl rfl hm3.1 hm3.2 (by decide)) ?_
 rintro v2 _ rfl
 refine ops_turn (retell 2 (g := row v2 1 ((List.replicate (n_0.Nodes).toNat (false : Bool)).map eBool)) rfl (congrArg (row _ _) (map_rep rfl))) ?_
 refine oy rfl rfl (y_assign rfl) ?_
 refine ops_nil ?_
 refine goes_code ?_
 refine run_seq ?_
 refine run_region' ?_
 refine oy rfl rfl (y_move rfl) ?_
 refine oy rfl rfl (y_move rfl) ?_
 obtain ⟨x4, hzx4, hlx4, hxx4, h⟩ := idx_some h
 refine oy rfl rfl (y_indexAddrI (kd := .i64) (i := from_1) 2 Try.runUnderlying27 Try.sizeOf4 rfl rfl rfl reads_row hzx4 (map_lt hlx4)) ?_
 refine ot rfl rfl (t_store_row (i := from_1.toNat) (j := 0) (c := eBool x4) 2 Try.sizeOf4 rfl rfl rfl rfl (map_get hxx4) (by decide) (by simp [Value.cells, Value.oneCell', boxP])) ?_
 rintro _ _ ⟨rfl, rfl⟩
 refine ops_turn (retell 2 (g := row v2 1 (((List.replicate (n_0.Nodes).toNat (false : Bool)).set from_1.toNat true).map eBool)) rfl (congrArg (row _ _) (map_set_at rfl))) ?_
 refine ops_nil ?_
 refine goes_code ?_
 obtain ⟨o6, h, ho7⟩ := bindJ_some h
 refine run_cut (((List Bool)) × (Unit)) (fun σ => [(5, v2)]) (fun σ => [row v2 1 (σ.1.map eBool)]) (fun σ => o6 = .go σ.1) (fun L9 hL8 => ?_) ?_
 ·
  refine run_seq ?_
  refine run_weak [(2, boxP b1 0), (5, v2)] [0, 1, 2] [ro n_0_Arcsv 4 (n_0.Arcs.map S_api_Arc.enc), box b1 [.int .i64 n_0.Nodes, n_0_Arcsv], row v2 1 (((List.replicate (n_0.Nodes).toNat (false : Bool)).set from_1.toNat true).map eBool)] (vcons rfl (vcons rfl (vnil))) (by decide) rfl ?_
  refine run_region' ?_
  refine oy rfl rfl (y_assign rfl) ?_
  refine ops_nil ?_
  refine goes_code ?_
  refine run_block ?_
  refine run_iter (step := ref09_reach_L1 n n_0) (n := n) (s0 := (0, ((List.replicate (n_0.Nodes).toNat (false : Bool)).set from_1.toNat true))) h (G := Unit) () (fun σ γ => [(2, boxP b1 0), (5, v2), (6, .int .i64 σ.1)]) (fun σ γ => [box b1 [.int .i64 n_0.Nodes, n_0_Arcsv], ro n_0_Arcsv 4 (n_0.Arcs.map S_api_Arc.enc), row v2 1 (σ.2.map eBool)]) [1, 0, 2] (vcons rfl (vcons rfl (vcons rfl (vnil)))) (by decide) rfl ?_
  rintro ⟨k_10, x_11⟩ _ o12 h L15 hgo13 hstop14
  change Run _ _ _ (VF.of [(2, boxP b1 0), (5, v2), (6, .int .i64 k_10)]) [box b1 [.int .i64 n_0.Nodes, n_0_Arcsv], ro n_0_Arcsv 4 (n_0.Arcs.map S_api_Arc.enc), row v2 1 (x_11.map eBool)]
  refine run_seq ?_
  refine run_seq ?_
  refine run_region' ?_
  refine oy rfl rfl (y_move rfl) ?_
  refine oy rfl rfl (y_fieldAddr_box (sz := 0) Try.runUnderlying24 rfl Try.sizeOf3 rfl) ?_
  refine oy rfl rfl (y_load_box 0 Try.isAgg3 rfl rfl rfl) ?_
  refine oy rfl rfl (y_lss rfl rfl) ?_
  refine ops_nil ?_
  refine goes_code ?_
  refine run_cond (decide (k_10 < n_0.Nodes)) rfl (fun hc16 => ?_) (fun hc16 => ?_)
  ·replace h := cond_t h hc16
   refine run_skip ?_
   refine goes_code ?_
   refine run_seq ?_
   refine run_block ?_
   refine run_seq ?_
   refine run_region' ?_
   refine oy rfl rfl (y_assign rfl) ?_
   refine ops_nil ?_
   refine goes_code ?_
   obtain ⟨o19, h, ho20⟩ := bindJ_some h
   refine run_cut ((Bool × (List Bool)) × (Unit)) (fun σ => [(2, boxP b1 0), (5, v2), (6, .int .i64 k_10), (7, .bool σ.1.1)]) (fun σ => [box b1 [.int .i64 n_0.Nodes, n_0_Arcsv], ro n_0_Arcsv 4 (n_0.Arcs.map S_api_Arc.enc), row v2 1 (σ.1.2.map eBool)]) (fun σ => o19 = .go σ.1) (fun L22 hL21 => ?_) ?_
   ·
    refine run_seq ?_
    refine run_region' ?_
    refine oy rfl rfl (y_assign rfl) ?_
    refine ops_nil ?_
    refine goes_code ?_
    refine run_block ?_
    refine run_iter (step := ref09_reach_L2 n_0) (n := n) (s0 := (false, 0, x_11)) h (G := Unit) () (fun σ γ => [(2, boxP b1 0), (5, v2), (6, .int .i64 k_10), (7, .bool σ.1), (8, .int .i64 σ.2.1)]) (fun σ γ => [box b1 [.int .i64 n_0.Nodes, n_0_Arcsv], ro n_0_Arcsv 4 (n_0.Arcs.map S_api_Arc.enc), row v2 1 (σ.2.2.map eBool)]) [0, 1, 2] (vcons rfl (vcons rfl (vcons rfl (vcons rfl (vcons rfl (vnil)))))) (by decide) rfl ?_
    rintro ⟨changed_23, i_24, x_25⟩ _ o26 h L29 hgo27 hstop28
    change Run _ _ _ (VF.of [(2, boxP b1 0), (5, v2), (6, .int .i64 k_10), (7, .bool changed_23), (8, .int .i64 i_24)]) [box b1 [.int .i64 n_0.Nodes, n_0_Arcsv], ro n_0_Arcsv 4 (n_0.Arcs.map S_api_Arc.enc), row v2 1 (x_25.map eBool)]
    refine run_seq ?_
    refine run_seq ?_
    refine run_region' ?_
    refine oy rfl rfl (y_move rfl) ?_
    refine oy rfl rfl (y_fieldAddr_box (sz := 0) Try.runUnderlying24 rfl Try.sizeOf22 rfl) ?_
    refine oy rfl rfl (y_load_box 0 Try.isAgg22 rfl rfl rfl) ?_
    refine oy rfl rfl ((y_len 1 rfl Try.runUnderlying22 rfl rfl reads_ro).to (v_len S_api_Arc.enc _)) ?_
    refine oy rfl rfl (y_lss rfl rfl) ?_
    refine ops_nil ?_
    refine goes_code ?_
    refine run_cond (decide (i_24 < (n_0.Arcs.length : Int))) rfl (fun hc30 => ?_) (fun hc30 => ?_)
    ·replace h := cond_t h hc30
     refine run_skip ?_
     refine goes_code ?_
     obtain ⟨o33, h, ho34⟩ := bindJ_some h
     refine run_cut ((Bool × (List Bool)) × (Unit)) (fun σ => [(2, boxP b1 0), (5, v2), (6, .int .i64 k_10), (7, .bool σ.1.1), (8, .int .i64 i_24)]) (fun σ => [box b1 [.int .i64 n_0.Nodes, n_0_Arcsv], ro n_0_Arcsv 4 (n_0.Arcs.map S_api_Arc.enc), row v2 1 (σ.1.2.map eBool)]) (fun σ => o33 = .go σ.1) (fun L36 hL35 => ?_) ?_
     ·
      refine run_block ?_
      refine run_seq ?_
      refine run_region' ?_
      refine oy rfl rfl (y_move rfl) ?_
      refine oy rfl rfl (y_fieldAddr_box (sz := 0) Try.runUnderlying24 rfl Try.sizeOf22 rfl) ?_
      refine oy rfl rfl (y_load_box 0 Try.isAgg22 rfl rfl rfl) ?_
      refine oy rfl rfl (y_move rfl) ?_
      obtain ⟨x37, hzx37, hlx37, hxx37, h⟩ := idx_some h
      refine oy rfl rfl (y_indexAddrI (kd := .i64) (i := i_24) 1 Try.runUnderlying22 Try.sizeOf67 rfl rfl rfl reads_ro hzx37 (map_lt hlx37)) ?_
      refine oy rfl rfl (y_fieldAddr_elem (sz := 0) Try.runUnderlying67 rfl Try.sizeOf3 rfl) ?_
      refine oy rfl rfl (y_load_field (i := i_24.toNat) (j := 0) 1 Try.isAgg3 rfl rfl reads_ro (map_get hxx37) rfl) ?_
      obtain ⟨x38, hzx38, hlx38, hxx38, h⟩ := idx_some h
      refine oy rfl rfl (y_indexAddrI (kd := .i64) (i := x37.From) 2 Try.runUnderlying27 Try.sizeOf4 rfl rfl rfl reads_row hzx38 (map_lt hlx38)) ?_
      refine oy rfl rfl (y_load_elem (i := (x37.From).toNat) 2 Try.isAgg4 rfl rfl reads_row (map_get hxx38)) ?_
      refine oy rfl rfl (y_move rfl) ?_
      obtain ⟨o40, h, ho41⟩ := bindJ_some h
      refine ops_cut 11 (Bool) (fun σ => [(2, boxP b1 0), (5, v2), (6, .int .i64 k_10), (7, .bool changed_23), (8, .int .i64 i_24), (48, .bool σ)]) (fun σ => [box b1 [.int .i64 n_0.Nodes, n_0_Arcsv], ro n_0_Arcsv 4 (n_0.Arcs.map S_api_Arc.enc), row v2 1 (x_25.map eBool)]) (fun σ => o40 = .go σ) (fun L42 hL43 => ?_) ?_
      ·refine ops_split 37 x38 rfl (fun hg44 => ?_) (fun hg44 => ?_)
       ·replace h := cond_t h hg44
        refine ops_weak [(2, boxP b1 0), (5, v2), (6, .int .i64 k_10), (7, .bool changed_23), (8, .int .i64 i_24), (37, .bool true)] [0, 1, 2] [box b1 [.int .i64 n_0.Nodes, n_0_Arcsv], ro n_0_Arcsv 4 (n_0.Arcs.map S_api_Arc.enc), row v2 1 (x_25.map eBool)] (vcons rfl (vcons rfl (vcons rfl (vcons rfl (vcons rfl (vcons rfl (vnil))))))) (by decide) rfl ?_
        refine ops_y (wg 9 true 37 rfl rfl rfl rfl) rfl (y_move rfl) ?_
        refine ops_y (wg 9 true 37 rfl rfl rfl rfl) rfl (y_fieldAddr_box (sz := 0) Try.runUnderlying24 rfl Try.sizeOf22 rfl) ?_
        refine ops_y (wg 9 true 37 rfl rfl rfl rfl) rfl (y_load_box 0 Try.isAgg22 rfl rfl rfl) ?_
        refine ops_y (wg 9 true 37 rfl rfl rfl rfl) rfl (y_move rfl) ?_
        refine ops_y (wg 9 true 37 rfl rfl rfl rfl) rfl (y_indexAddrI (kd := .i64) (i := i_24) 1 Try.runUnderlying22 Try.sizeOf67 rfl rfl rfl reads_ro hzx37 (map_lt hlx37)) ?_
        refine ops_y (wg 9 true 37 rfl rfl rfl rfl) rfl (y_fieldAddr_elem (sz := 0) Try.runUnderlying67 rfl Try.sizeOf3 rfl) ?_
        refine ops_y (wg 9 true 37 rfl rfl rfl rfl) rfl (y_load_field (i := i_24.toNat) (j := 1) 1 Try.isAgg3 rfl rfl reads_ro (map_get hxx37) rfl) ?_
        obtain ⟨x45, hzx45, hlx45, hxx45, h⟩ := idx_some h
        refine ops_y (wg 9 true 37 rfl rfl rfl rfl) rfl (y_indexAddrI (kd := .i64) (i := x37.To) 2 Try.runUnderlying27 Try.sizeOf4 rfl rfl rfl reads_row hzx45 (map_lt hlx45)) ?_
        refine ops_y (wg 9 true 37 rfl rfl rfl rfl) rfl (y_load_elem (i := (x37.To).toNat) 2 Try.isAgg4 rfl rfl reads_row (map_get hxx45)) ?_
        refine ops_y (wg 9 true 37 rfl rfl rfl rfl) rfl (y_not rfl) ?_
        refine oy rfl rfl (y_pick (b := true) rfl rfl) ?_
        refine ops_nil ?_
        obtain rfl := some_eq h
        exact goes_cut hL43 (!x45) [0, 1, 2] (vcons rfl (vcons rfl (vcons rfl (vcons rfl (vcons rfl (vcons rfl (vnil))))))) (by decide) rfl rfl
       ·replace h := cond_f h hg44
        refine ops_weak [(2, boxP b1 0), (5, v2), (6, .int .i64 k_10), (7, .bool changed_23), (8, .int .i64 i_24), (37, .bool false)] [0, 1, 2] [box b1 [.int .i64 n_0.Nodes, n_0_Arcsv], ro n_0_Arcsv 4 (n_0.Arcs.map S_api_Arc.enc), row v2 1 (x_25.map eBool)] (vcons rfl (vcons rfl (vcons rfl (vcons rfl (vcons rfl (vcons rfl (vnil))))))) (by decide) rfl ?_
        refine ops_no 9 true 37 rfl rfl rfl rfl rfl ?_
        refine ops_no 9 true 37 rfl rfl rfl rfl rfl ?_
        refine ops_no 9 true 37 rfl rfl rfl rfl rfl ?_
        refine ops_no 9 true 37 rfl rfl rfl rfl rfl ?_
        refine ops_no 9 true 37 rfl rfl rfl rfl rfl ?_
        refine ops_no 9 true 37 rfl rfl rfl rfl rfl ?_
        refine ops_no 9 true 37 rfl rfl rfl rfl rfl ?_
        refine ops_no 9 true 37 rfl rfl rfl rfl rfl ?_
        refine ops_no 9 true 37 rfl rfl rfl rfl rfl ?_
        refine ops_no 9 true 37 rfl rfl rfl rfl rfl ?_
        refine oy rfl rfl (y_pick (b := false) rfl rfl) ?_
        refine ops_nil ?_
        obtain rfl := some_eq h
        exact goes_cut hL43 false [0, 1, 2] (vcons rfl (vcons rfl (vcons rfl (vcons rfl (vcons rfl (vcons rfl (vnil))))))) (by decide) rfl rfl
      rintro b39 hj
      obtain rfl : o40 = _ := hj
      replace h := after_go ho41
      clear ho41
      refine ops_nil ?_
      refine goes_code ?_
      refine run_cond b39 rfl (fun hc46 => ?_) (fun hc46 => ?_)
      ·replace h := cond_t h hc46
       refine run_seq ?_
       refine run_region' ?_
       refine oy rfl rfl (y_move rfl) ?_
       refine oy rfl rfl (y_fieldAddr_box (sz := 0) Try.runUnderlying24 rfl Try.sizeOf22 rfl) ?_
       refine oy rfl rfl (y_load_box 0 Try.isAgg22 rfl rfl rfl) ?_
       refine oy rfl rfl (y_move rfl) ?_
       refine oy rfl rfl (y_indexAddrI (kd := .i64) (i := i_24) 1 Try.runUnderlying22 Try.sizeOf67 rfl rfl rfl reads_ro hzx37 (map_lt hlx37)) ?_
       refine oy rfl rfl (y_fieldAddr_elem (sz := 0) Try.runUnderlying67 rfl Try.sizeOf3 rfl) ?_
       refine oy rfl rfl (y_load_field (i := i_24.toNat) (j := 1) 1 Try.isAgg3 rfl rfl reads_ro (map_get hxx37) rfl) ?_
       obtain ⟨x47, hzx47, hlx47, hxx47, h⟩ := idx_some h
       refine oy rfl rfl (y_indexAddrI (kd := .i64) (i := x37.To) 2 Try.runUnderlying27 Try.sizeOf4 rfl rfl rfl reads_row hzx47 (map_lt hlx47)) ?_
       refine ot rfl rfl (t_store_row (i := (x37.To).toNat) (j := 0) (c := eBool x47) 2 Try.sizeOf4 rfl rfl rfl rfl (map_get hxx47) (by decide) (by simp [Value.cells, Value.oneCell', boxP])) ?_
       rintro _ _ ⟨rfl, rfl⟩
       refine ops_turn (retell 2 (g := row v2 1 ((x_25.set ((x37.To).toNat) true).map eBool)) rfl (congrArg (row _ _) (map_set_at rfl))) ?_
       refine ops_nil ?_
       refine goes_code ?_
       refine run_weak [(2, boxP b1 0), (5, v2), (6, .int .i64 k_10), (8, .int .i64 i_24)] [0, 1, 2] [box b1 [.int .i64 n_0.Nodes, n_0_Arcsv], ro n_0_Arcsv 4 (n_0.Arcs.map S_api_Arc.enc), row v2 1 ((x_25.set ((x37.To).toNat) true).map eBool)] (vcons rfl (vcons rfl (vcons rfl (vcons rfl (vnil))))) (by decide) rfl ?_
       refine run_region' ?_
       refine oy rfl rfl (y_assign rfl) ?_
       refine ops_nil ?_
       refine goes_blk ?_
       obtain rfl := some_eq h
       exact goes_cut hL35 ((true, (x_25.set ((x37.To).toNat) true)), ()) [0, 1, 2] (vcons rfl (vcons rfl (vcons rfl (vcons rfl (vcons rfl (vnil)))))) (by decide) rfl rfl
      ·replace h := cond_f h hc46
       refine run_skip ?_
       refine goes_blk ?_
       obtain rfl := some_eq h
       exact goes_cut hL35 ((changed_23, x_25), ()) [0, 1, 2] (vcons rfl (vcons rfl (vcons rfl (vcons rfl (vcons rfl (vnil)))))) (by decide) rfl rfl
     rintro ⟨⟨changed_31, x_32⟩, _⟩ hj
     obtain rfl : o33 = _ := hj
     replace h := after_go ho34
     clear ho34
     change Run _ _ _ (VF.of [(2, boxP b1 0), (5, v2), (6, .int .i64 k_10), (7, .bool changed_31), (8, .int .i64 i_24)]) [box b1 [.int .i64 n_0.Nodes, n_0_Arcsv], ro n_0_Arcsv 4 (n_0.Arcs.map S_api_Arc.enc), row v2 1 (x_32.map eBool)]
     refine run_region' ?_
     refine oy rfl rfl (y_move rfl) ?_
     refine oy rfl rfl (y_add rfl rfl) ?_
     refine oy rfl rfl (y_assign rfl) ?_
     refine ops_nil ?_
     obtain rfl := some_eq h
     exact goes_iter hgo27 (changed_31, (IntKind.i64.wrap (i_24 + 1)), x_32) () [0, 1, 2] rfl (vcons rfl (vcons rfl (vcons rfl (vcons rfl (vcons rfl (vnil)))))) (by decide) rfl
    ·replace h := cond_f h hc30
     refine run_exit _ rfl ?_
     obtain rfl := some_eq h
     obtain rfl := hstop28 _ rfl
     exact goes_cut hL21 ((changed_23, x_25), ()) [0, 1, 2] (vcons rfl (vcons rfl (vcons rfl (vcons rfl (vnil))))) (by decide) rfl rfl
   rintro ⟨⟨changed_17, x_18⟩, _⟩ hj
   obtain rfl : o19 = _ := hj
   replace h := after_go ho20
   clear ho20
   change Run _ _ _ (VF.of [(2, boxP b1 0), (5, v2), (6, .int .i64 k_10), (7, .bool changed_17)]) [box b1 [.int .i64 n_0.Nodes, n_0_Arcsv], ro n_0_Arcsv 4 (n_0.Arcs.map S_api_Arc.enc), row v2 1 (x_18.map eBool)]
   refine run_seq ?_
   refine run_region' ?_
   refine oy rfl rfl (y_move rfl) ?_
   refine oy rfl rfl (y_not rfl) ?_
   refine ops_nil ?_
   refine goes_code ?_
   refine run_cond (!changed_17) rfl (fun hc48 => ?_) (fun hc48 => ?_)
   ·replace h := cond_t h hc48
    refine run_seq ?_
    refine run_region' ?_
    refine oy rfl rfl (y_move rfl) ?_
    refine oy rfl rfl (y_assign rfl) ?_
    refine ops_nil ?_
    refine goes_code ?_
    refine run_ret ?_
    obtain rfl := some_eq h
    obtain rfl := hstop14 _ rfl
    skip
    obtain rfl := after_stop ho7
    refine fin_slots [4] [v2] [2] [row v2 1 (x_18.map eBool)] Try.results44 rfl (by decide) rfl ?_
    exact ⟨_, rfl, rfl⟩
   ·replace h := cond_f h hc48
    refine run_skip ?_
    refine goes_blk ?_
    refine goes_code ?_
    refine run_region' ?_
    refine oy rfl rfl (y_move rfl) ?_
    refine oy rfl rfl (y_add rfl rfl) ?_
    refine oy rfl rfl (y_assign rfl) ?_
    refine ops_nil ?_
    obtain rfl := some_eq h
    exact goes_iter hgo13 ((IntKind.i64.wrap (k_10 + 1)), x_18) () [0, 1, 2] rfl (vcons rfl (vcons rfl (vcons rfl (vnil)))) (by decide) rfl
  ·replace h := cond_f h hc16
   refine run_exit _ rfl ?_
   obtain rfl := some_eq h
   obtain rfl := hstop14 _ rfl
   exact goes_cut hL8 (x_11, ()) [2] (vcons rfl (vnil)) (by decide) rfl rfl
 rintro ⟨x_5, _⟩ hj
 obtain rfl : o6 = _ := hj
 replace h := after_go ho7
 clear ho7
 change Run _ _ _ (VF.of [(5, v2)]) [row v2 1 (x_5.map eBool)]
 refine run_seq ?_
 refine run_region' ?_
 refine oy rfl rfl (y_move rfl) ?_
 refine oy rfl rfl (y_assign rfl) ?_
 refine ops_nil ?_
 refine goes_code ?_
 refine run_ret ?_
 obtain rfl := some_eq h
 refine fin_slots [4] [v2] [0] [row v2 1 (x_5.map eBool)] Try.results44 rfl (by decide) rfl ?_
 exact ⟨_, rfl, rfl⟩

def ref09_Reach (n : Nat) (n_0 : S_api_Net) (from_1 : Int) : Option (S_ref09_Flags) :=
 obind (ref09_Valid n n_0) fun r3 =>
 bindJ (S := Bool)
  (cond (!r3)
   (some (.go true))
   (obind (ref09_node n_0 from_1) fun r11 =>
   some (.go (!r11))))
 (fun b5 =>
  cond b5
   (some (S_ref09_Flags.mk ([] : List Bool) 1))
   (obind (ref09_reach n n_0 from_1) fun r14 =>
   some (S_ref09_Flags.mk r14 0)))
theorem ref09_Reach_ok (n : Nat) (n_0 : S_api_Net) (from_1 : Int) (n_0_Arcsv : Value) {r : S_ref09_Flags} (h : ref09_Reach n n_0 from_1 = some r) :
  Meets Try.prog 14 [.agg #[.int .i64 n_0.Nodes, n_0_Arcsv], .int .i64 from_1] [ro n_0_Arcsv 4 (n_0.Arcs.map S_api_Arc.enc)] (fun v G => ∃ v0, v = .agg #[v0, .int .i64 r.E] ∧ G = [row v0 1 (r.L.map eBool)]) := by
 refine fn_of_run Try.func14 rfl Try.ntmps14 rfl (fun w0 o0 => ?_)
 refine run_seq ?_
 refine run_region' ?_
 refine ot rfl rfl (t_box rfl) ?_
 rintro _ _ ⟨b1, rfl, rfl⟩
 refine ot rfl rfl (t_alloc Try.zeroValue38) ?_
 rintro _ _ ⟨b2, rfl, rfl⟩
 refine ops_nil ?_
 refine goes_code ?_
 refine run_seq ?_
 refine run_seq ?_
 refine run_region' ?_
 refine oy rfl rfl (y_load_boxagg (c := [.int .i64 n_0.Nodes, n_0_Arcsv]) 1 Try.isAgg24 Try.sizeOf24 rfl rfl rfl) ?_
 obtain ⟨r3, hr4, h⟩ := obind_some h
 refine ot rfl rfl (t_callx (vs := [.agg #[.int .i64 n_0.Nodes, n_0_Arcsv]]) (cs := []) [(0, 0)] rfl Try.call18 rfl (ref09_Valid_ok n n_0 n_0_Arcsv hr4) (showsX_view 0 rfl views_ro showsX_nil) rfl (.inl rfl)) ?_
 rintro _ _ ⟨_, ⟨rfl, rfl⟩, rfl⟩
 refine oy rfl rfl (y_not rfl) ?_
 refine oy rfl rfl (y_move rfl) ?_
 obtain ⟨o6, h, ho7⟩ := bindJ_some h
 refine ops_cut 5 (Bool) (fun σ => [(1, .int .i64 from_1), (2, boxP b1 0), (4, boxP b2 0), (13, .bool σ)]) (fun σ => [ro n_0_Arcsv 4 (n_0.Arcs.map S_api_Arc.enc), box b1 [.int .i64 n_0.Nodes, n_0_Arcsv], box b2 [.slice none 0 0, .int .i64 0]]) (fun σ => o6 = .go σ) (fun L8 hL9 => ?_) ?_
 ·refine ops_split 8 (!r3) rfl (fun hg10 => ?_) (fun hg10 => ?_)
  ·replace h := cond_t h hg10
   refine ops_no 3 false 8 rfl rfl rfl rfl rfl ?_
   refine ops_no 3 false 8 rfl rfl rfl rfl rfl ?_
   refine ops_no 3 false 8 rfl rfl rfl rfl rfl ?_
   refine ops_no 3 false 8 rfl rfl rfl rfl rfl ?_
   refine oy rfl rfl (y_pick (b := true) rfl rfl) ?_
   refine ops_nil ?_
   obtain rfl := some_eq h
   exact goes_cut hL9 true [0, 1, 2] (vcons rfl (vcons rfl (vcons rfl (vcons rfl (vnil))))) (by decide) rfl rfl
  ·replace h := cond_f h hg10
   refine ops_y (wg 3 false 8 rfl rfl rfl rfl) rfl (y_load_boxagg (c := [.int .i64 n_0.Nodes, n_0_Arcsv]) 1 Try.isAgg24 Try.sizeOf24 rfl rfl rfl) ?_
   refine ops_y (wg 3 false 8 rfl rfl rfl rfl) rfl (y_move rfl) ?_
   obtain ⟨r11, hr12, h⟩ := obind_some h
   refine ops_t (wg 3 false 8 rfl rfl rfl rfl) rfl (t_callx (vs := [.agg #[.int .i64 n_0.Nodes, n_0_Arcsv], .int .i64 from_1]) (cs := []) [(0, 0)] rfl Try.call43 rfl (ref09_node_ok n_0 from_1 n_0_Arcsv hr12) (showsX_view 0 rfl views_ro showsX_nil) rfl (.inl rfl)) ?_
   rintro _ _ ⟨_, ⟨rfl, rfl⟩, rfl⟩
   refine ops_y (wg 3 false 8 rfl rfl rfl rfl) rfl (y_not rfl) ?_
   refine oy rfl rfl (y_pick (b := false) rfl rfl) ?_
   refine ops_nil ?_
   obtain rfl := some_eq h
   exact goes_cut hL9 (!r11) [0, 1, 2] (vcons rfl (vcons rfl (vcons rfl (vcons rfl (vnil))))) (by decide) rfl rfl
 rintro b5 hj
 obtain rfl : o6 = _ := hj
 replace h := after_go ho7
 clear ho7
 refine ops_nil ?_
 refine goes_code ?_
 refine run_cond b5 rfl (fun hc13 => ?_) (fun hc13 => ?_)
 ·replace h := cond_t h hc13
  refine run_seq ?_
  refine run_region' ?_
  refine oy rfl rfl (y_build_struct (cells := #[.slice none 0 0, .int .i64 1]) [(1, .int .i64 1)] [(1, [.int .i64 1])] Try.zeroValue38 Try.runUnderlying38 (fs_cons Try.sizeOf27 (fs_cons Try.sizeOf28 fs_nil)) rfl rfl rfl) ?_
  refine ot rfl rfl (t_store 2 Try.sizeOf38 rfl rfl rfl rfl (by simp [Value.cells, boxP]) (by simp [Value.cells, Value.oneCell', boxP])) ?_
  rintro _ _ ⟨rfl, rfl⟩
  refine ops_turn (retell 2 (g := box b2 [.slice none 0 0, .int .i64 1]) rfl rfl) ?_
  refine ops_nil ?_
  refine goes_code ?_
  refine run_ret ?_
  refine fin_turn (nilrow 1) ?_
  refine fin_turn (retell 3 (g := row (.slice none 0 0) 1 (([] : List Bool).map eBool)) rfl rfl) ?_
  obtain rfl := some_eq h
  refine fin_res [.cell 4 38] [.agg #[(.slice none 0 0), .int .i64 1]] [3] [row (.slice none 0 0) 1 (([] : List Bool).map eBool)] Try.results14 rfl (rescons (res_box 2 Try.isAgg38 Try.sizeOf38 rfl rfl rfl) resnil) (by decide) rfl ?_
  exact ⟨_, rfl, rfl⟩
 ·replace h := cond_f h hc13
  refine run_skip ?_
  refine goes_code ?_
  refine run_seq ?_
  refine run_region' ?_
  refine oy rfl rfl (y_load_boxagg (c := [.int .i64 n_0.Nodes, n_0_Arcsv]) 1 Try.isAgg24 Try.sizeOf24 rfl rfl rfl) ?_
  refine oy rfl rfl (y_move rfl) ?_
  obtain ⟨r14, hr15, h⟩ := obind_some h
  refine ot rfl rfl (t_callx (vs := [.agg #[.int .i64 n_0.Nodes, n_0_Arcsv], .int .i64 from_1]) (cs := []) [(0, 0)] rfl Try.call44 rfl (ref09_reach_ok n n_0 from_1 n_0_Arcsv hr15) (showsX_view 0 rfl views_ro showsX_nil) rfl (.inl rfl)) ?_
  rintro v16 _ ⟨_, ⟨_, rfl, rfl⟩, rfl⟩
  refine ops_slc 3 rfl reads_row (fun hs17 hs17o => ?_)
  refine oy rfl rfl (y_build_struct (cells := #[v16, .int .i64 0]) [(0, v16)] [(0, [v16])] Try.zeroValue38 Try.runUnderlying38 (fs_cons Try.sizeOf27 (fs_cons Try.sizeOf28 fs_nil)) rfl (by first | (simp only [List.map_cons, List.map_nil, hs17]; done) | (simp only [List.map_cons, List.map_nil, hs17]; rfl)) rfl) ?_
  refine ops_slc 3 rfl reads_row (fun hs18 hs18o => ?_)
  refine ot rfl rfl (t_store 2 Try.sizeOf38 rfl rfl rfl rfl (by simp [Value.cells, boxP]) (by intro u hu; replace hu : u ∈ ([v16, .int .i64 0] : List Value) := hu; simp only [List.mem_cons, List.not_mem_nil, or_false] at hu; rcases hu with rfl | rfl <;> first | rfl | assumption)) ?_
  rintro _ _ ⟨rfl, rfl⟩
  refine ops_turn (retell 2 (g := box b2 [v16, .int .i64 0]) rfl rfl) ?_
  refine ops_nil ?_
  refine goes_code ?_
  refine run_ret ?_
  obtain rfl := some_eq h
  refine fin_res [.cell 4 38] [.agg #[v16, .int .i64 0]] [3] [row v16 1 (r14.map eBool)] Try.results14 rfl (rescons (res_box 2 Try.isAgg38 Try.sizeOf38 rfl rfl rfl) resnil) (by decide) rfl ?_
  exact ⟨_, rfl, rfl⟩

def ref09_Parts_L1 (n : Nat) (n_0 : S_api_Net) : ((List (List Bool)) × Int) → Option (Lp ((List (List Bool)) × Int) (Lp ((List (List Bool))) (S_ref09_Sets))) :=
 fun (all_12, v_13) =>
  cond (decide (v_13 < n_0.Nodes))
   (obind (ref09_reach n n_0 v_13) fun r20 =>
   need (all_12.length + ([r20] : List (List Bool)).length ≤ 4294967296) (
   some (.go ((all_12 ++ ([r20] : List (List Bool))), (IntKind.i64.wrap (v_13 + 1))))))
   (some (.stop (.go all_12)))
def ref09_Parts_L3 (n_0 : S_api_Net) (all_6 : (List (List Bool))) (v_34 : Int) : ((List Int) × Int) → Option (Lp ((List Int) × Int) (Lp ((List Int)) (Lp ((List (List Int))) (Lp ((List (List Int)) × Int) (Lp ((List (List Int))) (S_ref09_Sets)))))) :=
 fun (set_53, w_54) =>
  cond (decide (w_54 < n_0.Nodes))
   (bindJ (S := (List Int))
    (idx all_6 v_34 fun x67 =>
    idx x67 w_54 fun x69 =>
    bindJ (S := Bool)
     (cond x69
      (idx all_6 w_54 fun x76 =>
      idx x76 v_34 fun x78 =>
      some (.go x78))
      (some (.go false)))
    (fun b70 =>
     cond b70
      (need (set_53.length + ([w_54] : List Int).length ≤ 4294967296) (
      some (.go (set_53 ++ ([w_54] : List Int)))))
      (some (.go set_53))))
   (fun set_61 =>
    some (.go (set_61, (IntKind.i64.wrap (w_54 + 1))))))
   (some (.stop (.go set_53)))
def ref09_Parts_L2 (n : Nat) (n_0 : S_api_Net) (all_6 : (List (List Bool))) : ((List (List Int)) × Int) → Option (Lp ((List (List Int)) × Int) (Lp ((List (List Int))) (S_ref09_Sets))) :=
 fun (out_33, v_34) =>
  cond (decide (v_34 < n_0.Nodes))
   (bindJ (S := (List (List Int)))
    (bindJ (S := (List Int))
     (iter (ref09_Parts_L3 n_0 all_6 v_34) n (([] : List Int), 0))
    (fun set_47 =>
     idx set_47 0 fun x83 =>
     cond (decide (x83 = v_34))
      (need (out_33.length + ([set_47] : List (List Int)).length ≤ 4294967296) (
      some (.go (out_33 ++ ([set_47] : List (List Int))))))
      (some (.go out_33))))
   (fun out_41 =>
    some (.go (out_41, (IntKind.i64.wrap (v_34 + 1))))))
   (some (.stop (.go out_33)))
def ref09_Parts (n : Nat) (n_0 : S_api_Net) : Option (S_ref09_Sets) :=
 obind (ref09_Valid n n_0) fun r3 =>
 cond (!r3)
  (some (S_ref09_Sets.mk ([] : List (List Int)) 1))
  (bindJ (S := (List (List Bool)))
   (iter (ref09_Parts_L1 n n_0) n (([] : List (List Bool)), 0))
  (fun all_6 =>
   bindJ (S := (List (List Int)))
    (iter (ref09_Parts_L2 n n_0 all_6) n (([] : List (List Int)), 0))
   (fun out_27 =>
    some (S_ref09_Sets.mk out_27 0))))
theorem ref09_Parts_ok (n : Nat) (n_0 : S_api_Net) (n_0_Arcsv : Value) {r : S_ref09_Sets} (h : ref09_Parts n n_0 = some r) :
  Meets Try.prog 15 [.agg #[.int .i64 n_0.Nodes, n_0_Arcsv]] [ro n_0_Arcsv 4 (n_0.Arcs.map S_api_Arc.enc)] (fun v G => ∃ v0, v = .agg #[v0, .int .i64 r.E] ∧ G = [nrow v0 NC_L_int_34 r.L]) := by
 refine fn_of_run Try.func15 rfl Try.ntmps15 rfl (fun w0 o0 => ?_)
 refine run_seq ?_
 refine run_region' ?_
 refine ot rfl rfl (t_box rfl) ?_
 rintro _ _ ⟨b1, rfl, rfl⟩
 refine ot rfl rfl (t_alloc Try.zeroValue41) ?_
 rintro _ _ ⟨b2, rfl, rfl⟩
 refine ops_nil ?_
 refine goes_code ?_
 refine run_seq ?_
 refine run_region' ?_
 refine oy rfl rfl (y_load_boxagg (c := [.int .i64 n_0.Nodes, n_0_Arcsv]) 1 Try.isAgg24 Try.sizeOf24 rfl rfl rfl) ?_
 obtain ⟨r3, hr4, h⟩ := obind_some h
 refine ot rfl rfl (t_callx (vs := [.agg #[.int .i64 n_0.Nodes, n_0_Arcsv]]) (cs := []) [(0, 0)] rfl Try.call18 rfl (ref09_Valid_ok n n_0 n_0_Arcsv hr4) (showsX_view 0 rfl views_ro showsX_nil) rfl (.inl rfl)) ?_
 rintro _ _ ⟨_, ⟨rfl, rfl⟩, rfl⟩
 refine oy rfl rfl (y_assign rfl) ?_
 refine ops_nil ?_
 refine goes_code ?_
 refine run_seq ?_
 refine run_seq ?_
 refine run_region' ?_
 refine oy rfl rfl (y_move rfl) ?_
 refine oy rfl rfl (y_not rfl) ?_
 refine ops_nil ?_
 refine goes_code ?_
 refine run_cond (!r3) rfl (fun hc5 => ?_) (fun hc5 => ?_)
 ·replace h := cond_t h hc5
  refine run_seq ?_
  refine run_region' ?_
  refine oy rfl rfl (y_build_struct (cells := #[.slice none 0 0, .int .i64 1]) [(1, .int .i64 1)] [(1, [.int .i64 1])] Try.zeroValue41 Try.runUnderlying41 (fs_cons Try.sizeOf31 (fs_cons Try.sizeOf28 fs_nil)) rfl rfl rfl) ?_
  refine ot rfl rfl (t_store 2 Try.sizeOf41 rfl rfl rfl rfl (by simp [Value.cells, boxP]) (by simp [Value.cells, Value.oneCell', boxP])) ?_
  rintro _ _ ⟨rfl, rfl⟩
  refine ops_turn (retell 2 (g := box b2 [.slice none 0 0, .int .i64 1]) rfl rfl) ?_
  refine ops_nil ?_
  refine goes_code ?_
  refine run_ret ?_
  refine fin_turn (nilrowN NC_L_int_34) ?_
  obtain rfl := some_eq h
  refine fin_res [.cell 2 41] [.agg #[(.slice none 0 0), .int .i64 1]] [3] [nrow (.slice none 0 0) NC_L_int_34 ([] : List (List Int))] Try.results15 rfl (rescons (res_box 2 Try.isAgg41 Try.sizeOf41 rfl rfl rfl) resnil) (by decide) rfl ?_
  exact ⟨_, rfl, rfl⟩
 ·replace h := cond_f h hc5
  refine run_skip ?_
  refine goes_code ?_
  refine run_seq ?_
  refine run_region' ?_
  refine oy rfl rfl (y_assign rfl) ?_
  refine ops_nil ?_
  refine goes_code ?_
  obtain ⟨o8, h, ho9⟩ := bindJ_some h
  refine run_cut (((List (List Bool))) × (Value)) (fun σ => [(1, boxP b1 0), (2, boxP b2 0), (4, σ.2)]) (fun σ => [box b1 [.int .i64 n_0.Nodes, n_0_Arcsv], ro n_0_Arcsv 4 (n_0.Arcs.map S_api_Arc.enc), box b2 [.slice none 0 0, .int .i64 0], nrow σ.2 NC_L_bool_27 σ.1]) (fun σ => o8 = .go σ.1) (fun L11 hL10 => ?_) ?_
  ·
   refine run_seq ?_
   refine run_weak [(1, boxP b1 0), (2, boxP b2 0), (4, .slice none 0 0)] [0, 1, 2] [ro n_0_Arcsv 4 (n_0.Arcs.map S_api_Arc.enc), box b1 [.int .i64 n_0.Nodes, n_0_Arcsv], box b2 [.slice none 0 0, .int .i64 0]] (vcons rfl (vcons rfl (vcons rfl (vnil)))) (by decide) rfl ?_
   refine run_region' ?_
   refine oy rfl rfl (y_assign rfl) ?_
   refine ops_nil ?_
   refine goes_code ?_
   refine run_block ?_
   refine run_turn (nilrowN NC_L_bool_27) ?_
   refine run_iter (step := ref09_Parts_L1 n n_0) (n := n) (s0 := (([] : List (List Bool)), 0)) h (G := Value) (.slice none 0 0) (fun σ γ => [(1, boxP b1 0), (2, boxP b2 0), (4, γ), (5, .int .i64 σ.2)]) (fun σ γ => [box b1 [.int .i64 n_0.Nodes, n_0_Arcsv], ro n_0_Arcsv 4 (n_0.Arcs.map S_api_Arc.enc), box b2 [.slice none 0 0, .int .i64 0], nrow γ NC_L_bool_27 σ.1]) [1, 0, 2, 3] (vcons rfl (vcons rfl (vcons rfl (vcons rfl (vnil))))) (by decide) rfl ?_
   rintro ⟨all_12, v_13⟩ v14 o15 h L18 hgo16 hstop17
   change Run _ _ _ (VF.of [(1, boxP b1 0), (2, boxP b2 0), (4, v14), (5, .int .i64 v_13)]) [box b1 [.int .i64 n_0.Nodes, n_0_Arcsv], ro n_0_Arcsv 4 (n_0.Arcs.map S_api_Arc.enc), box b2 [.slice none 0 0, .int .i64 0], nrow v14 NC_L_bool_27 all_12]
   refine run_seq ?_
   refine run_seq ?_
   refine run_region' ?_
   refine oy rfl rfl (y_move rfl) ?_
   refine oy rfl rfl (y_fieldAddr_box (sz := 0) Try.runUnderlying24 rfl Try.sizeOf3 rfl) ?_
   refine oy rfl rfl (y_load_box 0 Try.isAgg3 rfl rfl rfl) ?_
   refine oy rfl rfl (y_lss rfl rfl) ?_
   refine ops_nil ?_
   refine goes_code ?_
   refine run_cond (decide (v_13 < n_0.Nodes)) rfl (fun hc19 => ?_) (fun hc19 => ?_)
   ·replace h := cond_t h hc19
    refine run_skip ?_
    refine goes_code ?_
    refine run_seq ?_
    refine run_block ?_
    refine run_region' ?_
    refine oy rfl rfl (y_move rfl) ?_
    refine oy rfl rfl (y_load_boxagg (c := [.int .i64 n_0.Nodes, n_0_Arcsv]) 0 Try.isAgg24 Try.sizeOf24 rfl rfl rfl) ?_
    refine oy rfl rfl (y_move rfl) ?_
    obtain ⟨r20, hr21, h⟩ := obind_some h
    refine ot rfl rfl (t_callx (vs := [.agg #[.int .i64 n_0.Nodes, n_0_Arcsv], .int .i64 v_13]) (cs := []) [(1, 0)] rfl Try.call44 rfl (ref09_reach_ok n n_0 v_13 n_0_Arcsv hr21) (showsX_view 1 rfl views_ro showsX_nil) rfl (.inl rfl)) ?_
    rintro v22 _ ⟨_, ⟨_, rfl, rfl⟩, rfl⟩
    refine ops_turn (Go.Abs.freeze 4 rfl) ?_
    refine ops_slc 4 rfl reads_ro (fun hs24 hs24o => ?_)
    refine ot rfl rfl (t_lit [v22] Try.runUnderlying68 Try.sizeOf27 Try.zeroValue27 rfl (by decide) (by decide) rfl (by intro q hq; simp only [List.mem_cons, List.not_mem_nil, or_false] at hq; rcases hq with rfl <;> first | rfl | (rw [hs24]; rfl))) ?_
    rintro v23 _ ⟨rfl, _⟩
    refine ops_turn (turn_closeR (C := NC_L_bool_27) (l := ([r20] : List (List Bool))) 5 [(r20, v22)] rfl (by simp only [List.map_cons, List.map_nil, hs24]; rfl) rfl (hasall_cons (has_cons 4 rfl has_nil) hasall_nil)) ?_
    obtain ⟨hr26, h⟩ := need_some h
    refine ot rfl rfl (t_appendN (C := NC_L_bool_27) 3 5 (by decide) rfl Try.runUnderlying68 rfl Try.runUnderlying68 Try.typeInfo27 rfl (by decide) (by decide) Try.zeroValue27 rfl rfl rfl rfl (srcN_row 5 rfl) hr26) ?_
    rintro v25 _ rfl
    refine oy rfl rfl (y_assign rfl) ?_
    refine ops_nil ?_
    refine goes_blk ?_
    refine goes_code ?_
    refine run_weak [(1, boxP b1 0), (2, boxP b2 0), (4, v25), (5, .int .i64 v_13)] [0, 1, 2, 3] [box b1 [.int .i64 n_0.Nodes, n_0_Arcsv], ro n_0_Arcsv 4 (n_0.Arcs.map S_api_Arc.enc), box b2 [.slice none 0 0, .int .i64 0], nrow v25 NC_L_bool_27 (all_12 ++ ([r20] : List (List Bool)))] (vcons rfl (vcons rfl (vcons rfl (vcons rfl (vnil))))) (by decide) rfl ?_
    refine run_region' ?_
    refine oy rfl rfl (y_move rfl) ?_
    refine oy rfl rfl (y_add rfl rfl) ?_
    refine oy rfl rfl (y_assign rfl) ?_
    refine ops_nil ?_
    obtain rfl := some_eq h
    exact goes_iter hgo16 ((all_12 ++ ([r20] : List (List Bool))), (IntKind.i64.wrap (v_13 + 1))) v25 [0, 1, 2, 3] rfl (vcons rfl (vcons rfl (vcons rfl (vcons rfl (vnil))))) (by decide) rfl
   ·replace h := cond_f h hc19
    refine run_exit _ rfl ?_
    obtain rfl := some_eq h
    obtain rfl := hstop17 _ rfl
    exact goes_cut hL10 (all_12, v14) [0, 1, 2, 3] (vcons rfl (vcons rfl (vcons rfl (vnil)))) (by decide) rfl rfl
  rintro ⟨all_6, v7⟩ hj
  obtain rfl : o8 = _ := hj
  replace h := after_go ho9
  clear ho9
  change Run _ _ _ (VF.of [(1, boxP b1 0), (2, boxP b2 0), (4, v7)]) [box b1 [.int .i64 n_0.Nodes, n_0_Arcsv], ro n_0_Arcsv 4 (n_0.Arcs.map S_api_Arc.enc), box b2 [.slice none 0 0, .int .i64 0], nrow v7 NC_L_bool_27 all_6]
  refine run_seq ?_
  refine run_region' ?_
  refine oy rfl rfl (y_assign rfl) ?_
  refine ops_nil ?_
  refine goes_code ?_
  obtain ⟨o29, h, ho30⟩ := bindJ_some h
  refine run_cut (((List (List Int))) × (Value)) (fun σ => [(2, boxP b2 0), (6, σ.2)]) (fun σ => [box b2 [.slice none 0 0, .int .i64 0], nrow σ.2 NC_L_int_34 σ.1]) (fun σ => o29 = .go σ.1) (fun L32 hL31 => ?_) ?_
  ·
   refine run_seq ?_
   refine run_region' ?_
   refine oy rfl rfl (y_assign rfl) ?_
   refine ops_nil ?_
   refine goes_code ?_
   refine run_block ?_
   refine run_turn (nilrowN NC_L_int_34) ?_
   refine run_iter (step := ref09_Parts_L2 n n_0 all_6) (n := n) (s0 := (([] : List (List Int)), 0)) h (G := Value) (.slice none 0 0) (fun σ γ => [(1, boxP b1 0), (2, boxP b2 0), (4, v7), (6, γ), (7, .int .i64 σ.2)]) (fun σ γ => [box b1 [.int .i64 n_0.Nodes, n_0_Arcsv], ro n_0_Arcsv 4 (n_0.Arcs.map S_api_Arc.enc), box b2 [.slice none 0 0, .int .i64 0], nrow v7 NC_L_bool_27 all_6, nrow γ NC_L_int_34 σ.1]) [0, 1, 2, 3, 4] (vcons rfl (vcons rfl (vcons rfl (vcons rfl (vcons rfl (vnil)))))) (by decide) rfl ?_
   rintro ⟨out_33, v_34⟩ v35 o36 h L39 hgo37 hstop38
   change Run _ _ _ (VF.of [(1, boxP b1 0), (2, boxP b2 0), (4, v7), (6, v35), (7, .int .i64 v_34)]) [box b1 [.int .i64 n_0.Nodes, n_0_Arcsv], ro n_0_Arcsv 4 (n_0.Arcs.map S_api_Arc.enc), box b2 [.slice none 0 0, .int .i64 0], nrow v7 NC_L_bool_27 all_6, nrow v35 NC_L_int_34 out_33]
   refine run_seq ?_
   refine run_seq ?_
   refine run_region' ?_
   refine oy rfl rfl (y_move rfl) ?_
   refine oy rfl rfl (y_fieldAddr_box (sz := 0) Try.runUnderlying24 rfl Try.sizeOf3 rfl) ?_
   refine oy rfl rfl (y_load_box 0 Try.isAgg3 rfl rfl rfl) ?_
   refine oy rfl rfl (y_lss rfl rfl) ?_
   refine ops_nil ?_
   refine goes_code ?_
   refine run_cond (decide (v_34 < n_0.Nodes)) rfl (fun hc40 => ?_) (fun hc40 => ?_)
   ·replace h := cond_t h hc40
    refine run_skip ?_
    refine goes_code ?_
    obtain ⟨o43, h, ho44⟩ := bindJ_some h
    refine run_cut (((List (List Int))) × (Value)) (fun σ => [(1, boxP b1 0), (2, boxP b2 0), (4, v7), (6, σ.2), (7, .int .i64 v_34)]) (fun σ => [box b1 [.int .i64 n_0.Nodes, n_0_Arcsv], ro n_0_Arcsv 4 (n_0.Arcs.map S_api_Arc.enc), box b2 [.slice none 0 0, .int .i64 0], nrow v7 NC_L_bool_27 all_6, nrow σ.2 NC_L_int_34 σ.1]) (fun σ => o43 = .go σ.1) (fun L46 hL45 => ?_) ?_
    ·
     refine run_block ?_
     refine run_seq ?_
     refine run_region' ?_
     refine oy rfl rfl (y_assign rfl) ?_
     refine ops_nil ?_
     refine goes_code ?_
     obtain ⟨o49, h, ho50⟩ := bindJ_some h
     refine run_cut (((List Int)) × (Value)) (fun σ => [(1, boxP b1 0), (2, boxP b2 0), (4, v7), (6, v35), (7, .int .i64 v_34), (8, σ.2)]) (fun σ => [box b1 [.int .i64 n_0.Nodes, n_0_Arcsv], ro n_0_Arcsv 4 (n_0.Arcs.map S_api_Arc.enc), box b2 [.slice none 0 0, .int .i64 0], nrow v7 NC_L_bool_27 all_6, nrow v35 NC_L_int_34 out_33, row σ.2 1 (σ.1.map (eInt .i64))]) (fun σ => o49 = .go σ.1) (fun L52 hL51 => ?_) ?_
     ·
      refine run_seq ?_
      refine run_region' ?_
      refine oy rfl rfl (y_assign rfl) ?_
      refine ops_nil ?_
      refine goes_code ?_
      refine run_block ?_
      refine run_turn (nilrow 1) ?_
      refine run_turn (retell 5 (g := row (.slice none 0 0) 1 (([] : List Int).map (eInt .i64))) rfl rfl) ?_
      refine run_iter (step := ref09_Parts_L3 n_0 all_6 v_34) (n := n) (s0 := (([] : List Int), 0)) h (G := Value) (.slice none 0 0) (fun σ γ => [(1, boxP b1 0), (2, boxP b2 0), (4, v7), (6, v35), (7, .int .i64 v_34), (8, γ), (9, .int .i64 σ.2)]) (fun σ γ => [box b1 [.int .i64 n_0.Nodes, n_0_Arcsv], ro n_0_Arcsv 4 (n_0.Arcs.map S_api_Arc.enc), box b2 [.slice none 0 0, .int .i64 0], nrow v7 NC_L_bool_27 all_6, nrow v35 NC_L_int_34 out_33, row γ 1 (σ.1.map (eInt .i64))]) [0, 1, 2, 3, 4, 5] (vcons rfl (vcons rfl (vcons rfl (vcons rfl (vcons rfl (vcons rfl (vcons rfl (vnil)))))))) (by decide) rfl ?_
      rintro ⟨set_53, w_54⟩ v55 o56 h L59 hgo57 hstop58
      change Run _ _ _ (VF.of [(1, boxP b1 0), (2, boxP b2 0), (4, v7), (6, v35), (7, .int .i64 v_34), (8, v55), (9, .int .i64 w_54)]) [box b1 [.int .i64 n_0.Nodes, n_0_Arcsv], ro n_0_Arcsv 4 (n_0.Arcs.map S_api_Arc.enc), box b2 [.slice none 0 0, .int .i64 0], nrow v7 NC_L_bool_27 all_6, nrow v35 NC_L_int_34 out_33, row v55 1 (set_53.map (eInt .i64))]
      refine run_seq ?_
      refine run_seq ?_
      refine run_region' ?_
      refine oy rfl rfl (y_move rfl) ?_
      refine oy rfl rfl (y_fieldAddr_box (sz := 0) Try.runUnderlying24 rfl Try.sizeOf3 rfl) ?_
      refine oy rfl rfl (y_load_box 0 Try.isAgg3 rfl rfl rfl) ?_
      refine oy rfl rfl (y_lss rfl rfl) ?_
      refine ops_nil ?_
      refine goes_code ?_
      refine run_cond (decide (w_54 < n_0.Nodes)) rfl (fun hc60 => ?_) (fun hc60 => ?_)
      ·replace h := cond_t h hc60
       refine run_skip ?_
       refine goes_code ?_
       obtain ⟨o63, h, ho64⟩ := bindJ_some h
       refine run_cut (((List Int)) × (Value)) (fun σ => [(1, boxP b1 0), (2, boxP b2 0), (4, v7), (6, v35), (7, .int .i64 v_34), (8, σ.2), (9, .int .i64 w_54)]) (fun σ => [box b1 [.int .i64 n_0.Nodes, n_0_Arcsv], ro n_0_Arcsv 4 (n_0.Arcs.map S_api_Arc.enc), box b2 [.slice none 0 0, .int .i64 0], nrow v7 NC_L_bool_27 all_6, nrow v35 NC_L_int_34 out_33, row σ.2 1 (σ.1.map (eInt .i64))]) (fun σ => o63 = .go σ.1) (fun L66 hL65 => ?_) ?_
       ·
        refine run_block ?_
        refine run_seq ?_
        refine run_region' ?_
        refine oy rfl rfl (y_move rfl) ?_
        refine oy rfl rfl (y_move rfl) ?_
        obtain ⟨x67, hzx67, hlx67, hxx67, h⟩ := idx_some h
        refine oy rfl rfl (y_indexAddrN (kd := .i64) (i := v_34) 3 Try.runUnderlying68 Try.sizeOf27 rfl rfl rfl readsN_row hzx67 hlx67) ?_
        refine ot rfl rfl (t_loadNf (C := NC_L_bool_27) (i := v_34.toNat) (j := 0) 3 (fun γ => γ) Try.isAgg27 rfl rfl hxx67 (fun _ => rfl)) ?_
        rintro _ _ ⟨g68, rfl, rfl⟩
        refine oy rfl rfl (y_move rfl) ?_
        obtain ⟨x69, hzx69, hlx69, hxx69, h⟩ := idx_some h
        refine oy rfl rfl (y_indexAddrI (kd := .i64) (i := w_54) 6 Try.runUnderlying27 Try.sizeOf4 rfl rfl rfl reads_ro hzx69 (map_lt hlx69)) ?_
        refine oy rfl rfl (y_load_elem (i := w_54.toNat) 6 Try.isAgg4 rfl rfl reads_ro (map_get hxx69)) ?_
        refine oy rfl rfl (y_move rfl) ?_
        obtain ⟨o71, h, ho72⟩ := bindJ_some h
        refine ops_cut 8 (Bool) (fun σ => [(1, boxP b1 0), (2, boxP b2 0), (4, v7), (6, v35), (7, .int .i64 v_34), (8, v55), (9, .int .i64 w_54), (54, .bool σ)]) (fun σ => [box b1 [.int .i64 n_0.Nodes, n_0_Arcsv], ro n_0_Arcsv 4 (n_0.Arcs.map S_api_Arc.enc), box b2 [.slice none 0 0, .int .i64 0], nrow v7 NC_L_bool_27 all_6, nrow v35 NC_L_int_34 out_33, row v55 1 (set_53.map (eInt .i64))]) (fun σ => o71 = .go σ) (fun L73 hL74 => ?_) ?_
        ·refine ops_split 46 x69 rfl (fun hg75 => ?_) (fun hg75 => ?_)
         ·replace h := cond_t h hg75
          refine ops_y (wg 7 true 46 rfl rfl rfl rfl) rfl (y_move rfl) ?_
          refine ops_y (wg 7 true 46 rfl rfl rfl rfl) rfl (y_move rfl) ?_
          obtain ⟨x76, hzx76, hlx76, hxx76, h⟩ := idx_some h
          refine ops_y (wg 7 true 46 rfl rfl rfl rfl) rfl (y_indexAddrN (kd := .i64) (i := w_54) 3 Try.runUnderlying68 Try.sizeOf27 rfl rfl rfl readsN_row hzx76 hlx76) ?_
          refine ops_weak [(1, boxP b1 0), (2, boxP b2 0), (4, v7), (6, v35), (7, .int .i64 v_34), (8, v55), (9, .int .i64 w_54), (46, .bool true), (49, elemP v7 (w_54.toNat * 1))] [0, 1, 2, 3, 4, 5] [box b1 [.int .i64 n_0.Nodes, n_0_Arcsv], ro n_0_Arcsv 4 (n_0.Arcs.map S_api_Arc.enc), box b2 [.slice none 0 0, .int .i64 0], nrow v7 NC_L_bool_27 all_6, nrow v35 NC_L_int_34 out_33, row v55 1 (set_53.map (eInt .i64))] (vcons rfl (vcons rfl (vcons rfl (vcons rfl (vcons rfl (vcons rfl (vcons rfl (vcons rfl (vcons rfl (vnil)))))))))) (by decide) rfl ?_
          refine ops_t (wg 7 true 46 rfl rfl rfl rfl) rfl (t_loadNf (C := NC_L_bool_27) (i := w_54.toNat) (j := 0) 3 (fun γ => γ) Try.isAgg27 rfl rfl hxx76 (fun _ => rfl)) ?_
          rintro _ _ ⟨g77, rfl, rfl⟩
          refine ops_y (wg 7 true 46 rfl rfl rfl rfl) rfl (y_move rfl) ?_
          obtain ⟨x78, hzx78, hlx78, hxx78, h⟩ := idx_some h
          refine ops_y (wg 7 true 46 rfl rfl rfl rfl) rfl (y_indexAddrI (kd := .i64) (i := v_34) 6 Try.runUnderlying27 Try.sizeOf4 rfl rfl rfl reads_ro hzx78 (map_lt hlx78)) ?_
          refine ops_y (wg 7 true 46 rfl rfl rfl rfl) rfl (y_load_elem (i := v_34.toNat) 6 Try.isAgg4 rfl rfl reads_ro (map_get hxx78)) ?_
          refine oy rfl rfl (y_pick (b := true) rfl rfl) ?_
          refine ops_nil ?_
          obtain rfl := some_eq h
          exact goes_cut hL74 x78 [0, 1, 2, 3, 4, 5] (vcons rfl (vcons rfl (vcons rfl (vcons rfl (vcons rfl (vcons rfl (vcons rfl (vcons rfl (vnil))))))))) (by decide) rfl rfl
         ·replace h := cond_f h hg75
          refine ops_no 7 true 46 rfl rfl rfl rfl rfl ?_
          refine ops_no 7 true 46 rfl rfl rfl rfl rfl ?_
          refine ops_no 7 true 46 rfl rfl rfl rfl rfl ?_
          refine ops_weak [(1, boxP b1 0), (2, boxP b2 0), (4, v7), (6, v35), (7, .int .i64 v_34), (8, v55), (9, .int .i64 w_54), (46, .bool false)] [0, 1, 2, 3, 4, 5] [box b1 [.int .i64 n_0.Nodes, n_0_Arcsv], ro n_0_Arcsv 4 (n_0.Arcs.map S_api_Arc.enc), box b2 [.slice none 0 0, .int .i64 0], nrow v7 NC_L_bool_27 all_6, nrow v35 NC_L_int_34 out_33, row v55 1 (set_53.map (eInt .i64))] (vcons rfl (vcons rfl (vcons rfl (vcons rfl (vcons rfl (vcons rfl (vcons rfl (vcons rfl (vnil))))))))) (by decide) rfl ?_
          refine ops_no 7 true 46 rfl rfl rfl rfl rfl ?_
          refine ops_no 7 true 46 rfl rfl rfl rfl rfl ?_
          refine ops_no 7 true 46 rfl rfl rfl rfl rfl ?_
          refine ops_no 7 true 46 rfl rfl rfl rfl rfl ?_
          refine oy rfl rfl (y_pick (b := false) rfl rfl) ?_
          refine ops_nil ?_
          obtain rfl := some_eq h
          exact goes_cut hL74 false [0, 1, 2, 3, 4, 5] (vcons rfl (vcons rfl (vcons rfl (vcons rfl (vcons rfl (vcons rfl (vcons rfl (vcons rfl (vnil))))))))) (by decide) rfl rfl
        rintro b70 hj
        obtain rfl : o71 = _ := hj
        replace h := after_go ho72
        clear ho72
        refine ops_nil ?_
        refine goes_code ?_
        refine run_cond b70 rfl (fun hc79 => ?_) (fun hc79 => ?_)
        ·replace h := cond_t h hc79
         refine run_region' ?_
         refine oy rfl rfl (y_move rfl) ?_
         refine oy rfl rfl (y_move rfl) ?_
         refine ot rfl rfl (t_lit [.int .i64 w_54] Try.runUnderlying34 Try.sizeOf3 Try.zeroValue3 rfl (by decide) (by decide) rfl (by simp [Value.cells, boxP])) ?_
         rintro v80 _ ⟨rfl, _⟩
         refine ops_turn (retell 6 (g := row v80 1 (([w_54] : List Int).map (eInt .i64))) rfl rfl) ?_
         obtain ⟨hr82, h⟩ := need_some h
         refine ot rfl rfl (t_append (es := 1) 5 rfl Try.runUnderlying34 rfl Try.runUnderlying34 (.inr ⟨_, rfl⟩) Try.typeInfo3 rfl (by decide) Try.zeroValue3 rfl rfl rfl rfl (src_reads 6 rfl reads_row (map_ok (eInt_ok _) _)) (map_room hr82 (by decide)) (map_fit hr82)) ?_
         rintro v81 _ rfl
         refine ops_turn (retell 5 (g := row v81 1 ((set_53 ++ ([w_54] : List Int)).map (eInt .i64))) rfl (congrArg (row _ _) List.map_append.symm)) ?_
         refine oy rfl rfl (y_assign rfl) ?_
         refine ops_nil ?_
         refine goes_blk ?_
         obtain rfl := some_eq h
         exact goes_cut hL65 ((set_53 ++ ([w_54] : List Int)), v81) [0, 1, 2, 3, 4, 5] (vcons rfl (vcons rfl (vcons rfl (vcons rfl (vcons rfl (vcons rfl (vcons rfl (vnil)))))))) (by decide) rfl rfl
        ·replace h := cond_f h hc79
         refine run_skip ?_
         refine goes_blk ?_
         obtain rfl := some_eq h
         exact goes_cut hL65 (set_53, v55) [0, 1, 2, 3, 4, 5] (vcons rfl (vcons rfl (vcons rfl (vcons rfl (vcons rfl (vcons rfl (vcons rfl (vnil)))))))) (by decide) rfl rfl
       rintro ⟨set_61, v62⟩ hj
       obtain rfl : o63 = _ := hj
       replace h := after_go ho64
       clear ho64
       change Run _ _ _ (VF.of [(1, boxP b1 0), (2, boxP b2 0), (4, v7), (6, v35), (7, .int .i64 v_34), (8, v62), (9, .int .i64 w_54)]) [box b1 [.int .i64 n_0.Nodes, n_0_Arcsv], ro n_0_Arcsv 4 (n_0.Arcs.map S_api_Arc.enc), box b2 [.slice none 0 0, .int .i64 0], nrow v7 NC_L_bool_27 all_6, nrow v35 NC_L_int_34 out_33, row v62 1 (set_61.map (eInt .i64))]
       refine run_region' ?_
       refine oy rfl rfl (y_move rfl) ?_
       refine oy rfl rfl (y_add rfl rfl) ?_
       refine oy rfl rfl (y_assign rfl) ?_
       refine ops_nil ?_
       obtain rfl := some_eq h
       exact goes_iter hgo57 (set_61, (IntKind.i64.wrap (w_54 + 1))) v62 [0, 1, 2, 3, 4, 5] rfl (vcons rfl (vcons rfl (vcons rfl (vcons rfl (vcons rfl (vcons rfl (vcons rfl (vnil)))))))) (by decide) rfl
      ·replace h := cond_f h hc60
       refine run_exit _ rfl ?_
       obtain rfl := some_eq h
       obtain rfl := hstop58 _ rfl
       exact goes_cut hL51 (set_53, v55) [0, 1, 2, 3, 4, 5] (vcons rfl (vcons rfl (vcons rfl (vcons rfl (vcons rfl (vcons rfl (vnil))))))) (by decide) rfl rfl
     rintro ⟨set_47, v48⟩ hj
     obtain rfl : o49 = _ := hj
     replace h := after_go ho50
     clear ho50
     change Run _ _ _ (VF.of [(1, boxP b1 0), (2, boxP b2 0), (4, v7), (6, v35), (7, .int .i64 v_34), (8, v48)]) [box b1 [.int .i64 n_0.Nodes, n_0_Arcsv], ro n_0_Arcsv 4 (n_0.Arcs.map S_api_Arc.enc), box b2 [.slice none 0 0, .int .i64 0], nrow v7 NC_L_bool_27 all_6, nrow v35 NC_L_int_34 out_33, row v48 1 (set_47.map (eInt .i64))]
     refine run_seq ?_
     refine run_region' ?_
     refine oy rfl rfl (y_move rfl) ?_
     obtain ⟨x83, hzx83, hlx83, hxx83, h⟩ := idx_some h
     refine oy rfl rfl (y_indexAddrI (kd := .i64) (i := 0) 5 Try.runUnderlying34 Try.sizeOf3 rfl rfl rfl reads_row hzx83 (map_lt hlx83)) ?_
     refine oy rfl rfl (y_load_elem (i := (0 : Int).toNat) 5 Try.isAgg3 rfl rfl reads_row (map_get hxx83)) ?_
     refine oy rfl rfl (y_move rfl) ?_
     refine oy rfl rfl (y_eql rfl rfl) ?_
     refine ops_nil ?_
     refine goes_code ?_
     refine run_cond (decide (x83 = v_34)) rfl (fun hc84 => ?_) (fun hc84 => ?_)
     ·replace h := cond_t h hc84
      refine run_region' ?_
      refine oy rfl rfl (y_move rfl) ?_
      refine oy rfl rfl (y_move rfl) ?_
      refine ops_turn (Go.Abs.freeze 5 rfl) ?_
      refine ops_slc 5 rfl reads_ro (fun hs86 hs86o => ?_)
      refine ot rfl rfl (t_lit [v48] Try.runUnderlying31 Try.sizeOf34 Try.zeroValue34 rfl (by decide) (by decide) rfl (by intro q hq; simp only [List.mem_cons, List.not_mem_nil, or_false] at hq; rcases hq with rfl <;> first | rfl | (rw [hs86]; rfl))) ?_
      rintro v85 _ ⟨rfl, _⟩
      refine ops_turn (turn_closeR (C := NC_L_int_34) (l := ([set_47] : List (List Int))) 6 [(set_47, v48)] rfl (by simp only [List.map_cons, List.map_nil, hs86]; rfl) rfl (hasall_cons (has_cons 5 rfl has_nil) hasall_nil)) ?_
      obtain ⟨hr88, h⟩ := need_some h
      refine ot rfl rfl (t_appendN (C := NC_L_int_34) 4 6 (by decide) rfl Try.runUnderlying31 rfl Try.runUnderlying31 Try.typeInfo34 rfl (by decide) (by decide) Try.zeroValue34 rfl rfl rfl rfl (srcN_row 6 rfl) hr88) ?_
      rintro v87 _ rfl
      refine oy rfl rfl (y_assign rfl) ?_
      refine ops_nil ?_
      refine goes_blk ?_
      obtain rfl := some_eq h
      exact goes_cut hL45 ((out_33 ++ ([set_47] : List (List Int))), v87) [0, 1, 2, 3, 4] (vcons rfl (vcons rfl (vcons rfl (vcons rfl (vcons rfl (vnil)))))) (by decide) rfl rfl
     ·replace h := cond_f h hc84
      refine run_skip ?_
      refine goes_blk ?_
      obtain rfl := some_eq h
      exact goes_cut hL45 (out_33, v35) [0, 1, 2, 3, 4] (vcons rfl (vcons rfl (vcons rfl (vcons rfl (vcons rfl (vnil)))))) (by decide) rfl rfl
    rintro ⟨out_41, v42⟩ hj
    obtain rfl : o43 = _ := hj
    replace h := after_go ho44
    clear ho44
    change Run _ _ _ (VF.of [(1, boxP b1 0), (2, boxP b2 0), (4, v7), (6, v42), (7, .int .i64 v_34)]) [box b1 [.int .i64 n_0.Nodes, n_0_Arcsv], ro n_0_Arcsv 4 (n_0.Arcs.map S_api_Arc.enc), box b2 [.slice none 0 0, .int .i64 0], nrow v7 NC_L_bool_27 all_6, nrow v42 NC_L_int_34 out_41]
    refine run_region' ?_
    refine oy rfl rfl (y_move rfl) ?_
    refine oy rfl rfl (y_add rfl rfl) ?_
    refine oy rfl rfl (y_assign rfl) ?_
    refine ops_nil ?_
    obtain rfl := some_eq h
    exact goes_iter hgo37 (out_41, (IntKind.i64.wrap (v_34 + 1))) v42 [0, 1, 2, 3, 4] rfl (vcons rfl (vcons rfl (vcons rfl (vcons rfl (vcons rfl (vnil)))))) (by decide) rfl
   ·replace h := cond_f h hc40
    refine run_exit _ rfl ?_
    obtain rfl := some_eq h
    obtain rfl := hstop38 _ rfl
    exact goes_cut hL31 (out_33, v35) [2, 4] (vcons rfl (vcons rfl (vnil))) (by decide) rfl rfl
  rintro ⟨out_27, v28⟩ hj
  obtain rfl : o29 = _ := hj
  replace h := after_go ho30
  clear ho30
  change Run _ _ _ (VF.of [(2, boxP b2 0), (6, v28)]) [box b2 [.slice none 0 0, .int .i64 0], nrow v28 NC_L_int_34 out_27]
  refine run_seq ?_
  refine run_region' ?_
  refine oy rfl rfl (y_move rfl) ?_
  refine ops_slcN 1 rfl readsN_row (fun hs89 hs89o => ?_)
  refine oy rfl rfl (y_build_struct (cells := #[v28, .int .i64 0]) [(0, v28)] [(0, [v28])] Try.zeroValue41 Try.runUnderlying41 (fs_cons Try.sizeOf31 (fs_cons Try.sizeOf28 fs_nil)) rfl (by first | (simp only [List.map_cons, List.map_nil, hs89]; done) | (simp only [List.map_cons, List.map_nil, hs89]; rfl)) rfl) ?_
  refine ops_slcN 1 rfl readsN_row (fun hs90 hs90o => ?_)
  refine ot rfl rfl (t_store 0 Try.sizeOf41 rfl rfl rfl rfl (by simp [Value.cells, boxP]) (by intro u hu; replace hu : u ∈ ([v28, .int .i64 0] : List Value) := hu; simp only [List.mem_cons, List.not_mem_nil, or_false] at hu; rcases hu with rfl | rfl <;> first | rfl | assumption)) ?_
  rintro _ _ ⟨rfl, rfl⟩
  refine ops_turn (retell 0 (g := box b2 [v28, .int .i64 0]) rfl rfl) ?_
  refine ops_nil ?_
  refine goes_code ?_
  refine run_ret ?_
  obtain rfl := some_eq h
  refine fin_res [.cell 2 41] [.agg #[v28, .int .i64 0]] [1] [nrow v28 NC_L_int_34 out_27] Try.results15 rfl (rescons (res_box 0 Try.isAgg41 Try.sizeOf41 rfl rfl rfl) resnil) (by decide) rfl ?_
  exact ⟨_, rfl, rfl⟩

def ref09_Order_L2 (n_0 : S_api_Net) (x_16 : (List Bool)) : (Int × (List Bool)) → Option (Lp (Int × (List Bool)) (Lp ((List Bool)) (Lp ((List Int) × Int × (List Bool)) (Lp ((List Int)) (S_ref09_Ordered))))) :=
 fun (v_30, x_31) =>
  cond (decide (v_30 < n_0.Nodes))
   (idx x_16 v_30 fun x37 =>
   idx x_31 v_30 fun x38 =>
   some (.go ((IntKind.i64.wrap (v_30 + 1)), (x_31.set v_30.toNat (!x37)))))
   (some (.stop (.go x_31)))
def ref09_Order_L3 (n_0 : S_api_Net) (x_16 : (List Bool)) : (Int × (List Bool)) → Option (Lp (Int × (List Bool)) (Lp ((List Bool)) (Lp ((List Int) × Int × (List Bool)) (Lp ((List Int)) (S_ref09_Ordered))))) :=
 fun (i_44, x_45) =>
  cond (decide (i_44 < (n_0.Arcs.length : Int)))
   (bindJ (S := (List Bool))
    (idx n_0.Arcs i_44 fun x56 =>
    idx x_16 x56.From fun x57 =>
    cond (!x57)
     (idx x_45 x56.To fun x59 =>
     some (.go (x_45.set ((x56.To).toNat) false)))
     (some (.go x_45)))
   (fun x_51 =>
    some (.go ((IntKind.i64.wrap (i_44 + 1)), x_51))))
   (some (.stop (.go x_45)))
def ref09_Order_L4 (x_39 : (List Bool)) : (Int × Int) → Option (Lp (Int × Int) (Lp (Int) (Lp ((List Int) × Int × (List Bool)) (Lp ((List Int)) (S_ref09_Ordered))))) :=
 fun (least_65, v_66) =>
  cond (decide (0 ≤ v_66))
   (bindJ (S := Int)
    (idx x_39 v_66 fun x77 =>
    cond x77
     (some (.go v_66))
     (some (.go least_65)))
   (fun least_72 =>
    some (.go (least_72, (IntKind.i64.wrap (v_66 - 1))))))
   (some (.stop (.go least_65)))
def ref09_Order_L1 (n : Nat) (n_0 : S_api_Net) : ((List Int) × Int × (List Bool)) → Option (Lp ((List Int) × Int × (List Bool)) (Lp ((List Int)) (S_ref09_Ordered))) :=
 fun (out_14, k_15, x_16) =>
  cond (decide (k_15 < n_0.Nodes))
   (need (0 ≤ n_0.Nodes ∧ n_0.Nodes ≤ 4294967296) (
   bindJ (S := (List Bool))
    (iter (ref09_Order_L2 n_0 x_16) n (0, (List.replicate (n_0.Nodes).toNat (false : Bool))))
   (fun x_25 =>
    bindJ (S := (List Bool))
     (iter (ref09_Order_L3 n_0 x_16) n (0, x_25))
    (fun x_39 =>
     bindJ (S := Int)
      (iter (ref09_Order_L4 x_39) n ((-1), (IntKind.i64.wrap (n_0.Nodes - 1))))
     (fun least_60 =>
      cond (decide (least_60 < 0))
       (some (.stop (.stop (S_ref09_Ordered.mk ([] : List Int) false 0))))
       (idx x_16 least_60 fun x80 =>
       need (out_14.length + ([least_60] : List Int).length ≤ 4294967296) (
       some (.go ((out_14 ++ ([least_60] : List Int)), (IntKind.i64.wrap (k_15 + 1)), (x_16.set least_60.toNat true))))))))))
   (some (.stop (.go out_14)))
def ref09_Order (n : Nat) (n_0 : S_api_Net) : Option (S_ref09_Ordered) :=
 obind (ref09_Valid n n_0) fun r3 =>
 cond (!r3)
  (some (S_ref09_Ordered.mk ([] : List Int) false 1))
  (need (0 ≤ n_0.Nodes ∧ n_0.Nodes ≤ 4294967296) (
  bindJ (S := (List Int))
   (iter (ref09_Order_L1 n n_0) n (([] : List Int), 0, (List.replicate (n_0.Nodes).toNat (false : Bool))))
  (fun out_8 =>
   some (S_ref09_Ordered.mk out_8 true 0))))
theorem ref09_Order_ok (n : Nat) (n_0 : S_api_Net) (n_0_Arcsv : Value) {r : S_ref09_Ordered} (h : ref09_Order n n_0 = some r) :
  Meets Try.prog 16 [.agg #[.int .i64 n_0.Nodes, n_0_Arcsv]] [ro n_0_Arcsv 4 (n_0.Arcs.map S_api_Arc.enc)] (fun v G => ∃ v0, v = .agg #[v0, .bool r.Is, .int .i64 r.E] ∧ G = [row v0 1 (r.L.map (eInt .i64))]) := by
 refine fn_of_run Try.func16 rfl Try.ntmps16 rfl (fun w0 o0 => ?_)
 refine run_seq ?_
 refine run_region' ?_
 refine ot rfl rfl (t_box rfl) ?_
 rintro _ _ ⟨b1, rfl, rfl⟩
 refine ot rfl rfl (t_alloc Try.zeroValue44) ?_
 rintro _ _ ⟨b2, rfl, rfl⟩
 refine ops_nil ?_
 refine goes_code ?_
 refine run_seq ?_
 refine run_region' ?_
 refine oy rfl rfl (y_load_boxagg (c := [.int .i64 n_0.Nodes, n_0_Arcsv]) 1 Try.isAgg24 Try.sizeOf24 rfl rfl rfl) ?_
 obtain ⟨r3, hr4, h⟩ := obind_some h
 refine ot rfl rfl (t_callx (vs := [.agg #[.int .i64 n_0.Nodes, n_0_Arcsv]]) (cs := []) [(0, 0)] rfl Try.call18 rfl (ref09_Valid_ok n n_0 n_0_Arcsv hr4) (showsX_view 0 rfl views_ro showsX_nil) rfl (.inl rfl)) ?_
 rintro _ _ ⟨_, ⟨rfl, rfl⟩, rfl⟩
 refine oy rfl rfl (y_assign rfl) ?_
 refine ops_nil ?_
 refine goes_code ?_
 refine run_seq ?_
 refine run_seq ?_
 refine run_region' ?_
 refine oy rfl rfl (y_move rfl) ?_
 refine oy rfl rfl (y_not rfl) ?_
 refine ops_nil ?_
 refine goes_code ?_
 refine run_cond (!r3) rfl (fun hc5 => ?_) (fun hc5 => ?_)
 ·replace h := cond_t h hc5
  refine run_seq ?_
  refine run_region' ?_
  refine oy rfl rfl (y_build_struct (cells := #[.slice none 0 0, .bool false, .int .i64 1]) [(2, .int .i64 1)] [(2, [.int .i64 1])] Try.zeroValue44 Try.runUnderlying44 (fs_cons Try.sizeOf34 (fs_cons Try.sizeOf4 (fs_cons Try.sizeOf28 fs_nil))) rfl rfl rfl) ?_
  refine ot rfl rfl (t_store 2 Try.sizeOf44 rfl rfl rfl rfl (by simp [Value.cells, boxP]) (by simp [Value.cells, Value.oneCell', boxP])) ?_
  rintro _ _ ⟨rfl, rfl⟩
  refine ops_turn (retell 2 (g := box b2 [.slice none 0 0, .bool false, .int .i64 1]) rfl rfl) ?_
  refine ops_nil ?_
  refine goes_code ?_
  refine run_ret ?_
  refine fin_turn (nilrow 1) ?_
  refine fin_turn (retell 3 (g := row (.slice none 0 0) 1 (([] : List Int).map (eInt .i64))) rfl rfl) ?_
  obtain rfl := some_eq h
  refine fin_res [.cell 2 44] [.agg #[(.slice none 0 0), .bool false, .int .i64 1]] [3] [row (.slice none 0 0) 1 (([] : List Int).map (eInt .i64))] Try.results16 rfl (rescons (res_box 2 Try.isAgg44 Try.sizeOf44 rfl rfl rfl) resnil) (by decide) rfl ?_
  exact ⟨_, rfl, rfl⟩
 ·replace h := cond_f h hc5
  refine run_skip ?_
  refine goes_code ?_
  refine run_seq ?_
  refine run_region' ?_
  refine oy rfl rfl (y_fieldAddr_box (sz := 0) Try.runUnderlying24 rfl Try.sizeOf3 rfl) ?_
  refine oy rfl rfl (y_load_box 1 Try.isAgg3 rfl rfl rfl) ?_
  obtain ⟨hm7, h⟩ := need_some h
  refine ot rfl rfl (t_makeSlice (es := 1) Try.runUnderlying27 Try.typeInfo4 rfl Try.zeroValue4 rfl (by decide) rfl rfl hm7.1 hm7.2 (by decide)) ?_
  rintro v6 _ rfl
  refine ops_turn (retell 3 (g := row v6 1 ((List.replicate (n_0.Nodes).toNat (false : Bool)).map eBool)) rfl (congrArg (row _ _) (map_rep rfl))) ?_
  refine oy rfl rfl (y_assign rfl) ?_
  refine ops_nil ?_
  refine goes_code ?_
  refine run_seq ?_
  refine run_weak [(1, boxP b1 0), (2, boxP b2 0), (4, v6)] [0, 1, 2, 3] [ro n_0_Arcsv 4 (n_0.Arcs.map S_api_Arc.enc), box b1 [.int .i64 n_0.Nodes, n_0_Arcsv], box b2 [.slice none 0 0, .bool false, .int .i64 0], row v6 1 ((List.replicate (n_0.Nodes).toNat (false : Bool)).map eBool)] (vcons rfl (vcons rfl (vcons rfl (vnil)))) (by decide) rfl ?_
  refine run_region' ?_
  refine oy rfl rfl (y_assign rfl) ?_
  refine ops_nil ?_
  refine goes_code ?_
  obtain ⟨o10, h, ho11⟩ := bindJ_some h
  refine run_cut (((List Int)) × (Value)) (fun σ => [(2, boxP b2 0), (5, σ.2)]) (fun σ => [box b2 [.slice none 0 0, .bool false, .int .i64 0], row σ.2 1 (σ.1.map (eInt .i64))]) (fun σ => o10 = .go σ.1) (fun L13 hL12 => ?_) ?_
  ·
   refine run_seq ?_
   refine run_region' ?_
   refine oy rfl rfl (y_assign rfl) ?_
   refine ops_nil ?_
   refine goes_code ?_
   refine run_block ?_
   refine run_turn (nilrow 1) ?_
   refine run_turn (retell 4 (g := row (.slice none 0 0) 1 (([] : List Int).map (eInt .i64))) rfl rfl) ?_
   refine run_iter (step := ref09_Order_L1 n n_0) (n := n) (s0 := (([] : List Int), 0, (List.replicate (n_0.Nodes).toNat (false : Bool)))) h (G := Value) (.slice none 0 0) (fun σ γ => [(1, boxP b1 0), (2, boxP b2 0), (4, v6), (5, γ), (6, .int .i64 σ.2.1)]) (fun σ γ => [box b1 [.int .i64 n_0.Nodes, n_0_Arcsv], ro n_0_Arcsv 4 (n_0.Arcs.map S_api_Arc.enc), box b2 [.slice none 0 0, .bool false, .int .i64 0], row v6 1 (σ.2.2.map eBool), row γ 1 (σ.1.map (eInt .i64))]) [1, 0, 2, 3, 4] (vcons rfl (vcons rfl (vcons rfl (vcons rfl (vcons rfl (vnil)))))) (by decide) rfl ?_
   rintro ⟨out_14, k_15, x_16⟩ v17 o18 h L21 hgo19 hstop20
   change Run _ _ _ (VF.of [(1, boxP b1 0), (2, boxP b2 0), (4, v6), (5, v17), (6, .int .i64 k_15)]) [box b1 [.int .i64 n_0.Nodes, n_0_Arcsv], ro n_0_Arcsv 4 (n_0.Arcs.map S_api_Arc.enc), box b2 [.slice none 0 0, .bool false, .int .i64 0], row v6 1 (x_16.map eBool), row v17 1 (out_14.map (eInt .i64))]
   refine run_seq ?_
   refine run_seq ?_
   refine run_region' ?_
   refine oy rfl rfl (y_move rfl) ?_
   refine oy rfl rfl (y_fieldAddr_box (sz := 0) Try.runUnderlying24 rfl Try.sizeOf3 rfl) ?_
   refine oy rfl rfl (y_load_box 0 Try.isAgg3 rfl rfl rfl) ?_
   refine oy rfl rfl (y_lss rfl rfl) ?_
   refine ops_nil ?_
   refine goes_code ?_
   refine run_cond (decide (k_15 < n_0.Nodes)) rfl (fun hc22 => ?_) (fun hc22 => ?_)
   ·replace h := cond_t h hc22
    refine run_skip ?_
    refine goes_code ?_
    refine run_seq ?_
    refine run_block ?_
    refine run_seq ?_
    refine run_region' ?_
    refine oy rfl rfl (y_fieldAddr_box (sz := 0) Try.runUnderlying24 rfl Try.sizeOf3 rfl) ?_
    refine oy rfl rfl (y_load_box 0 Try.isAgg3 rfl rfl rfl) ?_
    obtain ⟨hm24, h⟩ := need_some h
    refine ot rfl rfl (t_makeSlice (es := 1) Try.runUnderlying27 Try.typeInfo4 rfl Try.zeroValue4 rfl (by decide) rfl rfl hm24.1 hm24.2 (by decide)) ?_
    rintro v23 _ rfl
    refine ops_turn (retell 5 (g := row v23 1 ((List.replicate (n_0.Nodes).toNat (false : Bool)).map eBool)) rfl (congrArg (row _ _) (map_rep rfl))) ?_
    refine oy rfl rfl (y_assign rfl) ?_
    refine ops_nil ?_
    refine goes_code ?_
    obtain ⟨o26, h, ho27⟩ := bindJ_some h
    refine run_cut (((List Bool)) × (Unit)) (fun σ => [(1, boxP b1 0), (2, boxP b2 0), (4, v6), (5, v17), (6, .int .i64 k_15), (7, v23)]) (fun σ => [box b1 [.int .i64 n_0.Nodes, n_0_Arcsv], ro n_0_Arcsv 4 (n_0.Arcs.map S_api_Arc.enc), box b2 [.slice none 0 0, .bool false, .int .i64 0], row v6 1 (x_16.map eBool), row v17 1 (out_14.map (eInt .i64)), row v23 1 (σ.1.map eBool)]) (fun σ => o26 = .go σ.1) (fun L29 hL28 => ?_) ?_
    ·
     refine run_seq ?_
     refine run_weak [(1, boxP b1 0), (2, boxP b2 0), (4, v6), (5, v17), (6, .int .i64 k_15), (7, v23)] [0, 1, 2, 3, 4, 5] [box b1 [.int .i64 n_0.Nodes, n_0_Arcsv], ro n_0_Arcsv 4 (n_0.Arcs.map S_api_Arc.enc), box b2 [.slice none 0 0, .bool false, .int .i64 0], row v6 1 (x_16.map eBool), row v17 1 (out_14.map (eInt .i64)), row v23 1 ((List.replicate (n_0.Nodes).toNat (false : Bool)).map eBool)] (vcons rfl (vcons rfl (vcons rfl (vcons rfl (vcons rfl (vcons rfl (vnil))))))) (by decide) rfl ?_
     refine run_region' ?_
     refine oy rfl rfl (y_assign rfl) ?_
     refine ops_nil ?_
     refine goes_code ?_
     refine run_block ?_
     refine run_iter (step := ref09_Order_L2 n_0 x_16) (n := n) (s0 := (0, (List.replicate (n_0.Nodes).toNat (false : Bool)))) h (G := Unit) () (fun σ γ => [(1, boxP b1 0), (2, boxP b2 0), (4, v6), (5, v17), (6, .int .i64 k_15), (7, v23), (8, .int .i64 σ.1)]) (fun σ γ => [box b1 [.int .i64 n_0.Nodes, n_0_Arcsv], ro n_0_Arcsv 4 (n_0.Arcs.map S_api_Arc.enc), box b2 [.slice none 0 0, .bool false, .int .i64 0], row v6 1 (x_16.map eBool), row v17 1 (out_14.map (eInt .i64)), row v23 1 (σ.2.map eBool)]) [0, 1, 2, 3, 4, 5] (vcons rfl (vcons rfl (vcons rfl (vcons rfl (vcons rfl (vcons rfl (vcons rfl (vnil)))))))) (by decide) rfl ?_
     rintro ⟨v_30, x_31⟩ _ o32 h L35 hgo33 hstop34
     change Run _ _ _ (VF.of [(1, boxP b1 0), (2, boxP b2 0), (4, v6), (5, v17), (6, .int .i64 k_15), (7, v23), (8, .int .i64 v_30)]) [box b1 [.int .i64 n_0.Nodes, n_0_Arcsv], ro n_0_Arcsv 4 (n_0.Arcs.map S_api_Arc.enc), box b2 [.slice none 0 0, .bool false, .int .i64 0], row v6 1 (x_16.map eBool), row v17 1 (out_14.map (eInt .i64)), row v23 1 (x_31.map eBool)]
     refine run_seq ?_
     refine run_seq ?_
     refine run_region' ?_
     refine oy rfl rfl (y_move rfl) ?_
     refine oy rfl rfl (y_fieldAddr_box (sz := 0) Try.runUnderlying24 rfl Try.sizeOf3 rfl) ?_
     refine oy rfl rfl (y_load_box 0 Try.isAgg3 rfl rfl rfl) ?_
     refine oy rfl rfl (y_lss rfl rfl) ?_
     refine ops_nil ?_
     refine goes_code ?_
     refine run_cond (decide (v_30 < n_0.Nodes)) rfl (fun hc36 => ?_) (fun hc36 => ?_)
     ·replace h := cond_t h hc36
      refine run_skip ?_
      refine goes_code ?_
      refine run_seq ?_
      refine run_block ?_
      refine run_region' ?_
      refine oy rfl rfl (y_move rfl) ?_
      refine oy rfl rfl (y_move rfl) ?_
      refine oy rfl rfl (y_move rfl) ?_
      refine oy rfl rfl (y_move rfl) ?_
      obtain ⟨x37, hzx37, hlx37, hxx37, h⟩ := idx_some h
      refine oy rfl rfl (y_indexAddrI (kd := .i64) (i := v_30) 3 Try.runUnderlying27 Try.sizeOf4 rfl rfl rfl reads_row hzx37 (map_lt hlx37)) ?_
      refine oy rfl rfl (y_load_elem (i := v_30.toNat) 3 Try.isAgg4 rfl rfl reads_row (map_get hxx37)) ?_
      refine oy rfl rfl (y_not rfl) ?_
      obtain ⟨x38, hzx38, hlx38, hxx38, h⟩ := idx_some h
      refine oy rfl rfl (y_indexAddrI (kd := .i64) (i := v_30) 5 Try.runUnderlying27 Try.sizeOf4 rfl rfl rfl reads_row hzx38 (map_lt hlx38)) ?_
      refine ot rfl rfl (t_store_row (i := v_30.toNat) (j := 0) (c := eBool x38) 5 Try.sizeOf4 rfl rfl rfl rfl (map_get hxx38) (by decide) (by simp [Value.cells, Value.oneCell', boxP])) ?_
      rintro _ _ ⟨rfl, rfl⟩
      refine ops_turn (retell 5 (g := row v23 1 ((x_31.set v_30.toNat (!x37)).map eBool)) rfl (congrArg (row _ _) (map_set_at rfl))) ?_
      refine ops_nil ?_
      refine goes_blk ?_
      refine goes_code ?_
      refine run_weak [(1, boxP b1 0), (2, boxP b2 0), (4, v6), (5, v17), (6, .int .i64 k_15), (7, v23), (8, .int .i64 v_30)] [0, 1, 2, 3, 4, 5] [box b1 [.int .i64 n_0.Nodes, n_0_Arcsv], ro n_0_Arcsv 4 (n_0.Arcs.map S_api_Arc.enc), box b2 [.slice none 0 0, .bool false, .int .i64 0], row v6 1 (x_16.map eBool), row v17 1 (out_14.map (eInt .i64)), row v23 1 ((x_31.set v_30.toNat (!x37)).map eBool)] (vcons rfl (vcons rfl (vcons rfl (vcons rfl (vcons rfl (vcons rfl (vcons rfl (vnil)))))))) (by decide) rfl ?_
      refine run_region' ?_
      refine oy rfl rfl (y_move rfl) ?_
      refine oy rfl rfl (y_add rfl rfl) ?_
      refine oy rfl rfl (y_assign rfl) ?_
      refine ops_nil ?_
      obtain rfl := some_eq h
      exact goes_iter hgo33 ((IntKind.i64.wrap (v_30 + 1)), (x_31.set v_30.toNat (!x37))) () [0, 1, 2, 3, 4, 5] rfl (vcons rfl (vcons rfl (vcons rfl (vcons rfl (vcons rfl (vcons rfl (vcons rfl (vnil)))))))) (by decide) rfl
     ·replace h := cond_f h hc36
      refine run_exit _ rfl ?_
      obtain rfl := some_eq h
      obtain rfl := hstop34 _ rfl
      exact goes_cut hL28 (x_31, ()) [0, 1, 2, 3, 4, 5] (vcons rfl (vcons rfl (vcons rfl (vcons rfl (vcons rfl (vcons rfl (vnil))))))) (by decide) rfl rfl
    rintro ⟨x_25, _⟩ hj
    obtain rfl : o26 = _ := hj
    replace h := after_go ho27
    clear ho27
    change Run _ _ _ (VF.of [(1, boxP b1 0), (2, boxP b2 0), (4, v6), (5, v17), (6, .int .i64 k_15), (7, v23)]) [box b1 [.int .i64 n_0.Nodes, n_0_Arcsv], ro n_0_Arcsv 4 (n_0.Arcs.map S_api_Arc.enc), box b2 [.slice none 0 0, .bool false, .int .i64 0], row v6 1 (x_16.map eBool), row v17 1 (out_14.map (eInt .i64)), row v23 1 (x_25.map eBool)]
    obtain ⟨o40, h, ho41⟩ := bindJ_some h
    refine run_cut (((List Bool)) × (Unit)) (fun σ => [(1, boxP b1 0), (2, boxP b2 0), (4, v6), (5, v17), (6, .int .i64 k_15), (7, v23)]) (fun σ => [box b1 [.int .i64 n_0.Nodes, n_0_Arcsv], ro n_0_Arcsv 4 (n_0.Arcs.map S_api_Arc.enc), box b2 [.slice none 0 0, .bool false, .int .i64 0], row v6 1 (x_16.map eBool), row v17 1 (out_14.map (eInt .i64)), row v23 1 (σ.1.map eBool)]) (fun σ => o40 = .go σ.1) (fun L43 hL42 => ?_) ?_
    ·
     refine run_seq ?_
     refine run_region' ?_
     refine oy rfl rfl (y_assign rfl) ?_
     refine ops_nil ?_
     refine goes_code ?_
     refine run_block ?_
     refine run_iter (step := ref09_Order_L3 n_0 x_16) (n := n) (s0 := (0, x_25)) h (G := Unit) () (fun σ γ => [(1, boxP b1 0), (2, boxP b2 0), (4, v6), (5, v17), (6, .int .i64 k_15), (7, v23), (9, .int .i64 σ.1)]) (fun σ γ => [box b1 [.int .i64 n_0.Nodes, n_0_Arcsv], ro n_0_Arcsv 4 (n_0.Arcs.map S_api_Arc.enc), box b2 [.slice none 0 0, .bool false, .int .i64 0], row v6 1 (x_16.map eBool), row v17 1 (out_14.map (eInt .i64)), row v23 1 (σ.2.map eBool)]) [0, 1, 2, 3, 4, 5] (vcons rfl (vcons rfl (vcons rfl (vcons rfl (vcons rfl (vcons rfl (vcons rfl (vnil)))))))) (by decide) rfl ?_
     rintro ⟨i_44, x_45⟩ _ o46 h L49 hgo47 hstop48
     change Run _ _ _ (VF.of [(1, boxP b1 0), (2, boxP b2 0), (4, v6), (5, v17), (6, .int .i64 k_15), (7, v23), (9, .int .i64 i_44)]) [box b1 [.int .i64 n_0.Nodes, n_0_Arcsv], ro n_0_Arcsv 4 (n_0.Arcs.map S_api_Arc.enc), box b2 [.slice none 0 0, .bool false, .int .i64 0], row v6 1 (x_16.map eBool), row v17 1 (out_14.map (eInt .i64)), row v23 1 (x_45.map eBool)]
     refine run_seq ?_
     refine run_seq ?_
     refine run_region' ?_
     refine oy rfl rfl (y_move rfl) ?_
     refine oy rfl rfl (y_fieldAddr_box (sz := 0) Try.runUnderlying24 rfl Try.sizeOf22 rfl) ?_
     refine oy rfl rfl (y_load_box 0 Try.isAgg22 rfl rfl rfl) ?_
     refine oy rfl rfl ((y_len 1 rfl Try.runUnderlying22 rfl rfl reads_ro).to (v_len S_api_Arc.enc _)) ?_
     refine oy rfl rfl (y_lss rfl rfl) ?_
     refine ops_nil ?_
     refine goes_code ?_
     refine run_cond (decide (i_44 < (n_0.Arcs.length : Int))) rfl (fun hc50 => ?_) (fun hc50 => ?_)
     ·replace h := cond_t h hc50
      refine run_skip ?_
      refine goes_code ?_
      obtain ⟨o52, h, ho53⟩ := bindJ_some h
      refine run_cut (((List Bool)) × (Unit)) (fun σ => [(1, boxP b1 0), (2, boxP b2 0), (4, v6), (5, v17), (6, .int .i64 k_15), (7, v23), (9, .int .i64 i_44)]) (fun σ => [box b1 [.int .i64 n_0.Nodes, n_0_Arcsv], ro n_0_Arcsv 4 (n_0.Arcs.map S_api_Arc.enc), box b2 [.slice none 0 0, .bool false, .int .i64 0], row v6 1 (x_16.map eBool), row v17 1 (out_14.map (eInt .i64)), row v23 1 (σ.1.map eBool)]) (fun σ => o52 = .go σ.1) (fun L55 hL54 => ?_) ?_
      ·
       refine run_block ?_
       refine run_seq ?_
       refine run_region' ?_
       refine oy rfl rfl (y_move rfl) ?_
       refine oy rfl rfl (y_fieldAddr_box (sz := 0) Try.runUnderlying24 rfl Try.sizeOf22 rfl) ?_
       refine oy rfl rfl (y_load_box 0 Try.isAgg22 rfl rfl rfl) ?_
       refine oy rfl rfl (y_move rfl) ?_
       obtain ⟨x56, hzx56, hlx56, hxx56, h⟩ := idx_some h
       refine oy rfl rfl (y_indexAddrI (kd := .i64) (i := i_44) 1 Try.runUnderlying22 Try.sizeOf67 rfl rfl rfl reads_ro hzx56 (map_lt hlx56)) ?_
       refine oy rfl rfl (y_fieldAddr_elem (sz := 0) Try.runUnderlying67 rfl Try.sizeOf3 rfl) ?_
       refine oy rfl rfl (y_load_field (i := i_44.toNat) (j := 0) 1 Try.isAgg3 rfl rfl reads_ro (map_get hxx56) rfl) ?_
       obtain ⟨x57, hzx57, hlx57, hxx57, h⟩ := idx_some h
       refine oy rfl rfl (y_indexAddrI (kd := .i64) (i := x56.From) 3 Try.runUnderlying27 Try.sizeOf4 rfl rfl rfl reads_row hzx57 (map_lt hlx57)) ?_
       refine oy rfl rfl (y_load_elem (i := (x56.From).toNat) 3 Try.isAgg4 rfl rfl reads_row (map_get hxx57)) ?_
       refine oy rfl rfl (y_not rfl) ?_
       refine ops_nil ?_
       refine goes_code ?_
       refine run_cond (!x57) rfl (fun hc58 => ?_) (fun hc58 => ?_)
       ·replace h := cond_t h hc58
        refine run_weak [(1, boxP b1 0), (2, boxP b2 0), (4, v6), (5, v17), (6, .int .i64 k_15), (7, v23), (9, .int .i64 i_44)] [0, 1, 2, 3, 4, 5] [box b1 [.int .i64 n_0.Nodes, n_0_Arcsv], ro n_0_Arcsv 4 (n_0.Arcs.map S_api_Arc.enc), box b2 [.slice none 0 0, .bool false, .int .i64 0], row v6 1 (x_16.map eBool), row v17 1 (out_14.map (eInt .i64)), row v23 1 (x_45.map eBool)] (vcons rfl (vcons rfl (vcons rfl (vcons rfl (vcons rfl (vcons rfl (vcons rfl (vnil)))))))) (by decide) rfl ?_
        refine run_region' ?_
        refine oy rfl rfl (y_move rfl) ?_
        refine oy rfl rfl (y_fieldAddr_box (sz := 0) Try.runUnderlying24 rfl Try.sizeOf22 rfl) ?_
        refine oy rfl rfl (y_load_box 0 Try.isAgg22 rfl rfl rfl) ?_
        refine oy rfl rfl (y_move rfl) ?_
        refine oy rfl rfl (y_indexAddrI (kd := .i64) (i := i_44) 1 Try.runUnderlying22 Try.sizeOf67 rfl rfl rfl reads_ro hzx56 (map_lt hlx56)) ?_
        refine oy rfl rfl (y_fieldAddr_elem (sz := 0) Try.runUnderlying67 rfl Try.sizeOf3 rfl) ?_
        refine oy rfl rfl (y_load_field (i := i_44.toNat) (j := 1) 1 Try.isAgg3 rfl rfl reads_ro (map_get hxx56) rfl) ?_
        obtain ⟨x59, hzx59, hlx59, hxx59, h⟩ := idx_some h
        refine oy rfl rfl (y_indexAddrI (kd := .i64) (i := x56.To) 5 Try.runUnderlying27 Try.sizeOf4 rfl rfl rfl reads_row hzx59 (map_lt hlx59)) ?_
        refine ot rfl rfl (t_store_row (i := (x56.To).toNat) (j := 0) (c := eBool x59) 5 Try.sizeOf4 rfl rfl rfl rfl (map_get hxx59) (by decide) (by simp [Value.cells, Value.oneCell', boxP])) ?_
        rintro _ _ ⟨rfl, rfl⟩
        refine ops_turn (retell 5 (g := row v23 1 ((x_45.set ((x56.To).toNat) false).map eBool)) rfl (congrArg (row _ _) (map_set_at rfl))) ?_
        refine ops_nil ?_
        refine goes_blk ?_
        obtain rfl := some_eq h
        exact goes_cut hL54 ((x_45.set ((x56.To).toNat) false), ()) [0, 1, 2, 3, 4, 5] (vcons rfl (vcons rfl (vcons rfl (vcons rfl (vcons rfl (vcons rfl (vcons rfl (vnil)))))))) (by decide) rfl rfl
       ·replace h := cond_f h hc58
        refine run_skip ?_
        refine goes_blk ?_
        obtain rfl := some_eq h
        exact goes_cut hL54 (x_45, ()) [0, 1, 2, 3, 4, 5] (vcons rfl (vcons rfl (vcons rfl (vcons rfl (vcons rfl (vcons rfl (vcons rfl (vnil)))))))) (by decide) rfl rfl
      rintro ⟨x_51, _⟩ hj
      obtain rfl : o52 = _ := hj
      replace h := after_go ho53
      clear ho53
      change Run _ _ _ (VF.of [(1, boxP b1 0), (2, boxP b2 0), (4, v6), (5, v17), (6, .int .i64 k_15), (7, v23), (9, .int .i64 i_44)]) [box b1 [.int .i64 n_0.Nodes, n_0_Arcsv], ro n_0_Arcsv 4 (n_0.Arcs.map S_api_Arc.enc), box b2 [.slice none 0 0, .bool false, .int .i64 0], row v6 1 (x_16.map eBool), row v17 1 (out_14.map (eInt .i64)), row v23 1 (x_51.map eBool)]
      refine run_region' ?_
      refine oy rfl rfl (y_move rfl) ?_
      refine oy rfl rfl (y_add rfl rfl) ?_
      refine oy rfl rfl (y_assign rfl) ?_
      refine ops_nil ?_
      obtain rfl := some_eq h
      exact goes_iter hgo47 ((IntKind.i64.wrap (i_44 + 1)), x_51) () [0, 1, 2, 3, 4, 5] rfl (vcons rfl (vcons rfl (vcons rfl (vcons rfl (vcons rfl (vcons rfl (vcons rfl (vnil)))))))) (by decide) rfl
     ·replace h := cond_f h hc50
      refine run_exit _ rfl ?_
      obtain rfl := some_eq h
      obtain rfl := hstop48 _ rfl
      exact goes_cut hL42 (x_45, ()) [0, 1, 2, 3, 4, 5] (vcons rfl (vcons rfl (vcons rfl (vcons rfl (vcons rfl (vcons rfl (vnil))))))) (by decide) rfl rfl
    rintro ⟨x_39, _⟩ hj
    obtain rfl : o40 = _ := hj
    replace h := after_go ho41
    clear ho41
    change Run _ _ _ (VF.of [(1, boxP b1 0), (2, boxP b2 0), (4, v6), (5, v17), (6, .int .i64 k_15), (7, v23)]) [box b1 [.int .i64 n_0.Nodes, n_0_Arcsv], ro n_0_Arcsv 4 (n_0.Arcs.map S_api_Arc.enc), box b2 [.slice none 0 0, .bool false, .int .i64 0], row v6 1 (x_16.map eBool), row v17 1 (out_14.map (eInt .i64)), row v23 1 (x_39.map eBool)]
    refine run_seq ?_
    refine run_region' ?_
    refine oy rfl rfl (y_assign rfl) ?_
    refine ops_nil ?_
    refine goes_code ?_
    obtain ⟨o61, h, ho62⟩ := bindJ_some h
    refine run_cut ((Int) × (Unit)) (fun σ => [(1, boxP b1 0), (2, boxP b2 0), (4, v6), (5, v17), (6, .int .i64 k_15), (10, .int .i64 σ.1)]) (fun σ => [box b1 [.int .i64 n_0.Nodes, n_0_Arcsv], ro n_0_Arcsv 4 (n_0.Arcs.map S_api_Arc.enc), box b2 [.slice none 0 0, .bool false, .int .i64 0], row v6 1 (x_16.map eBool), row v17 1 (out_14.map (eInt .i64))]) (fun σ => o61 = .go σ.1) (fun L64 hL63 => ?_) ?_
    ·
     refine run_seq ?_
     refine run_region' ?_
     refine oy rfl rfl (y_fieldAddr_box (sz := 0) Try.runUnderlying24 rfl Try.sizeOf3 rfl) ?_
     refine oy rfl rfl (y_load_box 0 Try.isAgg3 rfl rfl rfl) ?_
     refine oy rfl rfl (y_sub rfl rfl) ?_
     refine oy rfl rfl (y_assign rfl) ?_
     refine ops_nil ?_
     refine goes_code ?_
     refine run_block ?_
     refine run_iter (step := ref09_Order_L4 x_39) (n := n) (s0 := ((-1), (IntKind.i64.wrap (n_0.Nodes - 1)))) h (G := Unit) () (fun σ γ => [(1, boxP b1 0), (2, boxP b2 0), (4, v6), (5, v17), (6, .int .i64 k_15), (7, v23), (10, .int .i64 σ.1), (11, .int .i64 σ.2)]) (fun σ γ => [box b1 [.int .i64 n_0.Nodes, n_0_Arcsv], ro n_0_Arcsv 4 (n_0.Arcs.map S_api_Arc.enc), box b2 [.slice none 0 0, .bool false, .int .i64 0], row v6 1 (x_16.map eBool), row v17 1 (out_14.map (eInt .i64)), row v23 1 (x_39.map eBool)]) [0, 1, 2, 3, 4, 5] (vcons rfl (vcons rfl (vcons rfl (vcons rfl (vcons rfl (vcons rfl (vcons rfl (vcons rfl (vnil))))))))) (by decide) rfl ?_
     rintro ⟨least_65, v_66⟩ _ o67 h L70 hgo68 hstop69
     change Run _ _ _ (VF.of [(1, boxP b1 0), (2, boxP b2 0), (4, v6), (5, v17), (6, .int .i64 k_15), (7, v23), (10, .int .i64 least_65), (11, .int .i64 v_66)]) [box b1 [.int .i64 n_0.Nodes, n_0_Arcsv], ro n_0_Arcsv 4 (n_0.Arcs.map S_api_Arc.enc), box b2 [.slice none 0 0, .bool false, .int .i64 0], row v6 1 (x_16.map eBool), row v17 1 (out_14.map (eInt .i64)), row v23 1 (x_39.map eBool)]
     refine run_seq ?_
     refine run_seq ?_
     refine run_region' ?_
     refine oy rfl rfl (y_move rfl) ?_
     refine oy rfl rfl (y_geq rfl rfl) ?_
     refine ops_nil ?_
     refine goes_code ?_
     refine run_cond (decide (0 ≤ v_66)) rfl (fun hc71 => ?_) (fun hc71 => ?_)
     ·replace h := cond_t h hc71
      refine run_skip ?_
      refine goes_code ?_
      obtain ⟨o73, h, ho74⟩ := bindJ_some h
      refine run_cut ((Int) × (Unit)) (fun σ => [(1, boxP b1 0), (2, boxP b2 0), (4, v6), (5, v17), (6, .int .i64 k_15), (7, v23), (10, .int .i64 σ.1), (11, .int .i64 v_66)]) (fun σ => [box b1 [.int .i64 n_0.Nodes, n_0_Arcsv], ro n_0_Arcsv 4 (n_0.Arcs.map S_api_Arc.enc), box b2 [.slice none 0 0, .bool false, .int .i64 0], row v6 1 (x_16.map eBool), row v17 1 (out_14.map (eInt .i64)), row v23 1 (x_39.map eBool)]) (fun σ => o73 = .go σ.1) (fun L76 hL75 => ?_) ?_
      ·
       refine run_block ?_
       refine run_seq ?_
       refine run_region' ?_
       refine oy rfl rfl (y_move rfl) ?_
       refine oy rfl rfl (y_move rfl) ?_
       obtain ⟨x77, hzx77, hlx77, hxx77, h⟩ := idx_some h
       refine oy rfl rfl (y_indexAddrI (kd := .i64) (i := v_66) 5 Try.runUnderlying27 Try.sizeOf4 rfl rfl rfl reads_row hzx77 (map_lt hlx77)) ?_
       refine oy rfl rfl (y_load_elem (i := v_66.toNat) 5 Try.isAgg4 rfl rfl reads_row (map_get hxx77)) ?_
       refine ops_nil ?_
       refine goes_code ?_
       refine run_cond x77 rfl (fun hc78 => ?_) (fun hc78 => ?_)
       ·replace h := cond_t h hc78
        refine run_region' ?_
        refine oy rfl rfl (y_move rfl) ?_
        refine oy rfl rfl (y_assign rfl) ?_
        refine ops_nil ?_
        refine goes_blk ?_
        obtain rfl := some_eq h
        exact goes_cut hL75 (v_66, ()) [0, 1, 2, 3, 4, 5] (vcons rfl (vcons rfl (vcons rfl (vcons rfl (vcons rfl (vcons rfl (vcons rfl (vcons rfl (vnil))))))))) (by decide) rfl rfl
       ·replace h := cond_f h hc78
        refine run_skip ?_
        refine goes_blk ?_
        obtain rfl := some_eq h
        exact goes_cut hL75 (least_65, ()) [0, 1, 2, 3, 4, 5] (vcons rfl (vcons rfl (vcons rfl (vcons rfl (vcons rfl (vcons rfl (vcons rfl (vcons rfl (vnil))))))))) (by decide) rfl rfl
      rintro ⟨least_72, _⟩ hj
      obtain rfl : o73 = _ := hj
      replace h := after_go ho74
      clear ho74
      change Run _ _ _ (VF.of [(1, boxP b1 0), (2, boxP b2 0), (4, v6), (5, v17), (6, .int .i64 k_15), (7, v23), (10, .int .i64 least_72), (11, .int .i64 v_66)]) [box b1 [.int .i64 n_0.Nodes, n_0_Arcsv], ro n_0_Arcsv 4 (n_0.Arcs.map S_api_Arc.enc), box b2 [.slice none 0 0, .bool false, .int .i64 0], row v6 1 (x_16.map eBool), row v17 1 (out_14.map (eInt .i64)), row v23 1 (x_39.map eBool)]
      refine run_region' ?_
      refine oy rfl rfl (y_move rfl) ?_
      refine oy rfl rfl (y_sub rfl rfl) ?_
      refine oy rfl rfl (y_assign rfl) ?_
      refine ops_nil ?_
      obtain rfl := some_eq h
      exact goes_iter hgo68 (least_72, (IntKind.i64.wrap (v_66 - 1))) () [0, 1, 2, 3, 4, 5] rfl (vcons rfl (vcons rfl (vcons rfl (vcons rfl (vcons rfl (vcons rfl (vcons rfl (vcons rfl (vnil))))))))) (by decide) rfl
     ·replace h := cond_f h hc71
      refine run_exit _ rfl ?_
      obtain rfl := some_eq h
      obtain rfl := hstop69 _ rfl
      exact goes_cut hL63 (least_65, ()) [0, 1, 2, 3, 4] (vcons rfl (vcons rfl (vcons rfl (vcons rfl (vcons rfl (vcons rfl (vnil))))))) (by decide) rfl rfl
    rintro ⟨least_60, _⟩ hj
    obtain rfl : o61 = _ := hj
    replace h := after_go ho62
    clear ho62
    change Run _ _ _ (VF.of [(1, boxP b1 0), (2, boxP b2 0), (4, v6), (5, v17), (6, .int .i64 k_15), (10, .int .i64 least_60)]) [box b1 [.int .i64 n_0.Nodes, n_0_Arcsv], ro n_0_Arcsv 4 (n_0.Arcs.map S_api_Arc.enc), box b2 [.slice none 0 0, .bool false, .int .i64 0], row v6 1 (x_16.map eBool), row v17 1 (out_14.map (eInt .i64))]
    refine run_seq ?_
    refine run_seq ?_
    refine run_region' ?_
    refine oy rfl rfl (y_move rfl) ?_
    refine oy rfl rfl (y_lss rfl rfl) ?_
    refine ops_nil ?_
    refine goes_code ?_
    refine run_cond (decide (least_60 < 0)) rfl (fun hc79 => ?_) (fun hc79 => ?_)
    ·replace h := cond_t h hc79
     refine run_seq ?_
     refine run_region' ?_
     refine oy rfl rfl (y_build_struct (cells := #[.slice none 0 0, .bool false, .int .i64 0]) [] [] Try.zeroValue44 Try.runUnderlying44 (fs_cons Try.sizeOf34 (fs_cons Try.sizeOf4 (fs_cons Try.sizeOf28 fs_nil))) rfl rfl rfl) ?_
     refine ot rfl rfl (t_store 2 Try.sizeOf44 rfl rfl rfl rfl (by simp [Value.cells, boxP]) (by simp [Value.cells, Value.oneCell', boxP])) ?_
     rintro _ _ ⟨rfl, rfl⟩
     refine ops_turn (retell 2 (g := box b2 [.slice none 0 0, .bool false, .int .i64 0]) rfl rfl) ?_
     refine ops_nil ?_
     refine goes_code ?_
     refine run_ret ?_
     refine fin_turn (nilrow 1) ?_
     refine fin_turn (retell 5 (g := row (.slice none 0 0) 1 (([] : List Int).map (eInt .i64))) rfl rfl) ?_
     obtain rfl := some_eq h
     obtain rfl := hstop20 _ rfl
     skip
     obtain rfl := after_stop ho11
     refine fin_res [.cell 2 44] [.agg #[(.slice none 0 0), .bool false, .int .i64 0]] [5] [row (.slice none 0 0) 1 (([] : List Int).map (eInt .i64))] Try.results16 rfl (rescons (res_box 2 Try.isAgg44 Try.sizeOf44 rfl rfl rfl) resnil) (by decide) rfl ?_
     exact ⟨_, rfl, rfl⟩
    ·replace h := cond_f h hc79
     refine run_skip ?_
     refine goes_code ?_
     refine run_seq ?_
     refine run_region' ?_
     refine oy rfl rfl (y_move rfl) ?_
     refine oy rfl rfl (y_move rfl) ?_
     obtain ⟨x80, hzx80, hlx80, hxx80, h⟩ := idx_some h
     refine oy rfl rfl (y_indexAddrI (kd := .i64) (i := least_60) 3 Try.runUnderlying27 Try.sizeOf4 rfl rfl rfl reads_row hzx80 (map_lt hlx80)) ?_
     refine ot rfl rfl (t_store_row (i := least_60.toNat) (j := 0) (c := eBool x80) 3 Try.sizeOf4 rfl rfl rfl rfl (map_get hxx80) (by decide) (by simp [Value.cells, Value.oneCell', boxP])) ?_
     rintro _ _ ⟨rfl, rfl⟩
     refine ops_turn (retell 3 (g := row v6 1 ((x_16.set least_60.toNat true).map eBool)) rfl (congrArg (row _ _) (map_set_at rfl))) ?_
     refine ops_nil ?_
     refine goes_code ?_
     refine run_region' ?_
     refine oy rfl rfl (y_move rfl) ?_
     refine oy rfl rfl (y_move rfl) ?_
     refine ot rfl rfl (t_lit [.int .i64 least_60] Try.runUnderlying34 Try.sizeOf3 Try.zeroValue3 rfl (by decide) (by decide) rfl (by simp [Value.cells, boxP])) ?_
     rintro v81 _ ⟨rfl, _⟩
     refine ops_turn (retell 5 (g := row v81 1 (([least_60] : List Int).map (eInt .i64))) rfl rfl) ?_
     obtain ⟨hr83, h⟩ := need_some h
     refine ot rfl rfl (t_append (es := 1) 4 rfl Try.runUnderlying34 rfl Try.runUnderlying34 (.inr ⟨_, rfl⟩) Try.typeInfo3 rfl (by decide) Try.zeroValue3 rfl rfl rfl rfl (src_reads 5 rfl reads_row (map_ok (eInt_ok _) _)) (map_room hr83 (by decide)) (map_fit hr83)) ?_
     rintro v82 _ rfl
     refine ops_turn (retell 4 (g := row v82 1 ((out_14 ++ ([least_60] : List Int)).map (eInt .i64))) rfl (congrArg (row _ _) List.map_append.symm)) ?_
     refine oy rfl rfl (y_assign rfl) ?_
     refine ops_nil ?_
     refine goes_blk ?_
     refine goes_code ?_
     refine run_weak [(1, boxP b1 0), (2, boxP b2 0), (4, v6), (5, v82), (6, .int .i64 k_15)] [0, 1, 2, 3, 4] [box b1 [.int .i64 n_0.Nodes, n_0_Arcsv], ro n_0_Arcsv 4 (n_0.Arcs.map S_api_Arc.enc), box b2 [.slice none 0 0, .bool false, .int .i64 0], row v6 1 ((x_16.set least_60.toNat true).map eBool), row v82 1 ((out_14 ++ ([least_60] : List Int)).map (eInt .i64))] (vcons rfl (vcons rfl (vcons rfl (vcons rfl (vcons rfl (vnil)))))) (by decide) rfl ?_
     refine run_region' ?_
     refine oy rfl rfl (y_move rfl) ?_
     refine oy rfl rfl (y_add rfl rfl) ?_
     refine oy rfl rfl (y_assign rfl) ?_
     refine ops_nil ?_
     obtain rfl := some_eq h
     exact goes_iter hgo19 ((out_14 ++ ([least_60] : List Int)), (IntKind.i64.wrap (k_15 + 1)), (x_16.set least_60.toNat true)) v82 [0, 1, 2, 3, 4] rfl (vcons rfl (vcons rfl (vcons rfl (vcons rfl (vcons rfl (vnil)))))) (by decide) rfl
   ·replace h := cond_f h hc22
    refine run_exit _ rfl ?_
    obtain rfl := some_eq h
    obtain rfl := hstop20 _ rfl
    exact goes_cut hL12 (out_14, v17) [2, 4] (vcons rfl (vcons rfl (vnil))) (by decide) rfl rfl
  rintro ⟨out_8, v9⟩ hj
  obtain rfl : o10 = _ := hj
  replace h := after_go ho11
  clear ho11
  change Run _ _ _ (VF.of [(2, boxP b2 0), (5, v9)]) [box b2 [.slice none 0 0, .bool false, .int .i64 0], row v9 1 (out_8.map (eInt .i64))]
  refine run_seq ?_
  refine run_region' ?_
  refine oy rfl rfl (y_move rfl) ?_
  refine ops_slc 1 rfl reads_row (fun hs84 hs84o => ?_)
  refine oy rfl rfl (y_build_struct (cells := #[v9, .bool true, .int .i64 0]) [(0, v9), (1, .bool true)] [(0, [v9]), (1, [.bool true])] Try.zeroValue44 Try.runUnderlying44 (fs_cons Try.sizeOf34 (fs_cons Try.sizeOf4 (fs_cons Try.sizeOf28 fs_nil))) rfl (by first | (simp only [List.map_cons, List.map_nil, hs84]; done) | (simp only [List.map_cons, List.map_nil, hs84]; rfl)) rfl) ?_
  refine ops_slc 1 rfl reads_row (fun hs85 hs85o => ?_)
  refine ot rfl rfl (t_store 0 Try.sizeOf44 rfl rfl rfl rfl (by simp [Value.cells, boxP]) (by intro u hu; replace hu : u ∈ ([v9, .bool true, .int .i64 0] : List Value) := hu; simp only [List.mem_cons, List.not_mem_nil, or_false] at hu; rcases hu with rfl | rfl | rfl <;> first | rfl | assumption)) ?_
  rintro _ _ ⟨rfl, rfl⟩
  refine ops_turn (retell 0 (g := box b2 [v9, .bool true, .int .i64 0]) rfl rfl) ?_
  refine ops_nil ?_
  refine goes_code ?_
  refine run_ret ?_
  obtain rfl := some_eq h
  refine fin_res [.cell 2 44] [.agg #[v9, .bool true, .int .i64 0]] [1] [row v9 1 (out_8.map (eInt .i64))] Try.results16 rfl (rescons (res_box 0 Try.isAgg44 Try.sizeOf44 rfl rfl rfl) resnil) (by decide) rfl ?_
  exact ⟨_, rfl, rfl⟩

def ref09_walk_L1 (n_0 : S_api_Net) (l_1 : (List Int)) : (Int × (List Bool)) → Option (Lp (Int × (List Bool)) (Lp (Unit) (Bool))) :=
 fun (i_9, x_10) =>
  cond (decide (i_9 < (l_1.length : Int)))
   (idx l_1 i_9 fun x16 =>
   cond (decide (x16 < 0) || decide ((n_0.Arcs.length : Int) ≤ x16))
    (some (.stop (.stop false)))
    (idx l_1 i_9 fun x21 =>
    idx n_0.Arcs x21 fun x22 =>
    need ((l_1.length : Int) ≠ 0) (
    idx l_1 ((IntKind.i64.wrap ((IntKind.i64.wrap (i_9 + (l_1.length : Int))) - 1)).tmod (l_1.length : Int)) fun x25 =>
    bindJ (S := Bool)
     (cond (decide (x25 < 0) || decide ((n_0.Arcs.length : Int) ≤ x25))
      (some (.go true))
      (idx n_0.Arcs x25 fun x35 =>
      some (.go (decide (x35.To ≠ x22.From)))))
    (fun b29 =>
     bindJ (S := Bool)
      (cond b29
       (some (.go true))
       (idx x_10 x22.From fun x42 =>
       some (.go x42)))
     (fun b36 =>
      cond b36
       (some (.stop (.stop false)))
       (idx x_10 x22.From fun x44 =>
       some (.go ((IntKind.i64.wrap (i_9 + 1)), (x_10.set ((x22.From).toNat) true)))))))))
   (some (.stop (.go ())))
def ref09_walk (n : Nat) (n_0 : S_api_Net) (l_1 : (List Int)) : Option (Bool) :=
 cond (decide ((l_1.length : Int) = 0))
  (some false)
  (need (0 ≤ n_0.Nodes ∧ n_0.Nodes ≤ 4294967296) (
  bindJ (S := Unit)
   (iter (ref09_walk_L1 n_0 l_1) n (0, (List.replicate (n_0.Nodes).toNat (false : Bool))))
  (fun _ =>
   some true)))
theorem ref09_walk_ok (n : Nat) (n_0 : S_api_Net) (l_1 : (List Int)) (n_0_Arcsv : Value) (l_1v : Value) {r : Bool} (h : ref09_walk n n_0 l_1 = some r) :
  Meets Try.prog 47 [.agg #[.int .i64 n_0.Nodes, n_0_Arcsv], l_1v] [ro n_0_Arcsv 4 (n_0.Arcs.map S_api_Arc.enc), ro l_1v 1 (l_1.map (eInt .i64))] (fun v G => v = .bool r ∧ G = []) := by
 refine fn_of_run Try.func47 rfl Try.ntmps47 rfl (fun w0 o0 => ?_)
 refine run_seq ?_
 refine run_region' ?_
 refine ot rfl rfl (t_box rfl) ?_
 rintro _ _ ⟨b1, rfl, rfl⟩
 refine oy rfl rfl (y_assign rfl) ?_
 refine ops_nil ?_
 refine goes_code ?_
 refine run_seq ?_
 refine run_seq ?_
 refine run_region' ?_
 refine oy rfl rfl (y_move rfl) ?_
 refine oy rfl rfl ((y_len 1 rfl Try.runUnderlying34 rfl rfl reads_ro).to (v_len (eInt .i64) _)) ?_
 refine oy rfl rfl (y_eql rfl rfl) ?_
 refine ops_nil ?_
 refine goes_code ?_
 refine run_cond (decide ((l_1.length : Int) = 0)) rfl (fun hc2 => ?_) (fun hc2 => ?_)
 ·replace h := cond_t h hc2
  refine run_seq ?_
  refine run_region' ?_
  refine oy rfl rfl (y_assign rfl) ?_
  refine ops_nil ?_
  refine goes_code ?_
  refine run_ret ?_
  obtain rfl := some_eq h
  refine fin_slots [4] [.bool false] [] [] Try.results47 rfl (by decide) rfl ?_
  exact ⟨rfl, rfl⟩
 ·replace h := cond_f h hc2
  refine run_skip ?_
  refine goes_code ?_
  refine run_seq ?_
  refine run_region' ?_
  refine oy rfl rfl (y_fieldAddr_box (sz := 0) Try.runUnderlying24 rfl Try.sizeOf3 rfl) ?_
  refine oy rfl rfl (y_load_box 2 Try.isAgg3 rfl rfl rfl) ?_
  obtain ⟨hm4, h⟩ := need_some h
  refine ot rfl rfl (t_makeSlice (es := 1) Try.runUnderlying27 Try.typeInfo4 rfl Try.zeroValue4 rfl (by decide) rfl rfl hm4.1 hm4.2 (by decide)) ?_
  rintro v3 _ rfl
  refine ops_turn (retell 3 (g := row v3 1 ((List.replicate (n_0.Nodes).toNat (false : Bool)).map eBool)) rfl (congrArg (row _ _) (map_rep rfl))) ?_
  refine oy rfl rfl (y_assign rfl) ?_
  refine ops_nil ?_
  refine goes_code ?_
  obtain ⟨o5, h, ho6⟩ := bindJ_some h
  refine run_cut ((Unit) × (Unit)) (fun σ => []) (fun σ => []) (fun σ => o5 = .go σ.1) (fun L8 hL7 => ?_) ?_
  ·
   refine run_seq ?_
   refine run_weak [(1, l_1v), (2, boxP b1 0), (5, v3)] [0, 1, 2, 3] [ro n_0_Arcsv 4 (n_0.Arcs.map S_api_Arc.enc), ro l_1v 1 (l_1.map (eInt .i64)), box b1 [.int .i64 n_0.Nodes, n_0_Arcsv], row v3 1 ((List.replicate (n_0.Nodes).toNat (false : Bool)).map eBool)] (vcons rfl (vcons rfl (vcons rfl (vnil)))) (by decide) rfl ?_
   refine run_region' ?_
   refine oy rfl rfl (y_assign rfl) ?_
   refine ops_nil ?_
   refine goes_code ?_
   refine run_block ?_
   refine run_iter (step := ref09_walk_L1 n_0 l_1) (n := n) (s0 := (0, (List.replicate (n_0.Nodes).toNat (false : Bool)))) h (G := Unit) () (fun σ γ => [(1, l_1v), (2, boxP b1 0), (5, v3), (6, .int .i64 σ.1)]) (fun σ γ => [ro l_1v 1 (l_1.map (eInt .i64)), box b1 [.int .i64 n_0.Nodes, n_0_Arcsv], ro n_0_Arcsv 4 (n_0.Arcs.map S_api_Arc.enc), row v3 1 (σ.2.map eBool)]) [1, 2, 0, 3] (vcons rfl (vcons rfl (vcons rfl (vcons rfl (vnil))))) (by decide) rfl ?_
   rintro ⟨i_9, x_10⟩ _ o11 h L14 hgo12 hstop13
   change Run _ _ _ (VF.of [(1, l_1v), (2, boxP b1 0), (5, v3), (6, .int .i64 i_9)]) [ro l_1v 1 (l_1.map (eInt .i64)), box b1 [.int .i64 n_0.Nodes, n_0_Arcsv], ro n_0_Arcsv 4 (n_0.Arcs.map S_api_Arc.enc), row v3 1 (x_10.map eBool)]
   refine run_seq ?_
   refine run_seq ?_
   refine run_region' ?_
   refine oy rfl rfl (y_move rfl) ?_
   refine oy rfl rfl (y_move rfl) ?_
   refine oy rfl rfl ((y_len 0 rfl Try.runUnderlying34 rfl rfl reads_ro).to (v_len (eInt .i64) _)) ?_
   refine oy rfl rfl (y_lss rfl rfl) ?_
   refine ops_nil ?_
   refine goes_code ?_
   refine run_cond (decide (i_9 < (l_1.length : Int))) rfl (fun hc15 => ?_) (fun hc15 => ?_)
   ·replace h := cond_t h hc15
    refine run_skip ?_
    refine goes_code ?_
    refine run_seq ?_
    refine run_block ?_
    refine run_seq ?_
    refine run_seq ?_
    refine run_draw (by kernel_rfl) (by kernel_rfl) ?_
    refine sy rfl rfl (y_move rfl) ?_
    refine sy rfl rfl (y_move rfl) ?_
    obtain ⟨x16, hzx16, hlx16, hxx16, h⟩ := idx_some h
    refine sy rfl rfl (y_indexAddrI (kd := .i64) (i := i_9) 0 Try.runUnderlying34 Try.sizeOf3 rfl rfl rfl reads_ro hzx16 (map_lt hlx16)) ?_
    refine sy rfl rfl (y_load_elem (i := i_9.toNat) 0 Try.isAgg3 rfl rfl reads_ro (map_get hxx16)) ?_
    refine sy rfl rfl (y_lss rfl rfl) ?_
    refine sy rfl rfl (y_move rfl) ?_
    refine still_cut 9 (Bool) (fun σ => [(1, l_1v), (2, boxP b1 0), (5, v3), (6, .int .i64 i_9), (35, .bool σ)]) (fun σ => [ro l_1v 1 (l_1.map (eInt .i64)), box b1 [.int .i64 n_0.Nodes, n_0_Arcsv], ro n_0_Arcsv 4 (n_0.Arcs.map S_api_Arc.enc), row v3 1 (x_10.map eBool)]) (fun σ => σ = (decide (x16 < 0) || decide ((n_0.Arcs.length : Int) ≤ x16))) (fun L17 hL18 => ?_) ?_
    ·refine still_split 26 (decide (x16 < 0)) rfl (fun hg19 => ?_) (fun hg19 => ?_)
     ·skip
      refine still_no 5 false 26 rfl rfl rfl rfl rfl ?_
      refine still_no 5 false 26 rfl rfl rfl rfl rfl ?_
      refine still_no 5 false 26 rfl rfl rfl rfl rfl ?_
      refine still_no 5 false 26 rfl rfl rfl rfl rfl ?_
      refine still_no 5 false 26 rfl rfl rfl rfl rfl ?_
      refine still_no 5 false 26 rfl rfl rfl rfl rfl ?_
      refine still_no 5 false 26 rfl rfl rfl rfl rfl ?_
      refine still_no 5 false 26 rfl rfl rfl rfl rfl ?_
      refine sy rfl rfl (y_pick (b := true) rfl rfl) ?_
      refine still_nil ?_
      exact goes_cut hL18 true [0, 1, 2, 3] (vcons rfl (vcons rfl (vcons rfl (vcons rfl (vcons rfl (vnil)))))) (by decide) rfl (by rw [hg19]; simp)
     ·skip
      refine still_y (wg 5 false 26 rfl rfl rfl rfl) rfl (y_move rfl) ?_
      refine still_y (wg 5 false 26 rfl rfl rfl rfl) rfl (y_move rfl) ?_
      refine still_y (wg 5 false 26 rfl rfl rfl rfl) rfl (y_indexAddrI (kd := .i64) (i := i_9) 0 Try.runUnderlying34 Try.sizeOf3 rfl rfl rfl reads_ro hzx16 (map_lt hlx16)) ?_
      refine still_y (wg 5 false 26 rfl rfl rfl rfl) rfl (y_load_elem (i := i_9.toNat) 0 Try.isAgg3 rfl rfl reads_ro (map_get hxx16)) ?_
      refine still_y (wg 5 false 26 rfl rfl rfl rfl) rfl (y_fieldAddr_box (sz := 0) Try.runUnderlying24 rfl Try.sizeOf22 rfl) ?_
      refine still_y (wg 5 false 26 rfl rfl rfl rfl) rfl (y_load_box 1 Try.isAgg22 rfl rfl rfl) ?_
      refine still_y (wg 5 false 26 rfl rfl rfl rfl) rfl ((y_len 2 rfl Try.runUnderlying22 rfl rfl reads_ro).to (v_len S_api_Arc.enc _)) ?_
      refine still_y (wg 5 false 26 rfl rfl rfl rfl) rfl (y_geq rfl rfl) ?_
      refine sy rfl rfl (y_pick (b := false) rfl rfl) ?_
      refine still_nil ?_
      exact goes_cut hL18 (decide ((n_0.Arcs.length : Int) ≤ x16)) [0, 1, 2, 3] (vcons rfl (vcons rfl (vcons rfl (vcons rfl (vcons rfl (vnil)))))) (by decide) rfl (by rw [hg19]; simp)
    rintro _ rfl
    refine still_nil ?_
    refine goes_code ?_
    refine run_cond (decide (x16 < 0) || decide ((n_0.Arcs.length : Int) ≤ x16)) rfl (fun hc20 => ?_) (fun hc20 => ?_)
    ·replace h := cond_t h hc20
     refine run_seq ?_
     refine run_region' ?_
     refine oy rfl rfl (y_assign rfl) ?_
     refine ops_nil ?_
     refine goes_code ?_
     refine run_ret ?_
     obtain rfl := some_eq h
     obtain rfl := hstop13 _ rfl
     skip
     obtain rfl := after_stop ho6
     refine fin_slots [4] [.bool false] [] [] Try.results47 rfl (by decide) rfl ?_
     exact ⟨rfl, rfl⟩
    ·replace h := cond_f h hc20
     refine run_skip ?_
     refine goes_code ?_
     refine run_seq ?_
     refine run_drawany [ro l_1v 1 (l_1.map (eInt .i64)), box b1 [.int .i64 n_0.Nodes, n_0_Arcsv], ro n_0_Arcsv 4 (n_0.Arcs.map S_api_Arc.enc), row v3 1 (x_10.map eBool)] (by kernel_rfl) ?_
     refine any_y 0 rfl (by kernel_rfl) (by kernel_rfl) (by kernel_rfl) (ss (ss (ss (ss (sn))))) (wn rfl) rfl (y_fieldAddr_box (sz := 0) Try.runUnderlying24 rfl Try.sizeOf22 rfl) ?_
     refine any_y 1 rfl (by kernel_rfl) (by kernel_rfl) (by kernel_rfl) (ss (ss (ss (ss (sn))))) (wn rfl) rfl (y_load_box 1 Try.isAgg22 rfl rfl rfl) ?_
     refine any_y 2 rfl (by kernel_rfl) (by kernel_rfl) (by kernel_rfl) (ss (ss (ss (ss (sn))))) (wn rfl) rfl (y_move rfl) ?_
     refine any_y 3 rfl (by kernel_rfl) (by kernel_rfl) (by kernel_rfl) (ss (ss (ss (ss (sn))))) (wn rfl) rfl (y_move rfl) ?_
     obtain ⟨x21, hzx21, hlx21, hxx21, h⟩ := idx_some h
     refine any_y 4 rfl (by kernel_rfl) (by kernel_rfl) (by kernel_rfl) (ss (ss (ss (ss (sn))))) (wn rfl) rfl (y_indexAddrI (kd := .i64) (i := i_9) 0 Try.runUnderlying34 Try.sizeOf3 rfl rfl rfl reads_ro hzx21 (map_lt hlx21)) ?_
     refine any_y 5 rfl (by kernel_rfl) (by kernel_rfl) (by kernel_rfl) (ss (ss (ss (ss (sn))))) (wn rfl) rfl (y_load_elem (i := i_9.toNat) 0 Try.isAgg3 rfl rfl reads_ro (map_get hxx21)) ?_
     obtain ⟨x22, hzx22, hlx22, hxx22, h⟩ := idx_some h
     refine any_y 6 rfl (by kernel_rfl) (by kernel_rfl) (by kernel_rfl) (ss (ss (ss (ss (sn))))) (wn rfl) rfl (y_indexAddrI (kd := .i64) (i := x21) 2 Try.runUnderlying22 Try.sizeOf67 rfl rfl rfl reads_ro hzx22 (map_lt hlx22)) ?_
     refine any_y 7 rfl (by kernel_rfl) (by kernel_rfl) (by kernel_rfl) (ss (ss (ss (ss (sn))))) (wn rfl) rfl (y_load_agg (i := x21.toNat) (c := [.int .i64 x22.From, .int .i64 x22.To, .int .i64 x22.Cap, .int .i64 x22.Cost]) 2 Try.isAgg67 Try.sizeOf67 rfl rfl reads_ro (map_get hxx22)) ?_
     refine any_all [8] (by kernel_rfl) rfl (anyo_cons ?_ anyo_nil)
     refine any_t rfl (wn rfl) rfl (t_alloc Try.zeroValue67) ?_
     rintro _ _ ⟨b23, rfl, rfl⟩
     refine ⟨(ss (ss (ss (ss (sn))))), ?_⟩
     refine any_all [9] (by kernel_rfl) rfl (anyo_cons ?_ anyo_nil)
     refine any_t rfl (wn rfl) rfl (t_store 4 Try.sizeOf67 rfl rfl rfl rfl (by simp [Value.cells, boxP]) (by simp [Value.cells, Value.oneCell', boxP])) ?_
     rintro _ _ ⟨rfl, rfl⟩
     refine ⟨(ss (ss (ss (ss (sn))))), ?_⟩
     refine any_turn (retell 4 (g := box b23 [.int .i64 x22.From, .int .i64 x22.To, .int .i64 x22.Cap, .int .i64 x22.Cost]) rfl rfl) ?_
     refine any_nil (by kernel_rfl) ?_
     refine goes_code ?_
     refine run_seq ?_
     refine run_weak [(1, l_1v), (2, boxP b1 0), (5, v3), (6, .int .i64 i_9), (7, boxP b23 0)] [0, 1, 2, 3, 4] [ro l_1v 1 (l_1.map (eInt .i64)), box b1 [.int .i64 n_0.Nodes, n_0_Arcsv], ro n_0_Arcsv 4 (n_0.Arcs.map S_api_Arc.enc), row v3 1 (x_10.map eBool), box b23 [.int .i64 x22.From, .int .i64 x22.To, .int .i64 x22.Cap, .int .i64 x22.Cost]] (vcons rfl (vcons rfl (vcons rfl (vcons rfl (vcons rfl (vnil)))))) (by decide) rfl ?_
     refine run_region' ?_
     refine oy rfl rfl (y_move rfl) ?_
     refine oy rfl rfl (y_move rfl) ?_
     refine oy rfl rfl (y_move rfl) ?_
     refine oy rfl rfl ((y_len 0 rfl Try.runUnderlying34 rfl rfl reads_ro).to (v_len (eInt .i64) _)) ?_
     refine oy rfl rfl (y_add rfl rfl) ?_
     refine oy rfl rfl (y_sub rfl rfl) ?_
     refine oy rfl rfl (y_move rfl) ?_
     refine oy rfl rfl ((y_len 0 rfl Try.runUnderlying34 rfl rfl reads_ro).to (v_len (eInt .i64) _)) ?_
     obtain ⟨hd24, h⟩ := need_some h
     refine oy rfl rfl (y_rem rfl rfl hd24) ?_
     obtain ⟨x25, hzx25, hlx25, hxx25, h⟩ := idx_some h
     refine oy rfl rfl (y_indexAddrI (kd := .i64) (i := ((IntKind.i64.wrap ((IntKind.i64.wrap (i_9 + (l_1.length : Int))) - 1)).tmod (l_1.length : Int))) 0 Try.runUnderlying34 Try.sizeOf3 rfl rfl rfl reads_ro hzx25 (map_lt hlx25)) ?_
     refine oy rfl rfl (y_load_elem (i := (((IntKind.i64.wrap ((IntKind.i64.wrap (i_9 + (l_1.length : Int))) - 1)).tmod (l_1.length : Int))).toNat) 0 Try.isAgg3 rfl rfl reads_ro (map_get hxx25)) ?_
     refine oy rfl rfl (y_assign rfl) ?_
     refine ops_nil ?_
     refine goes_code ?_
     refine run_seq ?_
     refine run_seq ?_
     refine run_weak [(1, l_1v), (2, boxP b1 0), (5, v3), (6, .int .i64 i_9), (7, boxP b23 0), (8, .int .i64 x25)] [0, 1, 2, 3, 4] [ro l_1v 1 (l_1.map (eInt .i64)), box b1 [.int .i64 n_0.Nodes, n_0_Arcsv], ro n_0_Arcsv 4 (n_0.Arcs.map S_api_Arc.enc), row v3 1 (x_10.map eBool), box b23 [.int .i64 x22.From, .int .i64 x22.To, .int .i64 x22.Cap, .int .i64 x22.Cost]] (vcons rfl (vcons rfl (vcons rfl (vcons rfl (vcons rfl (vcons rfl (vnil))))))) (by decide) rfl ?_
     refine run_draw (by kernel_rfl) (by kernel_rfl) ?_
     refine sy rfl rfl (y_move rfl) ?_
     refine sy rfl rfl (y_lss rfl rfl) ?_
     refine sy rfl rfl (y_move rfl) ?_
     refine still_cut 6 (Bool) (fun σ => [(1, l_1v), (2, boxP b1 0), (5, v3), (6, .int .i64 i_9), (7, boxP b23 0), (8, .int .i64 x25), (63, .bool σ)]) (fun σ => [ro l_1v 1 (l_1.map (eInt .i64)), box b1 [.int .i64 n_0.Nodes, n_0_Arcsv], ro n_0_Arcsv 4 (n_0.Arcs.map S_api_Arc.enc), row v3 1 (x_10.map eBool), box b23 [.int .i64 x22.From, .int .i64 x22.To, .int .i64 x22.Cap, .int .i64 x22.Cost]]) (fun σ => σ = (decide (x25 < 0) || decide ((n_0.Arcs.length : Int) ≤ x25))) (fun L26 hL27 => ?_) ?_
     ·refine still_split 57 (decide (x25 < 0)) rfl (fun hg28 => ?_) (fun hg28 => ?_)
      ·skip
       refine still_no 2 false 57 rfl rfl rfl rfl rfl ?_
       refine still_no 2 false 57 rfl rfl rfl rfl rfl ?_
       refine still_no 2 false 57 rfl rfl rfl rfl rfl ?_
       refine still_no 2 false 57 rfl rfl rfl rfl rfl ?_
       refine still_no 2 false 57 rfl rfl rfl rfl rfl ?_
       refine sy rfl rfl (y_pick (b := true) rfl rfl) ?_
       refine still_nil ?_
       exact goes_cut hL27 true [0, 1, 2, 3, 4] (vcons rfl (vcons rfl (vcons rfl (vcons rfl (vcons rfl (vcons rfl (vcons rfl (vnil)))))))) (by decide) rfl (by rw [hg28]; simp)
      ·skip
       refine still_y (wg 2 false 57 rfl rfl rfl rfl) rfl (y_move rfl) ?_
       refine still_y (wg 2 false 57 rfl rfl rfl rfl) rfl (y_fieldAddr_box (sz := 0) Try.runUnderlying24 rfl Try.sizeOf22 rfl) ?_
       refine still_y (wg 2 false 57 rfl rfl rfl rfl) rfl (y_load_box 1 Try.isAgg22 rfl rfl rfl) ?_
       refine still_y (wg 2 false 57 rfl rfl rfl rfl) rfl ((y_len 2 rfl Try.runUnderlying22 rfl rfl reads_ro).to (v_len S_api_Arc.enc _)) ?_
       refine still_y (wg 2 false 57 rfl rfl rfl rfl) rfl (y_geq rfl rfl) ?_
       refine sy rfl rfl (y_pick (b := false) rfl rfl) ?_
       refine still_nil ?_
       exact goes_cut hL27 (decide ((n_0.Arcs.length : Int) ≤ x25)) [0, 1, 2, 3, 4] (vcons rfl (vcons rfl (vcons rfl (vcons rfl (vcons rfl (vcons rfl (vcons rfl (vnil)))))))) (by decide) rfl (by rw [hg28]; simp)
     rintro _ rfl
     refine sy rfl rfl (y_move rfl) ?_
     obtain ⟨o30, h, ho31⟩ := bindJ_some h
     refine still_cut 10 (Bool) (fun σ => [(1, l_1v), (2, boxP b1 0), (5, v3), (6, .int .i64 i_9), (7, boxP b23 0), (74, .bool σ)]) (fun σ => [ro l_1v 1 (l_1.map (eInt .i64)), box b1 [.int .i64 n_0.Nodes, n_0_Arcsv], ro n_0_Arcsv 4 (n_0.Arcs.map S_api_Arc.enc), row v3 1 (x_10.map eBool), box b23 [.int .i64 x22.From, .int .i64 x22.To, .int .i64 x22.Cap, .int .i64 x22.Cost]]) (fun σ => o30 = .go σ) (fun L32 hL33 => ?_) ?_
     ·refine still_split 64 (decide (x25 < 0) || decide ((n_0.Arcs.length : Int) ≤ x25)) rfl (fun hg34 => ?_) (fun hg34 => ?_)
      ·replace h := cond_t h hg34
       refine still_no 9 false 64 rfl rfl rfl rfl rfl ?_
       refine still_no 9 false 64 rfl rfl rfl rfl rfl ?_
       refine still_no 9 false 64 rfl rfl rfl rfl rfl ?_
       refine still_no 9 false 64 rfl rfl rfl rfl rfl ?_
       refine still_no 9 false 64 rfl rfl rfl rfl rfl ?_
       refine still_no 9 false 64 rfl rfl rfl rfl rfl ?_
       refine still_no 9 false 64 rfl rfl rfl rfl rfl ?_
       refine still_no 9 false 64 rfl rfl rfl rfl rfl ?_
       refine still_no 9 false 64 rfl rfl rfl rfl rfl ?_
       refine sy rfl rfl (y_pick (b := true) rfl rfl) ?_
       refine still_nil ?_
       obtain rfl := some_eq h
       exact goes_cut hL33 true [0, 1, 2, 3, 4] (vcons rfl (vcons rfl (vcons rfl (vcons rfl (vcons rfl (vcons rfl (vnil))))))) (by decide) rfl rfl
      ·replace h := cond_f h hg34
       refine still_y (wg 9 false 64 rfl rfl rfl rfl) rfl (y_fieldAddr_box (sz := 0) Try.runUnderlying24 rfl Try.sizeOf22 rfl) ?_
       refine still_y (wg 9 false 64 rfl rfl rfl rfl) rfl (y_load_box 1 Try.isAgg22 rfl rfl rfl) ?_
       refine still_y (wg 9 false 64 rfl rfl rfl rfl) rfl (y_move rfl) ?_
       obtain ⟨x35, hzx35, hlx35, hxx35, h⟩ := idx_some h
       refine still_y (wg 9 false 64 rfl rfl rfl rfl) rfl (y_indexAddrI (kd := .i64) (i := x25) 2 Try.runUnderlying22 Try.sizeOf67 rfl rfl rfl reads_ro hzx35 (map_lt hlx35)) ?_
       refine still_y (wg 9 false 64 rfl rfl rfl rfl) rfl (y_fieldAddr_elem (sz := 0) Try.runUnderlying67 rfl Try.sizeOf3 rfl) ?_
       refine still_y (wg 9 false 64 rfl rfl rfl rfl) rfl (y_load_field (i := x25.toNat) (j := 1) 2 Try.isAgg3 rfl rfl reads_ro (map_get hxx35) rfl) ?_
       refine still_y (wg 9 false 64 rfl rfl rfl rfl) rfl (y_fieldAddr_box (sz := 0) Try.runUnderlying67 rfl Try.sizeOf3 rfl) ?_
       refine still_y (wg 9 false 64 rfl rfl rfl rfl) rfl (y_load_box 4 Try.isAgg3 rfl rfl rfl) ?_
       refine still_y (wg 9 false 64 rfl rfl rfl rfl) rfl (y_neq rfl rfl) ?_
       refine sy rfl rfl (y_pick (b := false) rfl rfl) ?_
       refine still_nil ?_
       obtain rfl := some_eq h
       exact goes_cut hL33 (decide (x35.To ≠ x22.From)) [0, 1, 2, 3, 4] (vcons rfl (vcons rfl (vcons rfl (vcons rfl (vcons rfl (vcons rfl (vnil))))))) (by decide) rfl rfl
     rintro b29 hj
     obtain rfl : o30 = _ := hj
     replace h := after_go ho31
     clear ho31
     refine sy rfl rfl (y_move rfl) ?_
     obtain ⟨o37, h, ho38⟩ := bindJ_some h
     refine still_cut 6 (Bool) (fun σ => [(1, l_1v), (2, boxP b1 0), (5, v3), (6, .int .i64 i_9), (7, boxP b23 0), (81, .bool σ)]) (fun σ => [ro l_1v 1 (l_1.map (eInt .i64)), box b1 [.int .i64 n_0.Nodes, n_0_Arcsv], ro n_0_Arcsv 4 (n_0.Arcs.map S_api_Arc.enc), row v3 1 (x_10.map eBool), box b23 [.int .i64 x22.From, .int .i64 x22.To, .int .i64 x22.Cap, .int .i64 x22.Cost]]) (fun σ => o37 = .go σ) (fun L39 hL40 => ?_) ?_
     ·refine still_split 75 b29 rfl (fun hg41 => ?_) (fun hg41 => ?_)
      ·replace h := cond_t h hg41
       refine still_no 20 false 75 rfl rfl rfl rfl rfl ?_
       refine still_no 20 false 75 rfl rfl rfl rfl rfl ?_
       refine still_no 20 false 75 rfl rfl rfl rfl rfl ?_
       refine still_no 20 false 75 rfl rfl rfl rfl rfl ?_
       refine still_no 20 false 75 rfl rfl rfl rfl rfl ?_
       refine sy rfl rfl (y_pick (b := true) rfl rfl) ?_
       refine still_nil ?_
       obtain rfl := some_eq h
       exact goes_cut hL40 true [0, 1, 2, 3, 4] (vcons rfl (vcons rfl (vcons rfl (vcons rfl (vcons rfl (vcons rfl (vnil))))))) (by decide) rfl rfl
      ·replace h := cond_f h hg41
       refine still_y (wg 20 false 75 rfl rfl rfl rfl) rfl (y_move rfl) ?_
       refine still_y (wg 20 false 75 rfl rfl rfl rfl) rfl (y_fieldAddr_box (sz := 0) Try.runUnderlying67 rfl Try.sizeOf3 rfl) ?_
       refine still_y (wg 20 false 75 rfl rfl rfl rfl) rfl (y_load_box 4 Try.isAgg3 rfl rfl rfl) ?_
       obtain ⟨x42, hzx42, hlx42, hxx42, h⟩ := idx_some h
       refine still_y (wg 20 false 75 rfl rfl rfl rfl) rfl (y_indexAddrI (kd := .i64) (i := x22.From) 3 Try.runUnderlying27 Try.sizeOf4 rfl rfl rfl reads_row hzx42 (map_lt hlx42)) ?_
       refine still_y (wg 20 false 75 rfl rfl rfl rfl) rfl (y_load_elem (i := (x22.From).toNat) 3 Try.isAgg4 rfl rfl reads_row (map_get hxx42)) ?_
       refine sy rfl rfl (y_pick (b := false) rfl rfl) ?_
       refine still_nil ?_
       obtain rfl := some_eq h
       exact goes_cut hL40 x42 [0, 1, 2, 3, 4] (vcons rfl (vcons rfl (vcons rfl (vcons rfl (vcons rfl (vcons rfl (vnil))))))) (by decide) rfl rfl
     rintro b36 hj
     obtain rfl : o37 = _ := hj
     replace h := after_go ho38
     clear ho38
     refine still_nil ?_
     refine goes_code ?_
     refine run_cond b36 rfl (fun hc43 => ?_) (fun hc43 => ?_)
     ·replace h := cond_t h hc43
      refine run_seq ?_
      refine run_region' ?_
      refine oy rfl rfl (y_assign rfl) ?_
      refine ops_nil ?_
      refine goes_code ?_
      refine run_ret ?_
      obtain rfl := some_eq h
      obtain rfl := hstop13 _ rfl
      skip
      obtain rfl := after_stop ho6
      refine fin_slots [4] [.bool false] [] [] Try.results47 rfl (by decide) rfl ?_
      exact ⟨rfl, rfl⟩
     ·replace h := cond_f h hc43
      refine run_skip ?_
      refine goes_code ?_
      refine run_region' ?_
      refine oy rfl rfl (y_move rfl) ?_
      refine oy rfl rfl (y_fieldAddr_box (sz := 0) Try.runUnderlying67 rfl Try.sizeOf3 rfl) ?_
      refine oy rfl rfl (y_load_box 4 Try.isAgg3 rfl rfl rfl) ?_
      obtain ⟨x44, hzx44, hlx44, hxx44, h⟩ := idx_some h
      refine oy rfl rfl (y_indexAddrI (kd := .i64) (i := x22.From) 3 Try.runUnderlying27 Try.sizeOf4 rfl rfl rfl reads_row hzx44 (map_lt hlx44)) ?_
      refine ot rfl rfl (t_store_row (i := (x22.From).toNat) (j := 0) (c := eBool x44) 3 Try.sizeOf4 rfl rfl rfl rfl (map_get hxx44) (by decide) (by simp [Value.cells, Value.oneCell', boxP])) ?_
      rintro _ _ ⟨rfl, rfl⟩
      refine ops_turn (retell 3 (g := row v3 1 ((x_10.set ((x22.From).toNat) true).map eBool)) rfl (congrArg (row _ _) (map_set_at rfl))) ?_
      refine ops_nil ?_
      refine goes_blk ?_
      refine goes_code ?_
      refine run_region' ?_
      refine oy rfl rfl (y_move rfl) ?_
      refine oy rfl rfl (y_add rfl rfl) ?_
      refine oy rfl rfl (y_assign rfl) ?_
      refine ops_nil ?_
      obtain rfl := some_eq h
      exact goes_iter hgo12 ((IntKind.i64.wrap (i_9 + 1)), (x_10.set ((x22.From).toNat) true)) () [0, 1, 2, 3] rfl (vcons rfl (vcons rfl (vcons rfl (vcons rfl (vnil))))) (by decide) rfl
   ·replace h := cond_f h hc15
    refine run_exit _ rfl ?_
    obtain rfl := some_eq h
    obtain rfl := hstop13 _ rfl
    exact goes_cut hL7 ((), ()) [] vnil (by decide) rfl rfl
  rintro ⟨_, _⟩ hj
  obtain rfl : o5 = _ := hj
  replace h := after_go ho6
  clear ho6
  change Run _ _ _ (VF.of []) []
  refine run_seq ?_
  refine run_region' ?_
  refine oy rfl rfl (y_assign rfl) ?_
  refine ops_nil ?_
  refine goes_code ?_
  refine run_ret ?_
  obtain rfl := some_eq h
  refine fin_slots [4] [.bool true] [] [] Try.results47 rfl (by decide) rfl ?_
  exact ⟨rfl, rfl⟩

def ref09_Cycle (n : Nat) (n_0 : S_api_Net) (l_1 : (List Int)) : Option (Bool) :=
 obind (ref09_walk n n_0 l_1) fun r2 =>
 some r2
theorem ref09_Cycle_ok (n : Nat) (n_0 : S_api_Net) (l_1 : (List Int)) (n_0_Arcsv : Value) (l_1v : Value) {r : Bool} (h : ref09_Cycle n n_0 l_1 = some r) :
  Meets Try.prog 21 [.agg #[.int .i64 n_0.Nodes, n_0_Arcsv], l_1v] [ro n_0_Arcsv 4 (n_0.Arcs.map S_api_Arc.enc), ro l_1v 1 (l_1.map (eInt .i64))] (fun v G => v = .bool r ∧ G = []) := by
 refine fn_of_run Try.func21 rfl Try.ntmps21 rfl (fun w0 o0 => ?_)
 refine run_seq ?_
 refine run_region' ?_
 refine ot rfl rfl (t_box rfl) ?_
 rintro _ _ ⟨b1, rfl, rfl⟩
 refine oy rfl rfl (y_assign rfl) ?_
 refine ops_nil ?_
 refine goes_code ?_
 refine run_seq ?_
 refine run_region' ?_
 refine oy rfl rfl (y_load_boxagg (c := [.int .i64 n_0.Nodes, n_0_Arcsv]) 2 Try.isAgg24 Try.sizeOf24 rfl rfl rfl) ?_
 refine oy rfl rfl (y_move rfl) ?_
 obtain ⟨r2, hr3, h⟩ := obind_some h
 refine ot rfl rfl (t_callx (vs := [.agg #[.int .i64 n_0.Nodes, n_0_Arcsv], l_1v]) (cs := []) [(0, 0), (1, 0)] rfl Try.call47 rfl (ref09_walk_ok n n_0 l_1 n_0_Arcsv l_1v hr3) (showsX_view 0 rfl views_ro (showsX_view 1 rfl views_ro showsX_nil)) rfl (.inl rfl)) ?_
 rintro _ _ ⟨_, ⟨rfl, rfl⟩, rfl⟩
 refine oy rfl rfl (y_assign rfl) ?_
 refine ops_nil ?_
 refine goes_code ?_
 refine run_ret ?_
 obtain rfl := some_eq h
 refine fin_slots [4] [.bool r2] [] [] Try.results21 rfl (by decide) rfl ?_
 exact ⟨rfl, rfl⟩

end Go.Proofs.Ytgelifcckhemiaa
