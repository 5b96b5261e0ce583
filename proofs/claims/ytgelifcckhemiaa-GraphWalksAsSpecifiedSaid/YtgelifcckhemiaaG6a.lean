/-
  Functions that the law GraphOrdersForward needs, lifted.
-/
import Derived.Test.YtgelifcckhemiaaG5a
namespace Go.Proofs.Ytgelifcckhemiaa
open Go.Abs
set_option linter.unusedVariables false
set_option linter.unusedSimpArgs false
set_option maxRecDepth 20000
set_option maxHeartbeats 4000000


def law09_few (n_0 : S_api_Net) : Option (Bool) :=
 some ((decide (n_0.Nodes ≤ 12) || decide (256 < n_0.Nodes)) && decide ((n_0.Arcs.length : Int) ≤ 60))
theorem law09_few_ok (n_0 : S_api_Net) (n_0_Arcsv : Value) {r : Bool} (h : law09_few n_0 = some r) :
  Meets Try.prog 9 [.agg #[.int .i64 n_0.Nodes, n_0_Arcsv]] [ro n_0_Arcsv 4 (n_0.Arcs.map S_api_Arc.enc)] (fun v G => v = .bool r ∧ G = []) := by
 refine fn_of_run Try.func9 rfl Try.ntmps9 rfl (fun w0 o0 => ?_)
 refine run_seq ?_
 refine run_region' ?_
 refine ot rfl rfl (t_box rfl) ?_
 rintro _ _ ⟨b1, rfl, rfl⟩
 refine oy rfl rfl (y_assign rfl) ?_
 refine ops_nil ?_
 refine goes_code ?_
 refine run_seq ?_
 refine run_region' ?_
 refine oy rfl rfl (y_fieldAddr_box (sz := 0) Try.runUnderlying24 rfl Try.sizeOf3 rfl) ?_
 refine oy rfl rfl (y_load_box 1 Try.isAgg3 rfl rfl rfl) ?_
 refine oy rfl rfl (y_leq rfl rfl) ?_
 refine oy rfl rfl (y_move rfl) ?_
 refine ops_cut 4 (Bool) (fun σ => [(1, boxP b1 0), (10, .bool σ)]) (fun σ => [ro n_0_Arcsv 4 (n_0.Arcs.map S_api_Arc.enc), box b1 [.int .i64 n_0.Nodes, n_0_Arcsv]]) (fun σ => σ = (decide (n_0.Nodes ≤ 12) || decide (256 < n_0.Nodes))) (fun L2 hL3 => ?_) ?_
 ·refine ops_split 6 (decide (n_0.Nodes ≤ 12)) rfl (fun hg4 => ?_) (fun hg4 => ?_)
  ·skip
   refine ops_no 3 false 6 rfl rfl rfl rfl rfl ?_
   refine ops_no 3 false 6 rfl rfl rfl rfl rfl ?_
   refine ops_no 3 false 6 rfl rfl rfl rfl rfl ?_
   refine oy rfl rfl (y_pick (b := true) rfl rfl) ?_
   refine ops_nil ?_
   exact goes_cut hL3 true [0, 1] (vcons rfl (vcons rfl (vnil))) (by decide) rfl (by rw [hg4]; simp)
  ·skip
   refine ops_y (wg 3 false 6 rfl rfl rfl rfl) rfl (y_fieldAddr_box (sz := 0) Try.runUnderlying24 rfl Try.sizeOf3 rfl) ?_
   refine ops_y (wg 3 false 6 rfl rfl rfl rfl) rfl (y_load_box 1 Try.isAgg3 rfl rfl rfl) ?_
   refine ops_y (wg 3 false 6 rfl rfl rfl rfl) rfl (y_gtr rfl rfl) ?_
   refine oy rfl rfl (y_pick (b := false) rfl rfl) ?_
   refine ops_nil ?_
   exact goes_cut hL3 (decide (256 < n_0.Nodes)) [0, 1] (vcons rfl (vcons rfl (vnil))) (by decide) rfl (by rw [hg4]; simp)
 rintro _ rfl
 refine oy rfl rfl (y_move rfl) ?_
 refine ops_cut 5 (Bool) (fun σ => [(16, .bool σ)]) (fun σ => []) (fun σ => σ = ((decide (n_0.Nodes ≤ 12) || decide (256 < n_0.Nodes)) && decide ((n_0.Arcs.length : Int) ≤ 60))) (fun L5 hL6 => ?_) ?_
 ·refine ops_split 11 (decide (n_0.Nodes ≤ 12) || decide (256 < n_0.Nodes)) rfl (fun hg7 => ?_) (fun hg7 => ?_)
  ·skip
   refine ops_y (wg 8 true 11 rfl rfl rfl rfl) rfl (y_fieldAddr_box (sz := 0) Try.runUnderlying24 rfl Try.sizeOf22 rfl) ?_
   refine ops_y (wg 8 true 11 rfl rfl rfl rfl) rfl (y_load_box 1 Try.isAgg22 rfl rfl rfl) ?_
   refine ops_y (wg 8 true 11 rfl rfl rfl rfl) rfl ((y_len 0 rfl Try.runUnderlying22 rfl rfl reads_ro).to (v_len S_api_Arc.enc _)) ?_
   refine ops_y (wg 8 true 11 rfl rfl rfl rfl) rfl (y_leq rfl rfl) ?_
   refine oy rfl rfl (y_pick (b := true) rfl rfl) ?_
   refine ops_nil ?_
   exact goes_cut hL6 (decide ((n_0.Arcs.length : Int) ≤ 60)) [] (vcons rfl (vnil)) (by decide) rfl (by rw [hg7]; simp)
  ·skip
   refine ops_no 8 true 11 rfl rfl rfl rfl rfl ?_
   refine ops_no 8 true 11 rfl rfl rfl rfl rfl ?_
   refine ops_no 8 true 11 rfl rfl rfl rfl rfl ?_
   refine ops_no 8 true 11 rfl rfl rfl rfl rfl ?_
   refine oy rfl rfl (y_pick (b := false) rfl rfl) ?_
   refine ops_nil ?_
   exact goes_cut hL6 false [] (vcons rfl (vnil)) (by decide) rfl (by rw [hg7]; simp)
 rintro _ rfl
 refine oy rfl rfl (y_assign rfl) ?_
 refine ops_nil ?_
 refine goes_code ?_
 refine run_ret ?_
 obtain rfl := some_eq h
 refine fin_slots [2] [.bool ((decide (n_0.Nodes ≤ 12) || decide (256 < n_0.Nodes)) && decide ((n_0.Arcs.length : Int) ≤ 60))] [] [] Try.results9 rfl (by decide) rfl ?_
 exact ⟨rfl, rfl⟩

end Go.Proofs.Ytgelifcckhemiaa
