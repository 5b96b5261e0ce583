/-
  Functions that the law GraphPathsMatchSpec needs, lifted.
-/
import Derived.Test.YtgelifcckhemiaaG3a
namespace Go.Proofs.Ytgelifcckhemiaa
open Go.Abs
set_option linter.unusedVariables false
set_option linter.unusedSimpArgs false
set_option maxRecDepth 20000
set_option maxHeartbeats 4000000

def ref09_better (a_0 : S_ref09_Step) (b_1 : S_ref09_Step) : Option (Bool) :=
 some (a_0.Is && (((!b_1.Is) || decide (a_0.Sum < b_1.Sum)) || (decide (a_0.Sum = b_1.Sum) && decide (a_0.Arcs < b_1.Arcs))))
theorem ref09_better_ok (a_0 : S_ref09_Step) (b_1 : S_ref09_Step)  {r : Bool} (h : ref09_better a_0 b_1 = some r) :
  Meets Try.prog 67 [.agg #[.bool a_0.Is, .int .i64 a_0.Sum, .int .i64 a_0.Arcs], .agg #[.bool b_1.Is, .int .i64 b_1.Sum, .int .i64 b_1.Arcs]] [] (fun v G => v = .bool r ∧ G = []) := by
 refine fn_of_run Try.func67 rfl Try.ntmps67 rfl (fun w0 o0 => ?_)
 refine run_seq ?_
 refine run_region' ?_
 refine ot rfl rfl (t_box rfl) ?_
 rintro _ _ ⟨b1, rfl, rfl⟩
 refine ot rfl rfl (t_box rfl) ?_
 rintro _ _ ⟨b2, rfl, rfl⟩
 refine oy rfl rfl (y_assign rfl) ?_
 refine ops_nil ?_
 refine goes_code ?_
 refine run_seq ?_
 refine run_region' ?_
 refine oy rfl rfl (y_fieldAddr_box (sz := 0) Try.runUnderlying93 rfl Try.sizeOf4 rfl) ?_
 refine oy rfl rfl (y_load_box 0 Try.isAgg4 rfl rfl rfl) ?_
 refine oy rfl rfl (y_move rfl) ?_
 refine ops_cut 25 (Bool) (fun σ => [(32, .bool σ)]) (fun σ => []) (fun σ => σ = (a_0.Is && (((!b_1.Is) || decide (a_0.Sum < b_1.Sum)) || (decide (a_0.Sum = b_1.Sum) && decide (a_0.Arcs < b_1.Arcs))))) (fun L3 hL4 => ?_) ?_
 ·refine ops_split 7 a_0.Is rfl (fun hg5 => ?_) (fun hg5 => ?_)
  ·skip
   refine ops_y (wg 2 true 7 rfl rfl rfl rfl) rfl (y_fieldAddr_box (sz := 0) Try.runUnderlying93 rfl Try.sizeOf4 rfl) ?_
   refine ops_y (wg 2 true 7 rfl rfl rfl rfl) rfl (y_load_box 1 Try.isAgg4 rfl rfl rfl) ?_
   refine ops_y (wg 2 true 7 rfl rfl rfl rfl) rfl (y_not rfl) ?_
   refine ops_y (wg 2 true 7 rfl rfl rfl rfl) rfl (y_move rfl) ?_
   refine ops_cut 6 (Bool) (fun σ => [(2, boxP b1 0), (3, boxP b2 0), (7, .bool true), (17, .bool σ)]) (fun σ => [box b1 [.bool a_0.Is, .int .i64 a_0.Sum, .int .i64 a_0.Arcs], box b2 [.bool b_1.Is, .int .i64 b_1.Sum, .int .i64 b_1.Arcs]]) (fun σ => σ = ((!b_1.Is) || decide (a_0.Sum < b_1.Sum))) (fun L6 hL7 => ?_) ?_
   ·refine ops_split 11 (!b_1.Is) rfl (fun hg8 => ?_) (fun hg8 => ?_)
    ·skip
     refine ops_no 6 false 11 rfl rfl rfl rfl rfl ?_
     refine ops_no 6 false 11 rfl rfl rfl rfl rfl ?_
     refine ops_no 6 false 11 rfl rfl rfl rfl rfl ?_
     refine ops_no 6 false 11 rfl rfl rfl rfl rfl ?_
     refine ops_weak [(2, boxP b1 0), (3, boxP b2 0), (7, .bool true), (11, .bool true)] [0, 1] [box b1 [.bool a_0.Is, .int .i64 a_0.Sum, .int .i64 a_0.Arcs], box b2 [.bool b_1.Is, .int .i64 b_1.Sum, .int .i64 b_1.Arcs]] (qv4 rfl rfl rfl rfl) (by decide) rfl ?_
     refine ops_no 6 false 11 rfl rfl rfl rfl rfl ?_
     refine ops_y (wg 2 true 7 rfl rfl rfl rfl) rfl (y_pick (b := true) rfl rfl) ?_
     refine ops_nil ?_
     exact goes_cut hL7 true [0, 1] (qv4 rfl rfl rfl rfl) (by decide) rfl (by rw [hg8]; simp)
    ·skip
     refine ops_y (wg 6 false 11 rfl rfl rfl rfl) rfl (y_fieldAddr_box (sz := 0) Try.runUnderlying93 rfl Try.sizeOf3 rfl) ?_
     refine ops_y (wg 6 false 11 rfl rfl rfl rfl) rfl (y_load_box 0 Try.isAgg3 rfl rfl rfl) ?_
     refine ops_y (wg 6 false 11 rfl rfl rfl rfl) rfl (y_fieldAddr_box (sz := 0) Try.runUnderlying93 rfl Try.sizeOf3 rfl) ?_
     refine ops_y (wg 6 false 11 rfl rfl rfl rfl) rfl (y_load_box 1 Try.isAgg3 rfl rfl rfl) ?_
     refine ops_weak [(2, boxP b1 0), (3, boxP b2 0), (7, .bool true), (11, .bool false), (13, .int .i64 a_0.Sum), (15, .int .i64 b_1.Sum)] [0, 1] [box b1 [.bool a_0.Is, .int .i64 a_0.Sum, .int .i64 a_0.Arcs], box b2 [.bool b_1.Is, .int .i64 b_1.Sum, .int .i64 b_1.Arcs]] (qv6 rfl rfl rfl rfl rfl rfl) (by decide) rfl ?_
     refine ops_y (wg 6 false 11 rfl rfl rfl rfl) rfl (y_lss rfl rfl) ?_
     refine ops_y (wg 2 true 7 rfl rfl rfl rfl) rfl (y_pick (b := false) rfl rfl) ?_
     refine ops_nil ?_
     exact goes_cut hL7 (decide (a_0.Sum < b_1.Sum)) [0, 1] (qv4 rfl rfl rfl rfl) (by decide) rfl (by rw [hg8]; simp)
   rintro _ rfl
   refine ops_y (wg 2 true 7 rfl rfl rfl rfl) rfl (y_move rfl) ?_
   refine ops_cut 13 (Bool) (fun σ => [(7, .bool true), (31, .bool σ)]) (fun σ => []) (fun σ => σ = (((!b_1.Is) || decide (a_0.Sum < b_1.Sum)) || (decide (a_0.Sum = b_1.Sum) && decide (a_0.Arcs < b_1.Arcs)))) (fun L9 hL10 => ?_) ?_
   ·refine ops_split 18 ((!b_1.Is) || decide (a_0.Sum < b_1.Sum)) rfl (fun hg11 => ?_) (fun hg11 => ?_)
    ·skip
     refine ops_no 13 false 18 rfl rfl rfl rfl rfl ?_
     refine ops_no 13 false 18 rfl rfl rfl rfl rfl ?_
     refine ops_no 13 false 18 rfl rfl rfl rfl rfl ?_
     refine ops_no 13 false 18 rfl rfl rfl rfl rfl ?_
     refine ops_no 13 false 18 rfl rfl rfl rfl rfl ?_
     refine ops_no 13 false 18 rfl rfl rfl rfl rfl ?_
     refine ops_un 19 true 24 rfl rfl rfl rfl rfl ?_
     refine ops_un 19 true 24 rfl rfl rfl rfl rfl ?_
     refine ops_un 19 true 24 rfl rfl rfl rfl rfl ?_
     refine ops_un 19 true 24 rfl rfl rfl rfl rfl ?_
     refine ops_un 19 true 24 rfl rfl rfl rfl rfl ?_
     refine ops_no 13 false 18 rfl rfl rfl rfl rfl ?_
     refine ops_y (wg 2 true 7 rfl rfl rfl rfl) rfl (y_pick (b := true) rfl rfl) ?_
     refine ops_nil ?_
     exact goes_cut hL10 true [] (qv2 rfl rfl) (by decide) rfl (by rw [hg11]; simp)
    ·skip
     refine ops_y (wg 13 false 18 rfl rfl rfl rfl) rfl (y_fieldAddr_box (sz := 0) Try.runUnderlying93 rfl Try.sizeOf3 rfl) ?_
     refine ops_y (wg 13 false 18 rfl rfl rfl rfl) rfl (y_load_box 0 Try.isAgg3 rfl rfl rfl) ?_
     refine ops_y (wg 13 false 18 rfl rfl rfl rfl) rfl (y_fieldAddr_box (sz := 0) Try.runUnderlying93 rfl Try.sizeOf3 rfl) ?_
     refine ops_y (wg 13 false 18 rfl rfl rfl rfl) rfl (y_load_box 1 Try.isAgg3 rfl rfl rfl) ?_
     refine ops_y (wg 13 false 18 rfl rfl rfl rfl) rfl (y_eql rfl rfl) ?_
     refine ops_y (wg 13 false 18 rfl rfl rfl rfl) rfl (y_move rfl) ?_
     refine ops_cut 6 (Bool) (fun σ => [(7, .bool true), (18, .bool false), (30, .bool σ)]) (fun σ => []) (fun σ => σ = (decide (a_0.Sum = b_1.Sum) && decide (a_0.Arcs < b_1.Arcs))) (fun L12 hL13 => ?_) ?_
     ·refine ops_split 24 (decide (a_0.Sum = b_1.Sum)) rfl (fun hg14 => ?_) (fun hg14 => ?_)
      ·skip
       refine ops_y (wg 19 true 24 rfl rfl rfl rfl) rfl (y_fieldAddr_box (sz := 0) Try.runUnderlying93 rfl Try.sizeOf3 rfl) ?_
       refine ops_y (wg 19 true 24 rfl rfl rfl rfl) rfl (y_load_box 0 Try.isAgg3 rfl rfl rfl) ?_
       refine ops_y (wg 19 true 24 rfl rfl rfl rfl) rfl (y_fieldAddr_box (sz := 0) Try.runUnderlying93 rfl Try.sizeOf3 rfl) ?_
       refine ops_y (wg 19 true 24 rfl rfl rfl rfl) rfl (y_load_box 1 Try.isAgg3 rfl rfl rfl) ?_
       refine ops_y (wg 19 true 24 rfl rfl rfl rfl) rfl (y_lss rfl rfl) ?_
       refine ops_y (wg 13 false 18 rfl rfl rfl rfl) rfl (y_pick (b := true) rfl rfl) ?_
       refine ops_nil ?_
       exact goes_cut hL13 (decide (a_0.Arcs < b_1.Arcs)) [] (qv3 rfl rfl rfl) (by decide) rfl (by rw [hg14]; simp)
      ·skip
       refine ops_no 19 true 24 rfl rfl rfl rfl rfl ?_
       refine ops_no 19 true 24 rfl rfl rfl rfl rfl ?_
       refine ops_no 19 true 24 rfl rfl rfl rfl rfl ?_
       refine ops_no 19 true 24 rfl rfl rfl rfl rfl ?_
       refine ops_no 19 true 24 rfl rfl rfl rfl rfl ?_
       refine ops_y (wg 13 false 18 rfl rfl rfl rfl) rfl (y_pick (b := false) rfl rfl) ?_
       refine ops_nil ?_
       exact goes_cut hL13 false [] (qv3 rfl rfl rfl) (by decide) rfl (by rw [hg14]; simp)
     rintro _ rfl
     refine ops_y (wg 2 true 7 rfl rfl rfl rfl) rfl (y_pick (b := false) rfl rfl) ?_
     refine ops_nil ?_
     exact goes_cut hL10 (decide (a_0.Sum = b_1.Sum) && decide (a_0.Arcs < b_1.Arcs)) [] (qv2 rfl rfl) (by decide) rfl (by rw [hg11]; simp)
   rintro _ rfl
   refine oy rfl rfl (y_pick (b := true) rfl rfl) ?_
   refine ops_nil ?_
   exact goes_cut hL4 (((!b_1.Is) || decide (a_0.Sum < b_1.Sum)) || (decide (a_0.Sum = b_1.Sum) && decide (a_0.Arcs < b_1.Arcs))) [] (qv1 rfl) (by decide) rfl (by rw [hg5]; simp)
  ·skip
   refine ops_no 2 true 7 rfl rfl rfl rfl rfl ?_
   refine ops_no 2 true 7 rfl rfl rfl rfl rfl ?_
   refine ops_no 2 true 7 rfl rfl rfl rfl rfl ?_
   refine ops_no 2 true 7 rfl rfl rfl rfl rfl ?_
   refine ops_un 6 false 11 rfl rfl rfl rfl rfl ?_
   refine ops_un 6 false 11 rfl rfl rfl rfl rfl ?_
   refine ops_un 6 false 11 rfl rfl rfl rfl rfl ?_
   refine ops_un 6 false 11 rfl rfl rfl rfl rfl ?_
   refine ops_un 6 false 11 rfl rfl rfl rfl rfl ?_
   refine ops_weak [(2, boxP b1 0), (3, boxP b2 0), (7, .bool false)] [0, 1] [box b1 [.bool a_0.Is, .int .i64 a_0.Sum, .int .i64 a_0.Arcs], box b2 [.bool b_1.Is, .int .i64 b_1.Sum, .int .i64 b_1.Arcs]] (qv3 rfl rfl rfl) (by decide) rfl ?_
   refine ops_no 2 true 7 rfl rfl rfl rfl rfl ?_
   refine ops_no 2 true 7 rfl rfl rfl rfl rfl ?_
   refine ops_un 13 false 18 rfl rfl rfl rfl rfl ?_
   refine ops_un 13 false 18 rfl rfl rfl rfl rfl ?_
   refine ops_un 13 false 18 rfl rfl rfl rfl rfl ?_
   refine ops_un 13 false 18 rfl rfl rfl rfl rfl ?_
   refine ops_un 13 false 18 rfl rfl rfl rfl rfl ?_
   refine ops_un 13 false 18 rfl rfl rfl rfl rfl ?_
   refine ops_un 19 true 24 rfl rfl rfl rfl rfl ?_
   refine ops_un 19 true 24 rfl rfl rfl rfl rfl ?_
   refine ops_un 19 true 24 rfl rfl rfl rfl rfl ?_
   refine ops_un 19 true 24 rfl rfl rfl rfl rfl ?_
   refine ops_un 19 true 24 rfl rfl rfl rfl rfl ?_
   refine ops_un 13 false 18 rfl rfl rfl rfl rfl ?_
   refine ops_no 2 true 7 rfl rfl rfl rfl rfl ?_
   refine oy rfl rfl (y_pick (b := false) rfl rfl) ?_
   refine ops_nil ?_
   exact goes_cut hL4 false [] (qv1 rfl) (by decide) rfl (by rw [hg5]; simp)
 rintro _ rfl
 refine oy rfl rfl (y_assign rfl) ?_
 refine ops_nil ?_
 refine goes_code ?_
 refine run_ret ?_
 obtain rfl := some_eq h
 refine fin_slots [4] [.bool (a_0.Is && (((!b_1.Is) || decide (a_0.Sum < b_1.Sum)) || (decide (a_0.Sum = b_1.Sum) && decide (a_0.Arcs < b_1.Arcs))))] [] [] Try.results67 rfl (by decide) rfl ?_
 exact ⟨rfl, rfl⟩

def ref09_relaxed_L1 (n_0 : S_api_Net) (l_1 : (List S_ref09_Step)) : (Bool × Int × (List S_ref09_Step)) → Option (Lp (Bool × Int × (List S_ref09_Step)) (Lp (Bool × (List S_ref09_Step)) ((List S_ref09_Step) × Bool))) :=
 fun (changed_11, i_12, x_13) =>
  cond (decide (i_12 < (n_0.Arcs.length : Int)))
   (bindJ (S := Bool × (List S_ref09_Step))
    (idx n_0.Arcs i_12 fun x25 =>
    idx l_1 x25.From fun x27 =>
    idx x_13 x25.To fun x29 =>
    obind (ref09_better (S_ref09_Step.mk x27.Is (IntKind.i64.wrap (x27.Sum + x25.Cost)) (IntKind.i64.wrap (x27.Arcs + 1))) x29) fun r30 =>
    cond r30
     (some (.go (true, (x_13.set ((x25.To).toNat) (S_ref09_Step.mk x27.Is (IntKind.i64.wrap (x27.Sum + x25.Cost)) (IntKind.i64.wrap (x27.Arcs + 1)))))))
     (some (.go (changed_11, x_13))))
   (fun (changed_19, x_20) =>
    some (.go (changed_19, (IntKind.i64.wrap (i_12 + 1)), x_20))))
   (some (.stop (.go (changed_11, x_13))))
def ref09_relaxed (n : Nat) (n_0 : S_api_Net) (l_1 : (List S_ref09_Step)) : Option ((List S_ref09_Step) × Bool) :=
 need (([] : List S_ref09_Step).length + l_1.length ≤ 4294967296) (
 bindJ (S := Bool × (List S_ref09_Step))
  (iter (ref09_relaxed_L1 n_0 l_1) n (false, 0, (([] : List S_ref09_Step) ++ l_1)))
 (fun (changed_5, x_6) =>
  some (x_6, changed_5)))
theorem ref09_relaxed_ok (n : Nat) (n_0 : S_api_Net) (l_1 : (List S_ref09_Step)) (n_0_Arcsv : Value) (l_1v : Value) {r : (List S_ref09_Step) × Bool} (h : ref09_relaxed n n_0 l_1 = some r) :
  Meets Try.prog 50 [.agg #[.int .i64 n_0.Nodes, n_0_Arcsv], l_1v] [ro n_0_Arcsv 4 (n_0.Arcs.map S_api_Arc.enc), ro l_1v 3 (l_1.map S_ref09_Step.enc)] (fun v G => ∃ v0, v = .tuple #[v0, .bool r.2] ∧ G = [row v0 3 (r.1.map S_ref09_Step.enc)]) := by
 refine fn_of_run Try.func50 rfl Try.ntmps50 rfl (fun w0 o0 => ?_)
 refine run_seq ?_
 refine run_region' ?_
 refine ot rfl rfl (t_box rfl) ?_
 rintro _ _ ⟨b1, rfl, rfl⟩
 refine oy rfl rfl (y_assign rfl) ?_
 refine oy rfl rfl (y_assign rfl) ?_
 refine ops_nil ?_
 refine goes_code ?_
 refine run_seq ?_
 refine run_region' ?_
 refine ot rfl rfl (t_lit [] Try.runUnderlying91 Try.sizeOf93 Try.zeroValue93 rfl (by decide) (by decide) rfl (by simp [Value.cells, boxP])) ?_
 rintro v2 _ ⟨rfl, _⟩
 refine ops_turn (retell 3 (g := row v2 3 (([] : List S_ref09_Step).map S_ref09_Step.enc)) rfl rfl) ?_
 refine oy rfl rfl (y_move rfl) ?_
 obtain ⟨hr4, h⟩ := need_some h
 refine ot rfl rfl (t_append (es := 3) 3 rfl Try.runUnderlying91 rfl Try.runUnderlying91 (.inr ⟨_, rfl⟩) Try.typeInfo93 rfl (by decide) Try.zeroValue93 rfl rfl rfl rfl (src_reads 1 rfl reads_ro (map_ok S_ref09_Step.enc_ok _)) (map_room hr4 (by decide)) (map_fit hr4)) ?_
 rintro v3 _ rfl
 refine ops_turn (retell 3 (g := row v3 3 ((([] : List S_ref09_Step) ++ l_1).map S_ref09_Step.enc)) rfl (congrArg (row _ _) List.map_append.symm)) ?_
 refine oy rfl rfl (y_assign rfl) ?_
 refine ops_nil ?_
 refine goes_code ?_
 refine run_seq ?_
 refine run_region' ?_
 refine oy rfl rfl (y_assign rfl) ?_
 refine ops_nil ?_
 refine goes_code ?_
 obtain ⟨o7, h, ho8⟩ := bindJ_some h
 refine run_cut ((Bool × (List S_ref09_Step)) × (Unit)) (fun σ => [(6, v3), (7, .bool σ.1.1)]) (fun σ => [row v3 3 (σ.1.2.map S_ref09_Step.enc)]) (fun σ => o7 = .go σ.1) (fun L10 hL9 => ?_) ?_
 ·
  refine run_seq ?_
  refine run_weak [(1, l_1v), (2, boxP b1 0), (6, v3), (7, .bool false)] [0, 1, 2, 3] [ro n_0_Arcsv 4 (n_0.Arcs.map S_api_Arc.enc), ro l_1v 3 (l_1.map S_ref09_Step.enc), box b1 [.int .i64 n_0.Nodes, n_0_Arcsv], row v3 3 ((([] : List S_ref09_Step) ++ l_1).map S_ref09_Step.enc)] (qv4 rfl rfl rfl rfl) (by decide) rfl ?_
  refine run_region' ?_
  refine oy rfl rfl (y_assign rfl) ?_
  refine ops_nil ?_
  refine goes_code ?_
  refine run_block ?_
  refine run_iter (step := ref09_relaxed_L1 n_0 l_1) (n := n) (s0 := (false, 0, (([] : List S_ref09_Step) ++ l_1))) h (G := Unit) () (fun σ γ => [(1, l_1v), (2, boxP b1 0), (6, v3), (7, .bool σ.1), (8, .int .i64 σ.2.1)]) (fun σ γ => [ro l_1v 3 (l_1.map S_ref09_Step.enc), box b1 [.int .i64 n_0.Nodes, n_0_Arcsv], ro n_0_Arcsv 4 (n_0.Arcs.map S_api_Arc.enc), row v3 3 (σ.2.2.map S_ref09_Step.enc)]) [1, 2, 0, 3] (qv5 rfl rfl rfl rfl rfl) (by decide) rfl ?_
  rintro ⟨changed_11, i_12, x_13⟩ _ o14 h L17 hgo15 hstop16
  change Run _ _ _ (VF.of [(1, l_1v), (2, boxP b1 0), (6, v3), (7, .bool changed_11), (8, .int .i64 i_12)]) [ro l_1v 3 (l_1.map S_ref09_Step.enc), box b1 [.int .i64 n_0.Nodes, n_0_Arcsv], ro n_0_Arcsv 4 (n_0.Arcs.map S_api_Arc.enc), row v3 3 (x_13.map S_ref09_Step.enc)]
  refine run_seq ?_
  refine run_seq ?_
  refine run_region' ?_
  refine oy rfl rfl (y_move rfl) ?_
  refine oy rfl rfl (y_fieldAddr_box (sz := 0) Try.runUnderlying24 rfl Try.sizeOf22 rfl) ?_
  refine oy rfl rfl (y_load_box 1 Try.isAgg22 rfl rfl rfl) ?_
  refine oy rfl rfl ((y_len 2 rfl Try.runUnderlying22 rfl rfl reads_ro).to (v_len S_api_Arc.enc _)) ?_
  refine oy rfl rfl (y_lss rfl rfl) ?_
  refine ops_nil ?_
  refine goes_code ?_
  refine run_cond (decide (i_12 < (n_0.Arcs.length : Int))) rfl (fun hc18 => ?_) (fun hc18 => ?_)
  ·replace h := cond_t h hc18
   refine run_skip ?_
   refine goes_code ?_
   obtain ⟨o21, h, ho22⟩ := bindJ_some h
   refine run_cut ((Bool × (List S_ref09_Step)) × (Unit)) (fun σ => [(1, l_1v), (2, boxP b1 0), (6, v3), (7, .bool σ.1.1), (8, .int .i64 i_12)]) (fun σ => [ro l_1v 3 (l_1.map S_ref09_Step.enc), box b1 [.int .i64 n_0.Nodes, n_0_Arcsv], ro n_0_Arcsv 4 (n_0.Arcs.map S_api_Arc.enc), row v3 3 (σ.1.2.map S_ref09_Step.enc)]) (fun σ => o21 = .go σ.1) (fun L24 hL23 => ?_) ?_
   ·
    refine run_block ?_
    refine run_seq ?_
    refine run_region' ?_
    refine oy rfl rfl (y_fieldAddr_box (sz := 0) Try.runUnderlying24 rfl Try.sizeOf22 rfl) ?_
    refine oy rfl rfl (y_load_box 1 Try.isAgg22 rfl rfl rfl) ?_
    refine oy rfl rfl (y_move rfl) ?_
    obtain ⟨x25, hzx25, hlx25, hxx25, h⟩ := idx_some h
    refine oy rfl rfl (y_indexAddrI (kd := .i64) (i := i_12) 2 Try.runUnderlying22 Try.sizeOf67 rfl rfl rfl reads_ro hzx25 (map_lt hlx25)) ?_
    refine oy rfl rfl (y_load_agg (i := i_12.toNat) (c := [.int .i64 x25.From, .int .i64 x25.To, .int .i64 x25.Cap, .int .i64 x25.Cost]) 2 Try.isAgg67 Try.sizeOf67 rfl rfl reads_ro (map_get hxx25)) ?_
    refine ot rfl rfl (t_alloc Try.zeroValue67) ?_
    rintro _ _ ⟨b26, rfl, rfl⟩
    refine ot rfl rfl (t_store 4 Try.sizeOf67 rfl rfl rfl rfl (by simp [Value.cells, boxP]) (by simp [Value.cells, Value.oneCell', boxP])) ?_
    rintro _ _ ⟨rfl, rfl⟩
    refine ops_turn (retell 4 (g := box b26 [.int .i64 x25.From, .int .i64 x25.To, .int .i64 x25.Cap, .int .i64 x25.Cost]) rfl rfl) ?_
    refine ops_nil ?_
    refine goes_code ?_
    refine run_seq ?_
    refine run_weak [(1, l_1v), (2, boxP b1 0), (6, v3), (7, .bool changed_11), (8, .int .i64 i_12), (9, boxP b26 0)] [0, 1, 2, 3, 4] [ro l_1v 3 (l_1.map S_ref09_Step.enc), box b1 [.int .i64 n_0.Nodes, n_0_Arcsv], ro n_0_Arcsv 4 (n_0.Arcs.map S_api_Arc.enc), row v3 3 (x_13.map S_ref09_Step.enc), box b26 [.int .i64 x25.From, .int .i64 x25.To, .int .i64 x25.Cap, .int .i64 x25.Cost]] (qv6 rfl rfl rfl rfl rfl rfl) (by decide) rfl ?_
    refine run_drawany [ro l_1v 3 (l_1.map S_ref09_Step.enc), box b1 [.int .i64 n_0.Nodes, n_0_Arcsv], ro n_0_Arcsv 4 (n_0.Arcs.map S_api_Arc.enc), row v3 3 (x_13.map S_ref09_Step.enc), box b26 [.int .i64 x25.From, .int .i64 x25.To, .int .i64 x25.Cap, .int .i64 x25.Cost]] (by kernel_rfl) ?_
    refine any_y 0 rfl (by kernel_rfl) (by kernel_rfl) (by kernel_rfl) (ss (ss (ss (ss (ss (sn)))))) (wn rfl) rfl (y_move rfl) ?_
    refine any_y 1 rfl (by kernel_rfl) (by kernel_rfl) (by kernel_rfl) (ss (ss (ss (ss (ss (sn)))))) (wn rfl) rfl (y_fieldAddr_box (sz := 0) Try.runUnderlying67 rfl Try.sizeOf3 rfl) ?_
    refine any_y 2 rfl (by kernel_rfl) (by kernel_rfl) (by kernel_rfl) (ss (ss (ss (ss (ss (sn)))))) (wn rfl) rfl (y_load_box 4 Try.isAgg3 rfl rfl rfl) ?_
    obtain ⟨x27, hzx27, hlx27, hxx27, h⟩ := idx_some h
    refine any_y 3 rfl (by kernel_rfl) (by kernel_rfl) (by kernel_rfl) (ss (ss (ss (ss (ss (sn)))))) (wn rfl) rfl (y_indexAddrI (kd := .i64) (i := x25.From) 0 Try.runUnderlying91 Try.sizeOf93 rfl rfl rfl reads_ro hzx27 (map_lt hlx27)) ?_
    refine any_y 4 rfl (by kernel_rfl) (by kernel_rfl) (by kernel_rfl) (ss (ss (ss (ss (ss (sn)))))) (wn rfl) rfl (y_fieldAddr_elem (sz := 0) Try.runUnderlying93 rfl Try.sizeOf4 rfl) ?_
    refine any_y 5 rfl (by kernel_rfl) (by kernel_rfl) (by kernel_rfl) (ss (ss (ss (ss (ss (sn)))))) (wn rfl) rfl (y_load_field (i := (x25.From).toNat) (j := 0) 0 Try.isAgg4 rfl rfl reads_ro (map_get hxx27) rfl) ?_
    refine any_y 6 rfl (by kernel_rfl) (by kernel_rfl) (by kernel_rfl) (ss (ss (ss (ss (ss (sn)))))) (wn rfl) rfl (y_move rfl) ?_
    refine any_y 7 rfl (by kernel_rfl) (by kernel_rfl) (by kernel_rfl) (ss (ss (ss (ss (ss (sn)))))) (wn rfl) rfl (y_fieldAddr_box (sz := 0) Try.runUnderlying67 rfl Try.sizeOf3 rfl) ?_
    refine any_y 8 rfl (by kernel_rfl) (by kernel_rfl) (by kernel_rfl) (ss (ss (ss (ss (ss (sn)))))) (wn rfl) rfl (y_load_box 4 Try.isAgg3 rfl rfl rfl) ?_
    refine any_y 9 rfl (by kernel_rfl) (by kernel_rfl) (by kernel_rfl) (ss (ss (ss (ss (ss (sn)))))) (wn rfl) rfl (y_indexAddrI (kd := .i64) (i := x25.From) 0 Try.runUnderlying91 Try.sizeOf93 rfl rfl rfl reads_ro hzx27 (map_lt hlx27)) ?_
    refine any_y 10 rfl (by kernel_rfl) (by kernel_rfl) (by kernel_rfl) (ss (ss (ss (ss (ss (sn)))))) (wn rfl) rfl (y_fieldAddr_elem (sz := 0) Try.runUnderlying93 rfl Try.sizeOf3 rfl) ?_
    refine any_y 11 rfl (by kernel_rfl) (by kernel_rfl) (by kernel_rfl) (ss (ss (ss (ss (ss (sn)))))) (wn rfl) rfl (y_load_field (i := (x25.From).toNat) (j := 1) 0 Try.isAgg3 rfl rfl reads_ro (map_get hxx27) rfl) ?_
    refine any_y 12 rfl (by kernel_rfl) (by kernel_rfl) (by kernel_rfl) (ss (ss (ss (ss (ss (sn)))))) (wn rfl) rfl (y_fieldAddr_box (sz := 0) Try.runUnderlying67 rfl Try.sizeOf3 rfl) ?_
    refine any_y 13 rfl (by kernel_rfl) (by kernel_rfl) (by kernel_rfl) (ss (ss (ss (ss (ss (sn)))))) (wn rfl) rfl (y_load_box 4 Try.isAgg3 rfl rfl rfl) ?_
    refine any_y 14 rfl (by kernel_rfl) (by kernel_rfl) (by kernel_rfl) (ss (ss (ss (ss (ss (sn)))))) (wn rfl) rfl (y_add rfl rfl) ?_
    refine any_y 15 rfl (by kernel_rfl) (by kernel_rfl) (by kernel_rfl) (ss (ss (ss (ss (ss (sn)))))) (wn rfl) rfl (y_move rfl) ?_
    refine any_y 16 rfl (by kernel_rfl) (by kernel_rfl) (by kernel_rfl) (ss (ss (ss (ss (ss (sn)))))) (wn rfl) rfl (y_fieldAddr_box (sz := 0) Try.runUnderlying67 rfl Try.sizeOf3 rfl) ?_
    refine any_y 17 rfl (by kernel_rfl) (by kernel_rfl) (by kernel_rfl) (ss (ss (ss (ss (ss (sn)))))) (wn rfl) rfl (y_load_box 4 Try.isAgg3 rfl rfl rfl) ?_
    refine any_y 18 rfl (by kernel_rfl) (by kernel_rfl) (by kernel_rfl) (ss (ss (ss (ss (ss (sn)))))) (wn rfl) rfl (y_indexAddrI (kd := .i64) (i := x25.From) 0 Try.runUnderlying91 Try.sizeOf93 rfl rfl rfl reads_ro hzx27 (map_lt hlx27)) ?_
    refine any_y 19 rfl (by kernel_rfl) (by kernel_rfl) (by kernel_rfl) (ss (ss (ss (ss (ss (sn)))))) (wn rfl) rfl (y_fieldAddr_elem (sz := 0) Try.runUnderlying93 rfl Try.sizeOf3 rfl) ?_
    refine any_y 20 rfl (by kernel_rfl) (by kernel_rfl) (by kernel_rfl) (ss (ss (ss (ss (ss (sn)))))) (wn rfl) rfl (y_load_field (i := (x25.From).toNat) (j := 2) 0 Try.isAgg3 rfl rfl reads_ro (map_get hxx27) rfl) ?_
    refine any_y 21 rfl (by kernel_rfl) (by kernel_rfl) (by kernel_rfl) (ss (ss (ss (ss (ss (sn)))))) (wn rfl) rfl (y_add rfl rfl) ?_
    refine any_y 22 rfl (by kernel_rfl) (by kernel_rfl) (by kernel_rfl) (ss (ss (ss (ss (ss (sn)))))) (wn rfl) rfl (y_build_struct (cells := #[.bool x27.Is, .int .i64 (IntKind.i64.wrap (x27.Sum + x25.Cost)), .int .i64 (IntKind.i64.wrap (x27.Arcs + 1))]) [(0, .bool x27.Is), (1, .int .i64 (IntKind.i64.wrap (x27.Sum + x25.Cost))), (2, .int .i64 (IntKind.i64.wrap (x27.Arcs + 1)))] [(0, [.bool x27.Is]), (1, [.int .i64 (IntKind.i64.wrap (x27.Sum + x25.Cost))]), (2, [.int .i64 (IntKind.i64.wrap (x27.Arcs + 1))])] Try.zeroValue93 Try.runUnderlying93 (fs_cons Try.sizeOf4 (fs_cons Try.sizeOf3 (fs_cons Try.sizeOf3 fs_nil))) rfl rfl rfl) ?_
    refine any_all [23] (by kernel_rfl) rfl (anyo_cons ?_ anyo_nil)
    refine any_t rfl (wn rfl) rfl (t_alloc Try.zeroValue93) ?_
    rintro _ _ ⟨b28, rfl, rfl⟩
    refine ⟨(ss (ss (ss (ss (ss (sn)))))), ?_⟩
    refine any_all [24] (by kernel_rfl) rfl (anyo_cons ?_ anyo_nil)
    refine any_t rfl (wn rfl) rfl (t_store 5 Try.sizeOf93 rfl rfl rfl rfl (by simp [Value.cells, boxP]) (by simp [Value.cells, Value.oneCell', boxP])) ?_
    rintro _ _ ⟨rfl, rfl⟩
    refine ⟨(ss (ss (ss (ss (ss (sn)))))), ?_⟩
    refine any_turn (retell 5 (g := box b28 [.bool x27.Is, .int .i64 (IntKind.i64.wrap (x27.Sum + x25.Cost)), .int .i64 (IntKind.i64.wrap (x27.Arcs + 1))]) rfl rfl) ?_
    refine any_nil (by kernel_rfl) ?_
    refine goes_code ?_
    refine run_seq ?_
    refine run_weak [(1, l_1v), (2, boxP b1 0), (6, v3), (7, .bool changed_11), (8, .int .i64 i_12), (9, boxP b26 0), (10, boxP b28 0)] [0, 1, 2, 3, 4, 5] [ro l_1v 3 (l_1.map S_ref09_Step.enc), box b1 [.int .i64 n_0.Nodes, n_0_Arcsv], ro n_0_Arcsv 4 (n_0.Arcs.map S_api_Arc.enc), row v3 3 (x_13.map S_ref09_Step.enc), box b26 [.int .i64 x25.From, .int .i64 x25.To, .int .i64 x25.Cap, .int .i64 x25.Cost], box b28 [.bool x27.Is, .int .i64 (IntKind.i64.wrap (x27.Sum + x25.Cost)), .int .i64 (IntKind.i64.wrap (x27.Arcs + 1))]] (qv7 rfl rfl rfl rfl rfl rfl rfl) (by decide) rfl ?_
    refine run_drawany [ro l_1v 3 (l_1.map S_ref09_Step.enc), box b1 [.int .i64 n_0.Nodes, n_0_Arcsv], ro n_0_Arcsv 4 (n_0.Arcs.map S_api_Arc.enc), row v3 3 (x_13.map S_ref09_Step.enc), box b26 [.int .i64 x25.From, .int .i64 x25.To, .int .i64 x25.Cap, .int .i64 x25.Cost], box b28 [.bool x27.Is, .int .i64 (IntKind.i64.wrap (x27.Sum + x25.Cost)), .int .i64 (IntKind.i64.wrap (x27.Arcs + 1))]] (by kernel_rfl) ?_
    refine any_y 0 rfl (by kernel_rfl) (by kernel_rfl) (by kernel_rfl) (ss (ss (ss (ss (ss (ss (sn))))))) (wn rfl) rfl (y_load_boxagg (c := [.bool x27.Is, .int .i64 (IntKind.i64.wrap (x27.Sum + x25.Cost)), .int .i64 (IntKind.i64.wrap (x27.Arcs + 1))]) 5 Try.isAgg93 Try.sizeOf93 rfl rfl rfl) ?_
    refine any_y 1 rfl (by kernel_rfl) (by kernel_rfl) (by kernel_rfl) (ss (ss (ss (ss (ss (ss (sn))))))) (wn rfl) rfl (y_move rfl) ?_
    refine any_y 2 rfl (by kernel_rfl) (by kernel_rfl) (by kernel_rfl) (ss (ss (ss (ss (ss (ss (sn))))))) (wn rfl) rfl (y_fieldAddr_box (sz := 0) Try.runUnderlying67 rfl Try.sizeOf3 rfl) ?_
    refine any_y 3 rfl (by kernel_rfl) (by kernel_rfl) (by kernel_rfl) (ss (ss (ss (ss (ss (ss (sn))))))) (wn rfl) rfl (y_load_box 4 Try.isAgg3 rfl rfl rfl) ?_
    obtain ⟨x29, hzx29, hlx29, hxx29, h⟩ := idx_some h
    refine any_y 4 rfl (by kernel_rfl) (by kernel_rfl) (by kernel_rfl) (ss (ss (ss (ss (ss (ss (sn))))))) (wn rfl) rfl (y_indexAddrI (kd := .i64) (i := x25.To) 3 Try.runUnderlying91 Try.sizeOf93 rfl rfl rfl reads_row hzx29 (map_lt hlx29)) ?_
    refine any_y 5 rfl (by kernel_rfl) (by kernel_rfl) (by kernel_rfl) (ss (ss (ss (ss (ss (ss (sn))))))) (wn rfl) rfl (y_load_agg (i := (x25.To).toNat) (c := [.bool x29.Is, .int .i64 x29.Sum, .int .i64 x29.Arcs]) 3 Try.isAgg93 Try.sizeOf93 rfl rfl reads_row (map_get hxx29)) ?_
    refine any_all [6] (by kernel_rfl) rfl (anyo_cons ?_ anyo_nil)
    obtain ⟨r30, hr31, h⟩ := obind_some h
    refine any_t rfl (wn rfl) rfl (t_callx (vs := [.agg #[.bool x27.Is, .int .i64 (IntKind.i64.wrap (x27.Sum + x25.Cost)), .int .i64 (IntKind.i64.wrap (x27.Arcs + 1))], .agg #[.bool x29.Is, .int .i64 x29.Sum, .int .i64 x29.Arcs]]) (cs := []) [] rfl Try.call67 rfl (ref09_better_ok (S_ref09_Step.mk x27.Is (IntKind.i64.wrap (x27.Sum + x25.Cost)) (IntKind.i64.wrap (x27.Arcs + 1))) x29  hr31) showsX_nil rfl (.inl rfl)) ?_
    rintro _ _ ⟨_, ⟨rfl, rfl⟩, rfl⟩
    refine ⟨(ss (ss (ss (ss (ss (ss (sn))))))), ?_⟩
    refine any_nil (by kernel_rfl) ?_
    refine goes_code ?_
    refine run_cond r30 rfl (fun hc32 => ?_) (fun hc32 => ?_)
    ·replace h := cond_t h hc32
     refine run_seq ?_
     refine run_region' ?_
     refine oy rfl rfl (y_move rfl) ?_
     refine oy rfl rfl (y_fieldAddr_box (sz := 0) Try.runUnderlying67 rfl Try.sizeOf3 rfl) ?_
     refine oy rfl rfl (y_load_box 4 Try.isAgg3 rfl rfl rfl) ?_
     refine oy rfl rfl (y_load_boxagg (c := [.bool x27.Is, .int .i64 (IntKind.i64.wrap (x27.Sum + x25.Cost)), .int .i64 (IntKind.i64.wrap (x27.Arcs + 1))]) 5 Try.isAgg93 Try.sizeOf93 rfl rfl rfl) ?_
     refine oy rfl rfl (y_indexAddrI (kd := .i64) (i := x25.To) 3 Try.runUnderlying91 Try.sizeOf93 rfl rfl rfl reads_row hzx29 (map_lt hlx29)) ?_
     refine ot rfl rfl (t_store_row (i := (x25.To).toNat) (j := 0) (c := S_ref09_Step.enc x29) 3 Try.sizeOf93 rfl rfl rfl rfl (map_get hxx29) (by decide) (by simp [Value.cells, Value.oneCell', boxP])) ?_
     rintro _ _ ⟨rfl, rfl⟩
     refine ops_turn (retell 3 (g := row v3 3 ((x_13.set ((x25.To).toNat) (S_ref09_Step.mk x27.Is (IntKind.i64.wrap (x27.Sum + x25.Cost)) (IntKind.i64.wrap (x27.Arcs + 1)))).map S_ref09_Step.enc)) rfl (congrArg (row _ _) (map_set_at rfl))) ?_
     refine ops_nil ?_
     refine goes_code ?_
     refine run_weak [(1, l_1v), (2, boxP b1 0), (6, v3), (8, .int .i64 i_12)] [0, 1, 2, 3] [ro l_1v 3 (l_1.map S_ref09_Step.enc), box b1 [.int .i64 n_0.Nodes, n_0_Arcsv], ro n_0_Arcsv 4 (n_0.Arcs.map S_api_Arc.enc), row v3 3 ((x_13.set ((x25.To).toNat) (S_ref09_Step.mk x27.Is (IntKind.i64.wrap (x27.Sum + x25.Cost)) (IntKind.i64.wrap (x27.Arcs + 1)))).map S_ref09_Step.enc)] (qv4 rfl rfl rfl rfl) (by decide) rfl ?_
     refine run_region' ?_
     refine oy rfl rfl (y_assign rfl) ?_
     refine ops_nil ?_
     refine goes_blk ?_
     obtain rfl := some_eq h
     exact goes_cut hL23 ((true, (x_13.set ((x25.To).toNat) (S_ref09_Step.mk x27.Is (IntKind.i64.wrap (x27.Sum + x25.Cost)) (IntKind.i64.wrap (x27.Arcs + 1))))), ()) [0, 1, 2, 3] (qv5 rfl rfl rfl rfl rfl) (by decide) rfl rfl
    ·replace h := cond_f h hc32
     refine run_skip ?_
     refine goes_blk ?_
     obtain rfl := some_eq h
     exact goes_cut hL23 ((changed_11, x_13), ()) [0, 1, 2, 3] (qv5 rfl rfl rfl rfl rfl) (by decide) rfl rfl
   rintro ⟨⟨changed_19, x_20⟩, _⟩ hj
   obtain rfl : o21 = _ := hj
   replace h := after_go ho22
   clear ho22
   change Run _ _ _ (VF.of [(1, l_1v), (2, boxP b1 0), (6, v3), (7, .bool changed_19), (8, .int .i64 i_12)]) [ro l_1v 3 (l_1.map S_ref09_Step.enc), box b1 [.int .i64 n_0.Nodes, n_0_Arcsv], ro n_0_Arcsv 4 (n_0.Arcs.map S_api_Arc.enc), row v3 3 (x_20.map S_ref09_Step.enc)]
   refine run_region' ?_
   refine oy rfl rfl (y_move rfl) ?_
   refine oy rfl rfl (y_add rfl rfl) ?_
   refine oy rfl rfl (y_assign rfl) ?_
   refine ops_nil ?_
   obtain rfl := some_eq h
   exact goes_iter hgo15 (changed_19, (IntKind.i64.wrap (i_12 + 1)), x_20) () [0, 1, 2, 3] rfl (qv5 rfl rfl rfl rfl rfl) (by decide) rfl
  ·replace h := cond_f h hc18
   refine run_exit _ rfl ?_
   obtain rfl := some_eq h
   obtain rfl := hstop16 _ rfl
   exact goes_cut hL9 ((changed_11, x_13), ()) [3] (qv2 rfl rfl) (by decide) rfl rfl
 rintro ⟨⟨changed_5, x_6⟩, _⟩ hj
 obtain rfl : o7 = _ := hj
 replace h := after_go ho8
 clear ho8
 change Run _ _ _ (VF.of [(6, v3), (7, .bool changed_5)]) [row v3 3 (x_6.map S_ref09_Step.enc)]
 refine run_seq ?_
 refine run_region' ?_
 refine oy rfl rfl (y_move rfl) ?_
 refine oy rfl rfl (y_move rfl) ?_
 refine oy rfl rfl (y_assign rfl) ?_
 refine oy rfl rfl (y_assign rfl) ?_
 refine ops_nil ?_
 refine goes_code ?_
 refine run_ret ?_
 obtain rfl := some_eq h
 refine fin_slots [4, 5] [v3, .bool changed_5] [0] [row v3 3 (x_6.map S_ref09_Step.enc)] Try.results50 rfl (by decide) rfl ?_
 exact ⟨_, rfl, rfl⟩

def ref09_Paths_L1 (n : Nat) (n_0 : S_api_Net) : ((List S_ref09_Step) × Bool × Int) → Option (Lp ((List S_ref09_Step) × Bool × Int) (Lp ((List S_ref09_Step) × Bool) (S_ref09_Found))) :=
 fun (l_24, changed_25, k_26) =>
  cond (decide (k_26 < n_0.Nodes) && changed_25)
   (obind (ref09_relaxed n n_0 l_24) fun r36 =>
   some (.go (r36.1, r36.2, (IntKind.i64.wrap (k_26 + 1)))))
   (some (.stop (.go (l_24, changed_25))))
def ref09_Paths_L3 (n_0 : S_api_Net) (from_1 : Int) (l_17 : (List S_ref09_Step)) (v_49 : Int) : (Int × Int) → Option (Lp (Int × Int) (Lp (Int) (Lp (Int × (List Int) × (List Int)) (Lp ((List Int) × (List Int)) (S_ref09_Found))))) :=
 fun (via_64, i_65) =>
  bindJ (S := Bool)
   (cond (decide (i_65 < (n_0.Arcs.length : Int)) && decide (v_49 ≠ from_1))
    (idx l_17 v_49 fun x79 =>
    some (.go x79.Is))
    (some (.go false)))
  (fun b73 =>
   cond b73
    (bindJ (S := Int)
     (idx n_0.Arcs i_65 fun x86 =>
     idx l_17 x86.From fun x88 =>
     bindJ (S := Bool)
      (cond ((decide (via_64 < 0) && decide (x86.To = v_49)) && x88.Is)
       (idx l_17 v_49 fun x102 =>
       some (.go (decide ((IntKind.i64.wrap (x88.Arcs + 1)) = x102.Arcs))))
       (some (.go false)))
     (fun b96 =>
      bindJ (S := Bool)
       (cond b96
        (idx l_17 v_49 fun x109 =>
        some (.go (decide ((IntKind.i64.wrap (x88.Sum + x86.Cost)) = x109.Sum))))
        (some (.go false)))
      (fun b103 =>
       cond b103
        (some (.go i_65))
        (some (.go via_64)))))
    (fun via_81 =>
     some (.go (via_81, (IntKind.i64.wrap (i_65 + 1))))))
    (some (.stop (.go via_64))))
def ref09_Paths_L2 (n : Nat) (n_0 : S_api_Net) (from_1 : Int) (l_17 : (List S_ref09_Step)) : (Int × (List Int) × (List Int)) → Option (Lp (Int × (List Int) × (List Int)) (Lp ((List Int) × (List Int)) (S_ref09_Found))) :=
 fun (v_49, x_50, x_51) =>
  cond (decide (v_49 < n_0.Nodes))
   (bindJ (S := Int)
    (iter (ref09_Paths_L3 n_0 from_1 l_17 v_49) n ((-1), 0))
   (fun via_59 =>
    idx l_17 v_49 fun x111 =>
    need (x_50.length + ([x111.Sum] : List Int).length ≤ 4294967296) (
    need (x_51.length + ([via_59] : List Int).length ≤ 4294967296) (
    some (.go ((IntKind.i64.wrap (v_49 + 1)), (x_50 ++ ([x111.Sum] : List Int)), (x_51 ++ ([via_59] : List Int))))))))
   (some (.stop (.go (x_50, x_51))))
def ref09_Paths (n : Nat) (n_0 : S_api_Net) (from_1 : Int) : Option (S_ref09_Found) :=
 obind (ref09_Valid n n_0) fun r3 =>
 bindJ (S := Bool)
  (cond (!r3)
   (some (.go true))
   (obind (ref09_node n_0 from_1) fun r11 =>
   some (.go (!r11))))
 (fun b5 =>
  cond b5
   (some (S_ref09_Found.mk (S_api_Routes.mk ([] : List Int) ([] : List Int) ([] : List Int)) false 1))
   (need (0 ≤ n_0.Nodes ∧ n_0.Nodes ≤ 4294967296) (
   idx (List.replicate (n_0.Nodes).toNat ((S_ref09_Step.mk false 0 0) : S_ref09_Step)) from_1 fun x16 =>
   bindJ (S := (List S_ref09_Step) × Bool)
    (iter (ref09_Paths_L1 n n_0) n (((List.replicate (n_0.Nodes).toNat ((S_ref09_Step.mk false 0 0) : S_ref09_Step)).set from_1.toNat (S_ref09_Step.mk true 0 0)), true, 0))
   (fun (l_17, changed_18) =>
    cond changed_18
     (some (S_ref09_Found.mk (S_api_Routes.mk ([] : List Int) ([] : List Int) ([] : List Int)) true 0))
     (bindJ (S := (List Int) × (List Int))
      (iter (ref09_Paths_L2 n n_0 from_1 l_17) n (0, ([] : List Int), ([] : List Int)))
     (fun (x_41, x_42) =>
      some (S_ref09_Found.mk (S_api_Routes.mk x_41 x_42 ([] : List Int)) false 0)))))))
theorem ref09_Paths_ok (n : Nat) (n_0 : S_api_Net) (from_1 : Int) (n_0_Arcsv : Value) {r : S_ref09_Found} (h : ref09_Paths n n_0 from_1 = some r) :
  Meets Try.prog 23 [.agg #[.int .i64 n_0.Nodes, n_0_Arcsv], .int .i64 from_1] [ro n_0_Arcsv 4 (n_0.Arcs.map S_api_Arc.enc)] (fun v G => ∃ v0 v1 v2, v = .agg #[v0, v1, v2, .bool r.Negative, .int .i64 r.E] ∧ G = [row v0 1 (r.R.Dist.map (eInt .i64)), row v1 1 (r.R.Via.map (eInt .i64)), row v2 1 (r.R.Cycle.map (eInt .i64))]) := by
 refine fn_of_run Try.func23 rfl Try.ntmps23 rfl (fun w0 o0 => ?_)
 refine run_seq ?_
 refine run_region' ?_
 refine ot rfl rfl (t_box rfl) ?_
 rintro _ _ ⟨b1, rfl, rfl⟩
 refine ot rfl rfl (t_alloc Try.zeroValue55) ?_
 rintro _ _ ⟨b2, rfl, rfl⟩
 refine ops_nil ?_
 refine goes_code ?_
 refine run_seq ?_
 refine run_seq ?_
 refine run_region' ?_
 refine oy rfl rfl (y_load_boxagg (c := [.int .i64 n_0.Nodes, n_0_Arcsv]) 1 Try.isAgg24 Try.sizeOf24 rfl rfl rfl) ?_
 obtain ⟨r3, hr4, h⟩ := obind_some h
 refine ot rfl rfl (t_callx (vs := [.agg #[.int .i64 n_0.Nodes, n_0_Arcsv]]) (cs := []) [(0, 0)] rfl Try.call18 rfl (ref09_Valid_ok n n_0 n_0_Arcsv hr4) (showsX_view 0 rfl views_ro showsX_nil) rfl (.inl rfl)) ?_
 rintro _ _ ⟨_, ⟨rfl, rfl⟩, rfl⟩
 refine oy rfl rfl (y_not rfl) ?_
 refine oy rfl rfl (y_move rfl) ?_
 obtain ⟨o6, h, ho7⟩ := bindJ_some h
 refine ops_cut 5 (Bool) (fun σ => [(1, .int .i64 from_1), (2, boxP b1 0), (4, boxP b2 0), (22, .bool σ)]) (fun σ => [ro n_0_Arcsv 4 (n_0.Arcs.map S_api_Arc.enc), box b1 [.int .i64 n_0.Nodes, n_0_Arcsv], box b2 [.slice none 0 0, .slice none 0 0, .slice none 0 0, .bool false, .int .i64 0]]) (fun σ => o6 = .go σ) (fun L8 hL9 => ?_) ?_
 ·refine ops_split 17 (!r3) rfl (fun hg10 => ?_) (fun hg10 => ?_)
  ·replace h := cond_t h hg10
   refine ops_no 3 false 17 rfl rfl rfl rfl rfl ?_
   refine ops_no 3 false 17 rfl rfl rfl rfl rfl ?_
   refine ops_no 3 false 17 rfl rfl rfl rfl rfl ?_
   refine ops_no 3 false 17 rfl rfl rfl rfl rfl ?_
   refine oy rfl rfl (y_pick (b := true) rfl rfl) ?_
   refine ops_nil ?_
   obtain rfl := some_eq h
   exact goes_cut hL9 true [0, 1, 2] (qv4 rfl rfl rfl rfl) (by decide) rfl rfl
  ·replace h := cond_f h hg10
   refine ops_y (wg 3 false 17 rfl rfl rfl rfl) rfl (y_load_boxagg (c := [.int .i64 n_0.Nodes, n_0_Arcsv]) 1 Try.isAgg24 Try.sizeOf24 rfl rfl rfl) ?_
   refine ops_y (wg 3 false 17 rfl rfl rfl rfl) rfl (y_move rfl) ?_
   obtain ⟨r11, hr12, h⟩ := obind_some h
   refine ops_t (wg 3 false 17 rfl rfl rfl rfl) rfl (t_callx (vs := [.agg #[.int .i64 n_0.Nodes, n_0_Arcsv], .int .i64 from_1]) (cs := []) [(0, 0)] rfl Try.call43 rfl (ref09_node_ok n_0 from_1 n_0_Arcsv hr12) (showsX_view 0 rfl views_ro showsX_nil) rfl (.inl rfl)) ?_
   rintro _ _ ⟨_, ⟨rfl, rfl⟩, rfl⟩
   refine ops_y (wg 3 false 17 rfl rfl rfl rfl) rfl (y_not rfl) ?_
   refine oy rfl rfl (y_pick (b := false) rfl rfl) ?_
   refine ops_nil ?_
   obtain rfl := some_eq h
   exact goes_cut hL9 (!r11) [0, 1, 2] (qv4 rfl rfl rfl rfl) (by decide) rfl rfl
 rintro b5 hj
 obtain rfl : o6 = _ := hj
 replace h := after_go ho7
 clear ho7
 refine ops_nil ?_
 refine goes_code ?_
 refine run_cond b5 rfl (fun hc13 => ?_) (fun hc13 => ?_)
 ·replace h := cond_t h hc13
  refine run_seq ?_
  refine run_region' ?_
  refine oy rfl rfl (y_build_struct (cells := #[.slice none 0 0, .slice none 0 0, .slice none 0 0, .bool false, .int .i64 1]) [(2, .int .i64 1)] [(2, [.int .i64 1])] Try.zeroValue55 Try.runUnderlying55 (fs_cons Try.sizeOf51 (fs_cons Try.sizeOf4 (fs_cons Try.sizeOf28 fs_nil))) rfl rfl rfl) ?_
  refine ot rfl rfl (t_store 2 Try.sizeOf55 rfl rfl rfl rfl (by simp [Value.cells, boxP]) (by simp [Value.cells, Value.oneCell', boxP])) ?_
  rintro _ _ ⟨rfl, rfl⟩
  refine ops_turn (retell 2 (g := box b2 [.slice none 0 0, .slice none 0 0, .slice none 0 0, .bool false, .int .i64 1]) rfl rfl) ?_
  refine ops_nil ?_
  refine goes_code ?_
  refine run_ret ?_
  refine fin_turn (nilrow 1) ?_
  refine fin_turn (retell 3 (g := row (.slice none 0 0) 1 (([] : List Int).map (eInt .i64))) rfl rfl) ?_
  refine fin_turn (nilrow 1) ?_
  refine fin_turn (retell 4 (g := row (.slice none 0 0) 1 (([] : List Int).map (eInt .i64))) rfl rfl) ?_
  refine fin_turn (nilrow 1) ?_
  refine fin_turn (retell 5 (g := row (.slice none 0 0) 1 (([] : List Int).map (eInt .i64))) rfl rfl) ?_
  obtain rfl := some_eq h
  refine fin_res [.cell 4 55] [.agg #[(.slice none 0 0), (.slice none 0 0), (.slice none 0 0), .bool false, .int .i64 1]] [3, 4, 5] [row (.slice none 0 0) 1 (([] : List Int).map (eInt .i64)), row (.slice none 0 0) 1 (([] : List Int).map (eInt .i64)), row (.slice none 0 0) 1 (([] : List Int).map (eInt .i64))] Try.results23 rfl (rescons (res_box 2 Try.isAgg55 Try.sizeOf55 rfl rfl rfl) resnil) (by decide) rfl ?_
  exact ⟨_, _, _, rfl, rfl⟩
 ·replace h := cond_f h hc13
  refine run_skip ?_
  refine goes_code ?_
  refine run_seq ?_
  refine run_region' ?_
  refine oy rfl rfl (y_fieldAddr_box (sz := 0) Try.runUnderlying24 rfl Try.sizeOf3 rfl) ?_
  refine oy rfl rfl (y_load_box 1 Try.isAgg3 rfl rfl rfl) ?_
  obtain ⟨hm15, h⟩ := need_some h
  refine ot rfl rfl (t_makeSlice (es := 3) Try.runUnderlying91 Try.typeInfo93 rfl Try.zeroValue93 rfl (by decide) rfl rfl hm15.1 hm15.2 (by decide)) ?_
  rintro v14 _ rfl
  refine ops_turn (retell 3 (g := row v14 3 ((List.replicate (n_0.Nodes).toNat ((S_ref09_Step.mk false 0 0) : S_ref09_Step)).map S_ref09_Step.enc)) rfl (congrArg (row _ _) (map_rep rfl))) ?_
  refine oy rfl rfl (y_assign rfl) ?_
  refine ops_nil ?_
  refine goes_code ?_
  refine run_seq ?_
  refine run_region' ?_
  refine oy rfl rfl (y_move rfl) ?_
  refine oy rfl rfl (y_move rfl) ?_
  refine oy rfl rfl (y_build_struct (cells := #[.bool true, .int .i64 0, .int .i64 0]) [(0, .bool true)] [(0, [.bool true])] Try.zeroValue93 Try.runUnderlying93 (fs_cons Try.sizeOf4 (fs_cons Try.sizeOf3 (fs_cons Try.sizeOf3 fs_nil))) rfl rfl rfl) ?_
  obtain ⟨x16, hzx16, hlx16, hxx16, h⟩ := idx_some h
  refine oy rfl rfl (y_indexAddrI (kd := .i64) (i := from_1) 3 Try.runUnderlying91 Try.sizeOf93 rfl rfl rfl reads_row hzx16 (map_lt hlx16)) ?_
  refine ot rfl rfl (t_store_row (i := from_1.toNat) (j := 0) (c := S_ref09_Step.enc x16) 3 Try.sizeOf93 rfl rfl rfl rfl (map_get hxx16) (by decide) (by simp [Value.cells, Value.oneCell', boxP])) ?_
  rintro _ _ ⟨rfl, rfl⟩
  refine ops_turn (retell 3 (g := row v14 3 (((List.replicate (n_0.Nodes).toNat ((S_ref09_Step.mk false 0 0) : S_ref09_Step)).set from_1.toNat (S_ref09_Step.mk true 0 0)).map S_ref09_Step.enc)) rfl (congrArg (row _ _) (map_set_at rfl))) ?_
  refine ops_nil ?_
  refine goes_code ?_
  refine run_seq ?_
  refine run_weak [(1, .int .i64 from_1), (2, boxP b1 0), (4, boxP b2 0), (5, v14)] [0, 1, 2, 3] [ro n_0_Arcsv 4 (n_0.Arcs.map S_api_Arc.enc), box b1 [.int .i64 n_0.Nodes, n_0_Arcsv], box b2 [.slice none 0 0, .slice none 0 0, .slice none 0 0, .bool false, .int .i64 0], row v14 3 (((List.replicate (n_0.Nodes).toNat ((S_ref09_Step.mk false 0 0) : S_ref09_Step)).set from_1.toNat (S_ref09_Step.mk true 0 0)).map S_ref09_Step.enc)] (qv4 rfl rfl rfl rfl) (by decide) rfl ?_
  refine run_region' ?_
  refine oy rfl rfl (y_assign rfl) ?_
  refine ops_nil ?_
  refine goes_code ?_
  obtain ⟨o20, h, ho21⟩ := bindJ_some h
  refine run_cut (((List S_ref09_Step) × Bool) × (Value)) (fun σ => [(1, .int .i64 from_1), (2, boxP b1 0), (4, boxP b2 0), (5, σ.2), (6, .bool σ.1.2)]) (fun σ => [box b1 [.int .i64 n_0.Nodes, n_0_Arcsv], ro n_0_Arcsv 4 (n_0.Arcs.map S_api_Arc.enc), box b2 [.slice none 0 0, .slice none 0 0, .slice none 0 0, .bool false, .int .i64 0], row σ.2 3 (σ.1.1.map S_ref09_Step.enc)]) (fun σ => o20 = .go σ.1) (fun L23 hL22 => ?_) ?_
  ·
   refine run_seq ?_
   refine run_region' ?_
   refine oy rfl rfl (y_assign rfl) ?_
   refine ops_nil ?_
   refine goes_code ?_
   refine run_block ?_
   refine run_iter (step := ref09_Paths_L1 n n_0) (n := n) (s0 := (((List.replicate (n_0.Nodes).toNat ((S_ref09_Step.mk false 0 0) : S_ref09_Step)).set from_1.toNat (S_ref09_Step.mk true 0 0)), true, 0)) h (G := Value) v14 (fun σ γ => [(1, .int .i64 from_1), (2, boxP b1 0), (4, boxP b2 0), (5, γ), (6, .bool σ.2.1), (7, .int .i64 σ.2.2)]) (fun σ γ => [box b1 [.int .i64 n_0.Nodes, n_0_Arcsv], ro n_0_Arcsv 4 (n_0.Arcs.map S_api_Arc.enc), box b2 [.slice none 0 0, .slice none 0 0, .slice none 0 0, .bool false, .int .i64 0], row γ 3 (σ.1.map S_ref09_Step.enc)]) [1, 0, 2, 3] (qv6 rfl rfl rfl rfl rfl rfl) (by decide) rfl ?_
   rintro ⟨l_24, changed_25, k_26⟩ v27 o28 h L31 hgo29 hstop30
   change Run _ _ _ (VF.of [(1, .int .i64 from_1), (2, boxP b1 0), (4, boxP b2 0), (5, v27), (6, .bool changed_25), (7, .int .i64 k_26)]) [box b1 [.int .i64 n_0.Nodes, n_0_Arcsv], ro n_0_Arcsv 4 (n_0.Arcs.map S_api_Arc.enc), box b2 [.slice none 0 0, .slice none 0 0, .slice none 0 0, .bool false, .int .i64 0], row v27 3 (l_24.map S_ref09_Step.enc)]
   refine run_seq ?_
   refine run_seq ?_
   refine run_region' ?_
   refine oy rfl rfl (y_move rfl) ?_
   refine oy rfl rfl (y_fieldAddr_box (sz := 0) Try.runUnderlying24 rfl Try.sizeOf3 rfl) ?_
   refine oy rfl rfl (y_load_box 0 Try.isAgg3 rfl rfl rfl) ?_
   refine oy rfl rfl (y_lss rfl rfl) ?_
   refine oy rfl rfl (y_move rfl) ?_
   refine ops_cut 2 (Bool) (fun σ => [(1, .int .i64 from_1), (2, boxP b1 0), (4, boxP b2 0), (5, v27), (6, .bool changed_25), (7, .int .i64 k_26), (37, .bool σ)]) (fun σ => [box b1 [.int .i64 n_0.Nodes, n_0_Arcsv], ro n_0_Arcsv 4 (n_0.Arcs.map S_api_Arc.enc), box b2 [.slice none 0 0, .slice none 0 0, .slice none 0 0, .bool false, .int .i64 0], row v27 3 (l_24.map S_ref09_Step.enc)]) (fun σ => σ = (decide (k_26 < n_0.Nodes) && changed_25)) (fun L32 hL33 => ?_) ?_
   ·refine ops_split 35 (decide (k_26 < n_0.Nodes)) rfl (fun hg34 => ?_) (fun hg34 => ?_)
    ·skip
     refine ops_y (wg 4 true 35 rfl rfl rfl rfl) rfl (y_move rfl) ?_
     refine oy rfl rfl (y_pick (b := true) rfl rfl) ?_
     refine ops_nil ?_
     exact goes_cut hL33 changed_25 [0, 1, 2, 3] (qv7 rfl rfl rfl rfl rfl rfl rfl) (by decide) rfl (by rw [hg34]; simp)
    ·skip
     refine ops_no 4 true 35 rfl rfl rfl rfl rfl ?_
     refine oy rfl rfl (y_pick (b := false) rfl rfl) ?_
     refine ops_nil ?_
     exact goes_cut hL33 false [0, 1, 2, 3] (qv7 rfl rfl rfl rfl rfl rfl rfl) (by decide) rfl (by rw [hg34]; simp)
   rintro _ rfl
   refine ops_nil ?_
   refine goes_code ?_
   refine run_cond (decide (k_26 < n_0.Nodes) && changed_25) rfl (fun hc35 => ?_) (fun hc35 => ?_)
   ·replace h := cond_t h hc35
    refine run_skip ?_
    refine goes_code ?_
    refine run_seq ?_
    refine run_block ?_
    refine run_region' ?_
    refine oy rfl rfl (y_load_boxagg (c := [.int .i64 n_0.Nodes, n_0_Arcsv]) 0 Try.isAgg24 Try.sizeOf24 rfl rfl rfl) ?_
    refine oy rfl rfl (y_move rfl) ?_
    obtain ⟨r36, hr37, h⟩ := obind_some h
    refine ot rfl rfl (t_callx (vs := [.agg #[.int .i64 n_0.Nodes, n_0_Arcsv], v27]) (cs := []) [(1, 0), (3, 1)] rfl Try.call50 rfl (ref09_relaxed_ok n n_0 l_24 n_0_Arcsv v27 hr37) (showsX_view 1 rfl views_ro (showsX_look 3 rfl views_row showsX_nil)) rfl (.inr (by rintro _ _ ⟨_, rfl, rfl⟩ g hg; first | (cases hg; done) | (simp only [List.mem_cons, List.not_mem_nil, or_false] at hg; first | (subst hg; first | exact strict_row | exact strict_box) | (rcases hg with rfl | rfl <;> first | exact strict_row | exact strict_box) | (rcases hg with rfl | rfl | rfl <;> first | exact strict_row | exact strict_box))))) ?_
    rintro _ _ ⟨_, ⟨v38, rfl, rfl⟩, rfl⟩
    refine oy rfl rfl (y_move rfl) ?_
    refine oy rfl rfl (y_extract rfl rfl) ?_
    refine oy rfl rfl (y_extract rfl rfl) ?_
    refine oy rfl rfl (y_assign rfl) ?_
    refine oy rfl rfl (y_assign rfl) ?_
    refine ops_nil ?_
    refine goes_blk ?_
    refine goes_code ?_
    refine run_weak [(1, .int .i64 from_1), (2, boxP b1 0), (4, boxP b2 0), (5, v38), (6, .bool r36.2), (7, .int .i64 k_26)] [0, 1, 2, 4] [box b1 [.int .i64 n_0.Nodes, n_0_Arcsv], ro n_0_Arcsv 4 (n_0.Arcs.map S_api_Arc.enc), box b2 [.slice none 0 0, .slice none 0 0, .slice none 0 0, .bool false, .int .i64 0], row v38 3 (r36.1.map S_ref09_Step.enc)] (qv6 rfl rfl rfl rfl rfl rfl) (by decide) rfl ?_
    refine run_region' ?_
    refine oy rfl rfl (y_move rfl) ?_
    refine oy rfl rfl (y_add rfl rfl) ?_
    refine oy rfl rfl (y_assign rfl) ?_
    refine ops_nil ?_
    obtain rfl := some_eq h
    exact goes_iter hgo29 (r36.1, r36.2, (IntKind.i64.wrap (k_26 + 1))) v38 [0, 1, 2, 3] rfl (qv6 rfl rfl rfl rfl rfl rfl) (by decide) rfl
   ·replace h := cond_f h hc35
    refine run_exit _ rfl ?_
    obtain rfl := some_eq h
    obtain rfl := hstop30 _ rfl
    exact goes_cut hL22 ((l_24, changed_25), v27) [0, 1, 2, 3] (qv5 rfl rfl rfl rfl rfl) (by decide) rfl rfl
  rintro ⟨⟨l_17, changed_18⟩, v19⟩ hj
  obtain rfl : o20 = _ := hj
  replace h := after_go ho21
  clear ho21
  change Run _ _ _ (VF.of [(1, .int .i64 from_1), (2, boxP b1 0), (4, boxP b2 0), (5, v19), (6, .bool changed_18)]) [box b1 [.int .i64 n_0.Nodes, n_0_Arcsv], ro n_0_Arcsv 4 (n_0.Arcs.map S_api_Arc.enc), box b2 [.slice none 0 0, .slice none 0 0, .slice none 0 0, .bool false, .int .i64 0], row v19 3 (l_17.map S_ref09_Step.enc)]
  refine run_seq ?_
  refine run_seq ?_
  refine run_region' ?_
  refine oy rfl rfl (y_move rfl) ?_
  refine ops_nil ?_
  refine goes_code ?_
  refine run_cond changed_18 rfl (fun hc39 => ?_) (fun hc39 => ?_)
  ·replace h := cond_t h hc39
   refine run_seq ?_
   refine run_region' ?_
   refine oy rfl rfl (y_build_struct (cells := #[.slice none 0 0, .slice none 0 0, .slice none 0 0, .bool true, .int .i64 0]) [(1, .bool true)] [(1, [.bool true])] Try.zeroValue55 Try.runUnderlying55 (fs_cons Try.sizeOf51 (fs_cons Try.sizeOf4 (fs_cons Try.sizeOf28 fs_nil))) rfl rfl rfl) ?_
   refine ot rfl rfl (t_store 2 Try.sizeOf55 rfl rfl rfl rfl (by simp [Value.cells, boxP]) (by simp [Value.cells, Value.oneCell', boxP])) ?_
   rintro _ _ ⟨rfl, rfl⟩
   refine ops_turn (retell 2 (g := box b2 [.slice none 0 0, .slice none 0 0, .slice none 0 0, .bool true, .int .i64 0]) rfl rfl) ?_
   refine ops_nil ?_
   refine goes_code ?_
   refine run_ret ?_
   refine fin_turn (nilrow 1) ?_
   refine fin_turn (retell 4 (g := row (.slice none 0 0) 1 (([] : List Int).map (eInt .i64))) rfl rfl) ?_
   refine fin_turn (nilrow 1) ?_
   refine fin_turn (retell 5 (g := row (.slice none 0 0) 1 (([] : List Int).map (eInt .i64))) rfl rfl) ?_
   refine fin_turn (nilrow 1) ?_
   refine fin_turn (retell 6 (g := row (.slice none 0 0) 1 (([] : List Int).map (eInt .i64))) rfl rfl) ?_
   obtain rfl := some_eq h
   refine fin_res [.cell 4 55] [.agg #[(.slice none 0 0), (.slice none 0 0), (.slice none 0 0), .bool true, .int .i64 0]] [4, 5, 6] [row (.slice none 0 0) 1 (([] : List Int).map (eInt .i64)), row (.slice none 0 0) 1 (([] : List Int).map (eInt .i64)), row (.slice none 0 0) 1 (([] : List Int).map (eInt .i64))] Try.results23 rfl (rescons (res_box 2 Try.isAgg55 Try.sizeOf55 rfl rfl rfl) resnil) (by decide) rfl ?_
   exact ⟨_, _, _, rfl, rfl⟩
  ·replace h := cond_f h hc39
   refine run_skip ?_
   refine goes_code ?_
   refine run_seq ?_
   refine run_region' ?_
   refine oy rfl rfl (y_build_struct (cells := #[.slice none 0 0, .slice none 0 0, .slice none 0 0]) [] [] Try.zeroValue51 Try.runUnderlying51 (fs_cons Try.sizeOf34 (fs_cons Try.sizeOf34 (fs_cons Try.sizeOf34 fs_nil))) rfl rfl rfl) ?_
   refine ot rfl rfl (t_alloc Try.zeroValue51) ?_
   rintro _ _ ⟨b40, rfl, rfl⟩
   refine ot rfl rfl (t_store 4 Try.sizeOf51 rfl rfl rfl rfl (by simp [Value.cells, boxP]) (by simp [Value.cells, Value.oneCell', boxP])) ?_
   rintro _ _ ⟨rfl, rfl⟩
   refine ops_turn (retell 4 (g := box b40 [.slice none 0 0, .slice none 0 0, .slice none 0 0]) rfl rfl) ?_
   refine ops_nil ?_
   refine goes_code ?_
   obtain ⟨o45, h, ho46⟩ := bindJ_some h
   refine run_cut (((List Int) × (List Int)) × (Value × Value)) (fun σ => [(4, boxP b2 0), (8, boxP b40 0)]) (fun σ => [box b2 [.slice none 0 0, .slice none 0 0, .slice none 0 0, .bool false, .int .i64 0], box b40 [σ.2.1, σ.2.2, .slice none 0 0], row σ.2.1 1 (σ.1.1.map (eInt .i64)), row σ.2.2 1 (σ.1.2.map (eInt .i64))]) (fun σ => o45 = .go σ.1) (fun L48 hL47 => ?_) ?_
   ·
    refine run_seq ?_
    refine run_region' ?_
    refine oy rfl rfl (y_assign rfl) ?_
    refine ops_nil ?_
    refine goes_code ?_
    refine run_block ?_
    refine run_turn (nilrow 1) ?_
    refine run_turn (retell 5 (g := row (.slice none 0 0) 1 (([] : List Int).map (eInt .i64))) rfl rfl) ?_
    refine run_turn (nilrow 1) ?_
    refine run_turn (retell 6 (g := row (.slice none 0 0) 1 (([] : List Int).map (eInt .i64))) rfl rfl) ?_
    refine run_iter (step := ref09_Paths_L2 n n_0 from_1 l_17) (n := n) (s0 := (0, ([] : List Int), ([] : List Int))) h (G := Value × Value) ((.slice none 0 0), (.slice none 0 0)) (fun σ γ => [(1, .int .i64 from_1), (2, boxP b1 0), (4, boxP b2 0), (5, v19), (8, boxP b40 0), (9, .int .i64 σ.1)]) (fun σ γ => [box b1 [.int .i64 n_0.Nodes, n_0_Arcsv], ro n_0_Arcsv 4 (n_0.Arcs.map S_api_Arc.enc), box b2 [.slice none 0 0, .slice none 0 0, .slice none 0 0, .bool false, .int .i64 0], row v19 3 (l_17.map S_ref09_Step.enc), box b40 [γ.1, γ.2, .slice none 0 0], row γ.1 1 (σ.2.1.map (eInt .i64)), row γ.2 1 (σ.2.2.map (eInt .i64))]) [0, 1, 2, 3, 4, 5, 6] (qv6 rfl rfl rfl rfl rfl rfl) (by decide) rfl ?_
    rintro ⟨v_49, x_50, x_51⟩ ⟨v52, v53⟩ o54 h L57 hgo55 hstop56
    change Run _ _ _ (VF.of [(1, .int .i64 from_1), (2, boxP b1 0), (4, boxP b2 0), (5, v19), (8, boxP b40 0), (9, .int .i64 v_49)]) [box b1 [.int .i64 n_0.Nodes, n_0_Arcsv], ro n_0_Arcsv 4 (n_0.Arcs.map S_api_Arc.enc), box b2 [.slice none 0 0, .slice none 0 0, .slice none 0 0, .bool false, .int .i64 0], row v19 3 (l_17.map S_ref09_Step.enc), box b40 [v52, v53, .slice none 0 0], row v52 1 (x_50.map (eInt .i64)), row v53 1 (x_51.map (eInt .i64))]
    refine run_seq ?_
    refine run_seq ?_
    refine run_region' ?_
    refine oy rfl rfl (y_move rfl) ?_
    refine oy rfl rfl (y_fieldAddr_box (sz := 0) Try.runUnderlying24 rfl Try.sizeOf3 rfl) ?_
    refine oy rfl rfl (y_load_box 0 Try.isAgg3 rfl rfl rfl) ?_
    refine oy rfl rfl (y_lss rfl rfl) ?_
    refine ops_nil ?_
    refine goes_code ?_
    refine run_cond (decide (v_49 < n_0.Nodes)) rfl (fun hc58 => ?_) (fun hc58 => ?_)
    ·replace h := cond_t h hc58
     refine run_skip ?_
     refine goes_code ?_
     refine run_seq ?_
     refine run_block ?_
     refine run_seq ?_
     refine run_region' ?_
     refine oy rfl rfl (y_assign rfl) ?_
     refine ops_nil ?_
     refine goes_code ?_
     obtain ⟨o60, h, ho61⟩ := bindJ_some h
     refine run_cut ((Int) × (Unit)) (fun σ => [(1, .int .i64 from_1), (2, boxP b1 0), (4, boxP b2 0), (5, v19), (8, boxP b40 0), (9, .int .i64 v_49), (10, .int .i64 σ.1)]) (fun σ => [box b1 [.int .i64 n_0.Nodes, n_0_Arcsv], ro n_0_Arcsv 4 (n_0.Arcs.map S_api_Arc.enc), box b2 [.slice none 0 0, .slice none 0 0, .slice none 0 0, .bool false, .int .i64 0], row v19 3 (l_17.map S_ref09_Step.enc), box b40 [v52, v53, .slice none 0 0], row v52 1 (x_50.map (eInt .i64)), row v53 1 (x_51.map (eInt .i64))]) (fun σ => o60 = .go σ.1) (fun L63 hL62 => ?_) ?_
     ·
      refine run_seq ?_
      refine run_region' ?_
      refine oy rfl rfl (y_assign rfl) ?_
      refine ops_nil ?_
      refine goes_code ?_
      refine run_block ?_
      refine run_iter (step := ref09_Paths_L3 n_0 from_1 l_17 v_49) (n := n) (s0 := ((-1), 0)) h (G := Unit) () (fun σ γ => [(1, .int .i64 from_1), (2, boxP b1 0), (4, boxP b2 0), (5, v19), (8, boxP b40 0), (9, .int .i64 v_49), (10, .int .i64 σ.1), (11, .int .i64 σ.2)]) (fun σ γ => [box b1 [.int .i64 n_0.Nodes, n_0_Arcsv], ro n_0_Arcsv 4 (n_0.Arcs.map S_api_Arc.enc), box b2 [.slice none 0 0, .slice none 0 0, .slice none 0 0, .bool false, .int .i64 0], row v19 3 (l_17.map S_ref09_Step.enc), box b40 [v52, v53, .slice none 0 0], row v52 1 (x_50.map (eInt .i64)), row v53 1 (x_51.map (eInt .i64))]) [0, 1, 2, 3, 4, 5, 6] (qv8 rfl rfl rfl rfl rfl rfl rfl rfl) (by decide) rfl ?_
      rintro ⟨via_64, i_65⟩ _ o66 h L69 hgo67 hstop68
      change Run _ _ _ (VF.of [(1, .int .i64 from_1), (2, boxP b1 0), (4, boxP b2 0), (5, v19), (8, boxP b40 0), (9, .int .i64 v_49), (10, .int .i64 via_64), (11, .int .i64 i_65)]) [box b1 [.int .i64 n_0.Nodes, n_0_Arcsv], ro n_0_Arcsv 4 (n_0.Arcs.map S_api_Arc.enc), box b2 [.slice none 0 0, .slice none 0 0, .slice none 0 0, .bool false, .int .i64 0], row v19 3 (l_17.map S_ref09_Step.enc), box b40 [v52, v53, .slice none 0 0], row v52 1 (x_50.map (eInt .i64)), row v53 1 (x_51.map (eInt .i64))]
      refine run_seq ?_
      refine run_seq ?_
      refine run_region' ?_
      refine oy rfl rfl (y_move rfl) ?_
      refine oy rfl rfl (y_fieldAddr_box (sz := 0) Try.runUnderlying24 rfl Try.sizeOf22 rfl) ?_
      refine oy rfl rfl (y_load_box 0 Try.isAgg22 rfl rfl rfl) ?_
      refine oy rfl rfl ((y_len 1 rfl Try.runUnderlying22 rfl rfl reads_ro).to (v_len S_api_Arc.enc _)) ?_
      refine oy rfl rfl (y_lss rfl rfl) ?_
      refine oy rfl rfl (y_move rfl) ?_
      refine ops_cut 4 (Bool) (fun σ => [(1, .int .i64 from_1), (2, boxP b1 0), (4, boxP b2 0), (5, v19), (8, boxP b40 0), (9, .int .i64 v_49), (10, .int .i64 via_64), (11, .int .i64 i_65), (64, .bool σ)]) (fun σ => [box b1 [.int .i64 n_0.Nodes, n_0_Arcsv], ro n_0_Arcsv 4 (n_0.Arcs.map S_api_Arc.enc), box b2 [.slice none 0 0, .slice none 0 0, .slice none 0 0, .bool false, .int .i64 0], row v19 3 (l_17.map S_ref09_Step.enc), box b40 [v52, v53, .slice none 0 0], row v52 1 (x_50.map (eInt .i64)), row v53 1 (x_51.map (eInt .i64))]) (fun σ => σ = (decide (i_65 < (n_0.Arcs.length : Int)) && decide (v_49 ≠ from_1))) (fun L70 hL71 => ?_) ?_
      ·refine ops_split 60 (decide (i_65 < (n_0.Arcs.length : Int))) rfl (fun hg72 => ?_) (fun hg72 => ?_)
       ·skip
        refine ops_y (wg 5 true 60 rfl rfl rfl rfl) rfl (y_move rfl) ?_
        refine ops_y (wg 5 true 60 rfl rfl rfl rfl) rfl (y_move rfl) ?_
        refine ops_y (wg 5 true 60 rfl rfl rfl rfl) rfl (y_neq rfl rfl) ?_
        refine oy rfl rfl (y_pick (b := true) rfl rfl) ?_
        refine ops_nil ?_
        exact goes_cut hL71 (decide (v_49 ≠ from_1)) [0, 1, 2, 3, 4, 5, 6] (qv9 rfl rfl rfl rfl rfl rfl rfl rfl rfl) (by decide) rfl (by rw [hg72]; simp)
       ·skip
        refine ops_no 5 true 60 rfl rfl rfl rfl rfl ?_
        refine ops_no 5 true 60 rfl rfl rfl rfl rfl ?_
        refine ops_no 5 true 60 rfl rfl rfl rfl rfl ?_
        refine oy rfl rfl (y_pick (b := false) rfl rfl) ?_
        refine ops_nil ?_
        exact goes_cut hL71 false [0, 1, 2, 3, 4, 5, 6] (qv9 rfl rfl rfl rfl rfl rfl rfl rfl rfl) (by decide) rfl (by rw [hg72]; simp)
      rintro _ rfl
      refine oy rfl rfl (y_move rfl) ?_
      obtain ⟨o74, h, ho75⟩ := bindJ_some h
      refine ops_cut 6 (Bool) (fun σ => [(1, .int .i64 from_1), (2, boxP b1 0), (4, boxP b2 0), (5, v19), (8, boxP b40 0), (9, .int .i64 v_49), (10, .int .i64 via_64), (11, .int .i64 i_65), (71, .bool σ)]) (fun σ => [box b1 [.int .i64 n_0.Nodes, n_0_Arcsv], ro n_0_Arcsv 4 (n_0.Arcs.map S_api_Arc.enc), box b2 [.slice none 0 0, .slice none 0 0, .slice none 0 0, .bool false, .int .i64 0], row v19 3 (l_17.map S_ref09_Step.enc), box b40 [v52, v53, .slice none 0 0], row v52 1 (x_50.map (eInt .i64)), row v53 1 (x_51.map (eInt .i64))]) (fun σ => o74 = .go σ) (fun L76 hL77 => ?_) ?_
      ·refine ops_split 65 (decide (i_65 < (n_0.Arcs.length : Int)) && decide (v_49 ≠ from_1)) rfl (fun hg78 => ?_) (fun hg78 => ?_)
       ·replace h := cond_t h hg78
        refine ops_y (wg 10 true 65 rfl rfl rfl rfl) rfl (y_move rfl) ?_
        refine ops_y (wg 10 true 65 rfl rfl rfl rfl) rfl (y_move rfl) ?_
        obtain ⟨x79, hzx79, hlx79, hxx79, h⟩ := idx_some h
        refine ops_y (wg 10 true 65 rfl rfl rfl rfl) rfl (y_indexAddrI (kd := .i64) (i := v_49) 3 Try.runUnderlying91 Try.sizeOf93 rfl rfl rfl reads_row hzx79 (map_lt hlx79)) ?_
        refine ops_y (wg 10 true 65 rfl rfl rfl rfl) rfl (y_fieldAddr_elem (sz := 0) Try.runUnderlying93 rfl Try.sizeOf4 rfl) ?_
        refine ops_y (wg 10 true 65 rfl rfl rfl rfl) rfl (y_load_field (i := v_49.toNat) (j := 0) 3 Try.isAgg4 rfl rfl reads_row (map_get hxx79) rfl) ?_
        refine oy rfl rfl (y_pick (b := true) rfl rfl) ?_
        refine ops_nil ?_
        obtain rfl := some_eq h
        exact goes_cut hL77 x79.Is [0, 1, 2, 3, 4, 5, 6] (qv9 rfl rfl rfl rfl rfl rfl rfl rfl rfl) (by decide) rfl rfl
       ·replace h := cond_f h hg78
        refine ops_no 10 true 65 rfl rfl rfl rfl rfl ?_
        refine ops_no 10 true 65 rfl rfl rfl rfl rfl ?_
        refine ops_no 10 true 65 rfl rfl rfl rfl rfl ?_
        refine ops_no 10 true 65 rfl rfl rfl rfl rfl ?_
        refine ops_no 10 true 65 rfl rfl rfl rfl rfl ?_
        refine oy rfl rfl (y_pick (b := false) rfl rfl) ?_
        refine ops_nil ?_
        obtain rfl := some_eq h
        exact goes_cut hL77 false [0, 1, 2, 3, 4, 5, 6] (qv9 rfl rfl rfl rfl rfl rfl rfl rfl rfl) (by decide) rfl rfl
      rintro b73 hj
      obtain rfl : o74 = _ := hj
      replace h := after_go ho75
      clear ho75
      refine ops_nil ?_
      refine goes_code ?_
      refine run_cond b73 rfl (fun hc80 => ?_) (fun hc80 => ?_)
      ·replace h := cond_t h hc80
       refine run_skip ?_
       refine goes_code ?_
       obtain ⟨o82, h, ho83⟩ := bindJ_some h
       refine run_cut ((Int) × (Unit)) (fun σ => [(1, .int .i64 from_1), (2, boxP b1 0), (4, boxP b2 0), (5, v19), (8, boxP b40 0), (9, .int .i64 v_49), (10, .int .i64 σ.1), (11, .int .i64 i_65)]) (fun σ => [box b1 [.int .i64 n_0.Nodes, n_0_Arcsv], ro n_0_Arcsv 4 (n_0.Arcs.map S_api_Arc.enc), box b2 [.slice none 0 0, .slice none 0 0, .slice none 0 0, .bool false, .int .i64 0], row v19 3 (l_17.map S_ref09_Step.enc), box b40 [v52, v53, .slice none 0 0], row v52 1 (x_50.map (eInt .i64)), row v53 1 (x_51.map (eInt .i64))]) (fun σ => o82 = .go σ.1) (fun L85 hL84 => ?_) ?_
       ·
        refine run_block ?_
        refine run_seq ?_
        refine run_region' ?_
        refine oy rfl rfl (y_fieldAddr_box (sz := 0) Try.runUnderlying24 rfl Try.sizeOf22 rfl) ?_
        refine oy rfl rfl (y_load_box 0 Try.isAgg22 rfl rfl rfl) ?_
        refine oy rfl rfl (y_move rfl) ?_
        obtain ⟨x86, hzx86, hlx86, hxx86, h⟩ := idx_some h
        refine oy rfl rfl (y_indexAddrI (kd := .i64) (i := i_65) 1 Try.runUnderlying22 Try.sizeOf67 rfl rfl rfl reads_ro hzx86 (map_lt hlx86)) ?_
        refine oy rfl rfl (y_load_agg (i := i_65.toNat) (c := [.int .i64 x86.From, .int .i64 x86.To, .int .i64 x86.Cap, .int .i64 x86.Cost]) 1 Try.isAgg67 Try.sizeOf67 rfl rfl reads_ro (map_get hxx86)) ?_
        refine ot rfl rfl (t_alloc Try.zeroValue67) ?_
        rintro _ _ ⟨b87, rfl, rfl⟩
        refine ot rfl rfl (t_store 7 Try.sizeOf67 rfl rfl rfl rfl (by simp [Value.cells, boxP]) (by simp [Value.cells, Value.oneCell', boxP])) ?_
        rintro _ _ ⟨rfl, rfl⟩
        refine ops_turn (retell 7 (g := box b87 [.int .i64 x86.From, .int .i64 x86.To, .int .i64 x86.Cap, .int .i64 x86.Cost]) rfl rfl) ?_
        refine ops_nil ?_
        refine goes_code ?_
        refine run_seq ?_
        refine run_region' ?_
        refine oy rfl rfl (y_move rfl) ?_
        refine oy rfl rfl (y_fieldAddr_box (sz := 0) Try.runUnderlying67 rfl Try.sizeOf3 rfl) ?_
        refine oy rfl rfl (y_load_box 7 Try.isAgg3 rfl rfl rfl) ?_
        obtain ⟨x88, hzx88, hlx88, hxx88, h⟩ := idx_some h
        refine oy rfl rfl (y_indexAddrI (kd := .i64) (i := x86.From) 3 Try.runUnderlying91 Try.sizeOf93 rfl rfl rfl reads_row hzx88 (map_lt hlx88)) ?_
        refine oy rfl rfl (y_load_agg (i := (x86.From).toNat) (c := [.bool x88.Is, .int .i64 x88.Sum, .int .i64 x88.Arcs]) 3 Try.isAgg93 Try.sizeOf93 rfl rfl reads_row (map_get hxx88)) ?_
        refine ot rfl rfl (t_alloc Try.zeroValue93) ?_
        rintro _ _ ⟨b89, rfl, rfl⟩
        refine ot rfl rfl (t_store 8 Try.sizeOf93 rfl rfl rfl rfl (by simp [Value.cells, boxP]) (by simp [Value.cells, Value.oneCell', boxP])) ?_
        rintro _ _ ⟨rfl, rfl⟩
        refine ops_turn (retell 8 (g := box b89 [.bool x88.Is, .int .i64 x88.Sum, .int .i64 x88.Arcs]) rfl rfl) ?_
        refine ops_nil ?_
        refine goes_code ?_
        refine run_seq ?_
        refine run_weak [(1, .int .i64 from_1), (2, boxP b1 0), (4, boxP b2 0), (5, v19), (8, boxP b40 0), (9, .int .i64 v_49), (10, .int .i64 via_64), (11, .int .i64 i_65), (12, boxP b87 0), (13, boxP b89 0)] [0, 1, 2, 3, 4, 5, 6, 7, 8] [box b1 [.int .i64 n_0.Nodes, n_0_Arcsv], ro n_0_Arcsv 4 (n_0.Arcs.map S_api_Arc.enc), box b2 [.slice none 0 0, .slice none 0 0, .slice none 0 0, .bool false, .int .i64 0], row v19 3 (l_17.map S_ref09_Step.enc), box b40 [v52, v53, .slice none 0 0], row v52 1 (x_50.map (eInt .i64)), row v53 1 (x_51.map (eInt .i64)), box b87 [.int .i64 x86.From, .int .i64 x86.To, .int .i64 x86.Cap, .int .i64 x86.Cost], box b89 [.bool x88.Is, .int .i64 x88.Sum, .int .i64 x88.Arcs]] (qv10 rfl rfl rfl rfl rfl rfl rfl rfl rfl rfl) (by decide) rfl ?_
        refine run_draw (by kernel_rfl) (by kernel_rfl) ?_
        refine sy rfl rfl (y_move rfl) ?_
        refine sy rfl rfl (y_lss rfl rfl) ?_
        refine sy rfl rfl (y_move rfl) ?_
        refine still_cut 5 (Bool) (fun σ => [(1, .int .i64 from_1), (2, boxP b1 0), (4, boxP b2 0), (5, v19), (8, boxP b40 0), (9, .int .i64 v_49), (10, .int .i64 via_64), (11, .int .i64 i_65), (12, boxP b87 0), (13, boxP b89 0), (91, .bool σ)]) (fun σ => [box b1 [.int .i64 n_0.Nodes, n_0_Arcsv], ro n_0_Arcsv 4 (n_0.Arcs.map S_api_Arc.enc), box b2 [.slice none 0 0, .slice none 0 0, .slice none 0 0, .bool false, .int .i64 0], row v19 3 (l_17.map S_ref09_Step.enc), box b40 [v52, v53, .slice none 0 0], row v52 1 (x_50.map (eInt .i64)), row v53 1 (x_51.map (eInt .i64)), box b87 [.int .i64 x86.From, .int .i64 x86.To, .int .i64 x86.Cap, .int .i64 x86.Cost], box b89 [.bool x88.Is, .int .i64 x88.Sum, .int .i64 x88.Arcs]]) (fun σ => σ = (decide (via_64 < 0) && decide (x86.To = v_49))) (fun L90 hL91 => ?_) ?_
        ·refine still_split 86 (decide (via_64 < 0)) rfl (fun hg92 => ?_) (fun hg92 => ?_)
         ·skip
          refine still_y (wg 2 true 86 rfl rfl rfl rfl) rfl (y_fieldAddr_box (sz := 0) Try.runUnderlying67 rfl Try.sizeOf3 rfl) ?_
          refine still_y (wg 2 true 86 rfl rfl rfl rfl) rfl (y_load_box 7 Try.isAgg3 rfl rfl rfl) ?_
          refine still_y (wg 2 true 86 rfl rfl rfl rfl) rfl (y_move rfl) ?_
          refine still_y (wg 2 true 86 rfl rfl rfl rfl) rfl (y_eql rfl rfl) ?_
          refine sy rfl rfl (y_pick (b := true) rfl rfl) ?_
          refine still_nil ?_
          exact goes_cut hL91 (decide (x86.To = v_49)) [0, 1, 2, 3, 4, 5, 6, 7, 8] (qv11 rfl rfl rfl rfl rfl rfl rfl rfl rfl rfl rfl) (by decide) rfl (by rw [hg92]; simp)
         ·skip
          refine still_no 2 true 86 rfl rfl rfl rfl rfl ?_
          refine still_no 2 true 86 rfl rfl rfl rfl rfl ?_
          refine still_no 2 true 86 rfl rfl rfl rfl rfl ?_
          refine still_no 2 true 86 rfl rfl rfl rfl rfl ?_
          refine sy rfl rfl (y_pick (b := false) rfl rfl) ?_
          refine still_nil ?_
          exact goes_cut hL91 false [0, 1, 2, 3, 4, 5, 6, 7, 8] (qv11 rfl rfl rfl rfl rfl rfl rfl rfl rfl rfl rfl) (by decide) rfl (by rw [hg92]; simp)
        rintro _ rfl
        refine sy rfl rfl (y_move rfl) ?_
        refine still_cut 3 (Bool) (fun σ => [(1, .int .i64 from_1), (2, boxP b1 0), (4, boxP b2 0), (5, v19), (8, boxP b40 0), (9, .int .i64 v_49), (10, .int .i64 via_64), (11, .int .i64 i_65), (12, boxP b87 0), (13, boxP b89 0), (95, .bool σ)]) (fun σ => [box b1 [.int .i64 n_0.Nodes, n_0_Arcsv], ro n_0_Arcsv 4 (n_0.Arcs.map S_api_Arc.enc), box b2 [.slice none 0 0, .slice none 0 0, .slice none 0 0, .bool false, .int .i64 0], row v19 3 (l_17.map S_ref09_Step.enc), box b40 [v52, v53, .slice none 0 0], row v52 1 (x_50.map (eInt .i64)), row v53 1 (x_51.map (eInt .i64)), box b87 [.int .i64 x86.From, .int .i64 x86.To, .int .i64 x86.Cap, .int .i64 x86.Cost], box b89 [.bool x88.Is, .int .i64 x88.Sum, .int .i64 x88.Arcs]]) (fun σ => σ = ((decide (via_64 < 0) && decide (x86.To = v_49)) && x88.Is)) (fun L93 hL94 => ?_) ?_
        ·refine still_split 92 (decide (via_64 < 0) && decide (x86.To = v_49)) rfl (fun hg95 => ?_) (fun hg95 => ?_)
         ·skip
          refine still_y (wg 8 true 92 rfl rfl rfl rfl) rfl (y_fieldAddr_box (sz := 0) Try.runUnderlying93 rfl Try.sizeOf4 rfl) ?_
          refine still_y (wg 8 true 92 rfl rfl rfl rfl) rfl (y_load_box 8 Try.isAgg4 rfl rfl rfl) ?_
          refine sy rfl rfl (y_pick (b := true) rfl rfl) ?_
          refine still_nil ?_
          exact goes_cut hL94 x88.Is [0, 1, 2, 3, 4, 5, 6, 7, 8] (qv11 rfl rfl rfl rfl rfl rfl rfl rfl rfl rfl rfl) (by decide) rfl (by rw [hg95]; simp)
         ·skip
          refine still_no 8 true 92 rfl rfl rfl rfl rfl ?_
          refine still_no 8 true 92 rfl rfl rfl rfl rfl ?_
          refine sy rfl rfl (y_pick (b := false) rfl rfl) ?_
          refine still_nil ?_
          exact goes_cut hL94 false [0, 1, 2, 3, 4, 5, 6, 7, 8] (qv11 rfl rfl rfl rfl rfl rfl rfl rfl rfl rfl rfl) (by decide) rfl (by rw [hg95]; simp)
        rintro _ rfl
        refine sy rfl rfl (y_move rfl) ?_
        obtain ⟨o97, h, ho98⟩ := bindJ_some h
        refine still_cut 10 (Bool) (fun σ => [(1, .int .i64 from_1), (2, boxP b1 0), (4, boxP b2 0), (5, v19), (8, boxP b40 0), (9, .int .i64 v_49), (10, .int .i64 via_64), (11, .int .i64 i_65), (12, boxP b87 0), (13, boxP b89 0), (106, .bool σ)]) (fun σ => [box b1 [.int .i64 n_0.Nodes, n_0_Arcsv], ro n_0_Arcsv 4 (n_0.Arcs.map S_api_Arc.enc), box b2 [.slice none 0 0, .slice none 0 0, .slice none 0 0, .bool false, .int .i64 0], row v19 3 (l_17.map S_ref09_Step.enc), box b40 [v52, v53, .slice none 0 0], row v52 1 (x_50.map (eInt .i64)), row v53 1 (x_51.map (eInt .i64)), box b87 [.int .i64 x86.From, .int .i64 x86.To, .int .i64 x86.Cap, .int .i64 x86.Cost], box b89 [.bool x88.Is, .int .i64 x88.Sum, .int .i64 x88.Arcs]]) (fun σ => o97 = .go σ) (fun L99 hL100 => ?_) ?_
        ·refine still_split 96 ((decide (via_64 < 0) && decide (x86.To = v_49)) && x88.Is) rfl (fun hg101 => ?_) (fun hg101 => ?_)
         ·replace h := cond_t h hg101
          refine still_y (wg 12 true 96 rfl rfl rfl rfl) rfl (y_fieldAddr_box (sz := 0) Try.runUnderlying93 rfl Try.sizeOf3 rfl) ?_
          refine still_y (wg 12 true 96 rfl rfl rfl rfl) rfl (y_load_box 8 Try.isAgg3 rfl rfl rfl) ?_
          refine still_y (wg 12 true 96 rfl rfl rfl rfl) rfl (y_add rfl rfl) ?_
          refine still_y (wg 12 true 96 rfl rfl rfl rfl) rfl (y_move rfl) ?_
          refine still_y (wg 12 true 96 rfl rfl rfl rfl) rfl (y_move rfl) ?_
          obtain ⟨x102, hzx102, hlx102, hxx102, h⟩ := idx_some h
          refine still_y (wg 12 true 96 rfl rfl rfl rfl) rfl (y_indexAddrI (kd := .i64) (i := v_49) 3 Try.runUnderlying91 Try.sizeOf93 rfl rfl rfl reads_row hzx102 (map_lt hlx102)) ?_
          refine still_y (wg 12 true 96 rfl rfl rfl rfl) rfl (y_fieldAddr_elem (sz := 0) Try.runUnderlying93 rfl Try.sizeOf3 rfl) ?_
          refine still_y (wg 12 true 96 rfl rfl rfl rfl) rfl (y_load_field (i := v_49.toNat) (j := 2) 3 Try.isAgg3 rfl rfl reads_row (map_get hxx102) rfl) ?_
          refine still_y (wg 12 true 96 rfl rfl rfl rfl) rfl (y_eql rfl rfl) ?_
          refine sy rfl rfl (y_pick (b := true) rfl rfl) ?_
          refine still_nil ?_
          obtain rfl := some_eq h
          exact goes_cut hL100 (decide ((IntKind.i64.wrap (x88.Arcs + 1)) = x102.Arcs)) [0, 1, 2, 3, 4, 5, 6, 7, 8] (qv11 rfl rfl rfl rfl rfl rfl rfl rfl rfl rfl rfl) (by decide) rfl rfl
         ·replace h := cond_f h hg101
          refine still_no 12 true 96 rfl rfl rfl rfl rfl ?_
          refine still_no 12 true 96 rfl rfl rfl rfl rfl ?_
          refine still_no 12 true 96 rfl rfl rfl rfl rfl ?_
          refine still_no 12 true 96 rfl rfl rfl rfl rfl ?_
          refine still_no 12 true 96 rfl rfl rfl rfl rfl ?_
          refine still_no 12 true 96 rfl rfl rfl rfl rfl ?_
          refine still_no 12 true 96 rfl rfl rfl rfl rfl ?_
          refine still_no 12 true 96 rfl rfl rfl rfl rfl ?_
          refine still_no 12 true 96 rfl rfl rfl rfl rfl ?_
          refine sy rfl rfl (y_pick (b := false) rfl rfl) ?_
          refine still_nil ?_
          obtain rfl := some_eq h
          exact goes_cut hL100 false [0, 1, 2, 3, 4, 5, 6, 7, 8] (qv11 rfl rfl rfl rfl rfl rfl rfl rfl rfl rfl rfl) (by decide) rfl rfl
        rintro b96 hj
        obtain rfl : o97 = _ := hj
        replace h := after_go ho98
        clear ho98
        refine sy rfl rfl (y_move rfl) ?_
        obtain ⟨o104, h, ho105⟩ := bindJ_some h
        refine still_cut 12 (Bool) (fun σ => [(1, .int .i64 from_1), (2, boxP b1 0), (4, boxP b2 0), (5, v19), (8, boxP b40 0), (9, .int .i64 v_49), (10, .int .i64 via_64), (11, .int .i64 i_65), (119, .bool σ)]) (fun σ => [box b1 [.int .i64 n_0.Nodes, n_0_Arcsv], ro n_0_Arcsv 4 (n_0.Arcs.map S_api_Arc.enc), box b2 [.slice none 0 0, .slice none 0 0, .slice none 0 0, .bool false, .int .i64 0], row v19 3 (l_17.map S_ref09_Step.enc), box b40 [v52, v53, .slice none 0 0], row v52 1 (x_50.map (eInt .i64)), row v53 1 (x_51.map (eInt .i64)), box b87 [.int .i64 x86.From, .int .i64 x86.To, .int .i64 x86.Cap, .int .i64 x86.Cost], box b89 [.bool x88.Is, .int .i64 x88.Sum, .int .i64 x88.Arcs]]) (fun σ => o104 = .go σ) (fun L106 hL107 => ?_) ?_
        ·refine still_split 107 b96 rfl (fun hg108 => ?_) (fun hg108 => ?_)
         ·replace h := cond_t h hg108
          refine still_y (wg 23 true 107 rfl rfl rfl rfl) rfl (y_fieldAddr_box (sz := 0) Try.runUnderlying93 rfl Try.sizeOf3 rfl) ?_
          refine still_y (wg 23 true 107 rfl rfl rfl rfl) rfl (y_load_box 8 Try.isAgg3 rfl rfl rfl) ?_
          refine still_y (wg 23 true 107 rfl rfl rfl rfl) rfl (y_fieldAddr_box (sz := 0) Try.runUnderlying67 rfl Try.sizeOf3 rfl) ?_
          refine still_y (wg 23 true 107 rfl rfl rfl rfl) rfl (y_load_box 7 Try.isAgg3 rfl rfl rfl) ?_
          refine still_y (wg 23 true 107 rfl rfl rfl rfl) rfl (y_add rfl rfl) ?_
          refine still_y (wg 23 true 107 rfl rfl rfl rfl) rfl (y_move rfl) ?_
          refine still_y (wg 23 true 107 rfl rfl rfl rfl) rfl (y_move rfl) ?_
          obtain ⟨x109, hzx109, hlx109, hxx109, h⟩ := idx_some h
          refine still_y (wg 23 true 107 rfl rfl rfl rfl) rfl (y_indexAddrI (kd := .i64) (i := v_49) 3 Try.runUnderlying91 Try.sizeOf93 rfl rfl rfl reads_row hzx109 (map_lt hlx109)) ?_
          refine still_y (wg 23 true 107 rfl rfl rfl rfl) rfl (y_fieldAddr_elem (sz := 0) Try.runUnderlying93 rfl Try.sizeOf3 rfl) ?_
          refine still_y (wg 23 true 107 rfl rfl rfl rfl) rfl (y_load_field (i := v_49.toNat) (j := 1) 3 Try.isAgg3 rfl rfl reads_row (map_get hxx109) rfl) ?_
          refine still_y (wg 23 true 107 rfl rfl rfl rfl) rfl (y_eql rfl rfl) ?_
          refine sy rfl rfl (y_pick (b := true) rfl rfl) ?_
          refine still_nil ?_
          obtain rfl := some_eq h
          exact goes_cut hL107 (decide ((IntKind.i64.wrap (x88.Sum + x86.Cost)) = x109.Sum)) [0, 1, 2, 3, 4, 5, 6, 7, 8] (qv9 rfl rfl rfl rfl rfl rfl rfl rfl rfl) (by decide) rfl rfl
         ·replace h := cond_f h hg108
          refine still_no 23 true 107 rfl rfl rfl rfl rfl ?_
          refine still_no 23 true 107 rfl rfl rfl rfl rfl ?_
          refine still_no 23 true 107 rfl rfl rfl rfl rfl ?_
          refine still_no 23 true 107 rfl rfl rfl rfl rfl ?_
          refine still_no 23 true 107 rfl rfl rfl rfl rfl ?_
          refine still_no 23 true 107 rfl rfl rfl rfl rfl ?_
          refine still_no 23 true 107 rfl rfl rfl rfl rfl ?_
          refine still_no 23 true 107 rfl rfl rfl rfl rfl ?_
          refine still_no 23 true 107 rfl rfl rfl rfl rfl ?_
          refine still_no 23 true 107 rfl rfl rfl rfl rfl ?_
          refine still_no 23 true 107 rfl rfl rfl rfl rfl ?_
          refine sy rfl rfl (y_pick (b := false) rfl rfl) ?_
          refine still_nil ?_
          obtain rfl := some_eq h
          exact goes_cut hL107 false [0, 1, 2, 3, 4, 5, 6, 7, 8] (qv9 rfl rfl rfl rfl rfl rfl rfl rfl rfl) (by decide) rfl rfl
        rintro b103 hj
        obtain rfl : o104 = _ := hj
        replace h := after_go ho105
        clear ho105
        refine still_nil ?_
        refine goes_code ?_
        refine run_cond b103 rfl (fun hc110 => ?_) (fun hc110 => ?_)
        ·replace h := cond_t h hc110
         refine run_region' ?_
         refine oy rfl rfl (y_move rfl) ?_
         refine oy rfl rfl (y_assign rfl) ?_
         refine ops_nil ?_
         refine goes_blk ?_
         obtain rfl := some_eq h
         exact goes_cut hL84 (i_65, ()) [0, 1, 2, 3, 4, 5, 6] (qv8 rfl rfl rfl rfl rfl rfl rfl rfl) (by decide) rfl rfl
        ·replace h := cond_f h hc110
         refine run_skip ?_
         refine goes_blk ?_
         obtain rfl := some_eq h
         exact goes_cut hL84 (via_64, ()) [0, 1, 2, 3, 4, 5, 6] (qv8 rfl rfl rfl rfl rfl rfl rfl rfl) (by decide) rfl rfl
       rintro ⟨via_81, _⟩ hj
       obtain rfl : o82 = _ := hj
       replace h := after_go ho83
       clear ho83
       change Run _ _ _ (VF.of [(1, .int .i64 from_1), (2, boxP b1 0), (4, boxP b2 0), (5, v19), (8, boxP b40 0), (9, .int .i64 v_49), (10, .int .i64 via_81), (11, .int .i64 i_65)]) [box b1 [.int .i64 n_0.Nodes, n_0_Arcsv], ro n_0_Arcsv 4 (n_0.Arcs.map S_api_Arc.enc), box b2 [.slice none 0 0, .slice none 0 0, .slice none 0 0, .bool false, .int .i64 0], row v19 3 (l_17.map S_ref09_Step.enc), box b40 [v52, v53, .slice none 0 0], row v52 1 (x_50.map (eInt .i64)), row v53 1 (x_51.map (eInt .i64))]
       refine run_region' ?_
       refine oy rfl rfl (y_move rfl) ?_
       refine oy rfl rfl (y_add rfl rfl) ?_
       refine oy rfl rfl (y_assign rfl) ?_
       refine ops_nil ?_
       obtain rfl := some_eq h
       exact goes_iter hgo67 (via_81, (IntKind.i64.wrap (i_65 + 1))) () [0, 1, 2, 3, 4, 5, 6] rfl (qv8 rfl rfl rfl rfl rfl rfl rfl rfl) (by decide) rfl
      ·replace h := cond_f h hc80
       refine run_exit _ rfl ?_
       obtain rfl := some_eq h
       obtain rfl := hstop68 _ rfl
       exact goes_cut hL62 (via_64, ()) [0, 1, 2, 3, 4, 5, 6] (qv7 rfl rfl rfl rfl rfl rfl rfl) (by decide) rfl rfl
     rintro ⟨via_59, _⟩ hj
     obtain rfl : o60 = _ := hj
     replace h := after_go ho61
     clear ho61
     change Run _ _ _ (VF.of [(1, .int .i64 from_1), (2, boxP b1 0), (4, boxP b2 0), (5, v19), (8, boxP b40 0), (9, .int .i64 v_49), (10, .int .i64 via_59)]) [box b1 [.int .i64 n_0.Nodes, n_0_Arcsv], ro n_0_Arcsv 4 (n_0.Arcs.map S_api_Arc.enc), box b2 [.slice none 0 0, .slice none 0 0, .slice none 0 0, .bool false, .int .i64 0], row v19 3 (l_17.map S_ref09_Step.enc), box b40 [v52, v53, .slice none 0 0], row v52 1 (x_50.map (eInt .i64)), row v53 1 (x_51.map (eInt .i64))]
     refine run_seq ?_
     obtain ⟨x111, hzx111, hlx111, hxx111, h⟩ := idx_some h
     obtain ⟨hr114, h⟩ := need_some h
     refine run_drawany [box b1 [.int .i64 n_0.Nodes, n_0_Arcsv], ro n_0_Arcsv 4 (n_0.Arcs.map S_api_Arc.enc), box b2 [.slice none 0 0, .slice none 0 0, .slice none 0 0, .bool false, .int .i64 0], row v19 3 (l_17.map S_ref09_Step.enc), HA.emp, HA.emp, row v53 1 (x_51.map (eInt .i64))] (by kernel_rfl) ?_
     refine any_y 0 rfl (by kernel_rfl) (by kernel_rfl) (by kernel_rfl) (ss (ss (ss (ss (se (se (ss (sn)))))))) (wn rfl) rfl (y_fieldAddr_box (sz := 0) Try.runUnderlying51 rfl Try.sizeOf34 rfl) ?_
     refine any_y 2 rfl (by kernel_rfl) (by kernel_rfl) (by kernel_rfl) (ss (ss (ss (ss (se (se (ss (sn)))))))) (wn rfl) rfl (y_move rfl) ?_
     refine any_y 3 rfl (by kernel_rfl) (by kernel_rfl) (by kernel_rfl) (ss (ss (ss (ss (se (se (ss (sn)))))))) (wn rfl) rfl (y_move rfl) ?_
     refine any_y 4 rfl (by kernel_rfl) (by kernel_rfl) (by kernel_rfl) (ss (ss (ss (ss (se (se (ss (sn)))))))) (wn rfl) rfl (y_indexAddrI (kd := .i64) (i := v_49) 3 Try.runUnderlying91 Try.sizeOf93 rfl rfl rfl reads_row hzx111 (map_lt hlx111)) ?_
     refine any_y 5 rfl (by kernel_rfl) (by kernel_rfl) (by kernel_rfl) (ss (ss (ss (ss (se (se (ss (sn)))))))) (wn rfl) rfl (y_fieldAddr_elem (sz := 0) Try.runUnderlying93 rfl Try.sizeOf3 rfl) ?_
     refine any_y 6 rfl (by kernel_rfl) (by kernel_rfl) (by kernel_rfl) (ss (ss (ss (ss (se (se (ss (sn)))))))) (wn rfl) rfl (y_load_field (i := v_49.toNat) (j := 1) 3 Try.isAgg3 rfl rfl reads_row (map_get hxx111) rfl) ?_
     refine any_cut2 #[true, true, true, true, true, true, true, true, true, true, true] 0 (Value × Value) (fun σ => [(1, .int .i64 from_1), (2, boxP b1 0), (4, boxP b2 0), (5, v19), (8, boxP b40 0), (9, .int .i64 v_49), (10, .int .i64 via_59)]) (fun σ => [box b1 [.int .i64 n_0.Nodes, n_0_Arcsv], ro n_0_Arcsv 4 (n_0.Arcs.map S_api_Arc.enc), box b2 [.slice none 0 0, .slice none 0 0, .slice none 0 0, .bool false, .int .i64 0], row v19 3 (l_17.map S_ref09_Step.enc), box b40 [σ.1, v53, .slice none 0 0], row σ.1 1 ((x_50 ++ ([x111.Sum] : List Int)).map (eInt .i64)), row v53 1 (x_51.map (eInt .i64)), row σ.2 1 (([x111.Sum] : List Int).map (eInt .i64))]) ?_ (fun hK120 => ?_)
     ·rintro ⟨v118, v117⟩
      change AnyL _ _ _ _ _ (VF.of [(1, .int .i64 from_1), (2, boxP b1 0), (4, boxP b2 0), (5, v19), (8, boxP b40 0), (9, .int .i64 v_49), (10, .int .i64 via_59)]) [box b1 [.int .i64 n_0.Nodes, n_0_Arcsv], ro n_0_Arcsv 4 (n_0.Arcs.map S_api_Arc.enc), box b2 [.slice none 0 0, .slice none 0 0, .slice none 0 0, .bool false, .int .i64 0], row v19 3 (l_17.map S_ref09_Step.enc), box b40 [v118, v53, .slice none 0 0], row v118 1 ((x_50 ++ ([x111.Sum] : List Int)).map (eInt .i64)), row v53 1 (x_51.map (eInt .i64)), row v117 1 (([x111.Sum] : List Int).map (eInt .i64))] _
      refine any_nil (by kernel_rfl) ?_
      refine goes_code ?_
      refine run_region' ?_
      refine oy rfl rfl (y_fieldAddr_box (sz := 0) Try.runUnderlying51 rfl Try.sizeOf34 rfl) ?_
      refine oy rfl rfl (y_load_box 4 Try.isAgg34 rfl rfl rfl) ?_
      refine oy rfl rfl (y_move rfl) ?_
      refine ot rfl rfl (t_lit [.int .i64 via_59] Try.runUnderlying34 Try.sizeOf3 Try.zeroValue3 rfl (by decide) (by decide) rfl (by simp [Value.cells, boxP])) ?_
      rintro v121 _ ⟨rfl, _⟩
      refine ops_turn (retell 8 (g := row v121 1 (([via_59] : List Int).map (eInt .i64))) rfl rfl) ?_
      obtain ⟨hr123, h⟩ := need_some h
      refine ot rfl rfl (t_append (es := 1) 6 rfl Try.runUnderlying34 rfl Try.runUnderlying34 (.inr ⟨_, rfl⟩) Try.typeInfo3 rfl (by decide) Try.zeroValue3 rfl rfl rfl rfl (src_reads 8 rfl reads_row (map_ok (eInt_ok _) _)) (map_room hr123 (by decide)) (map_fit hr123)) ?_
      rintro v122 _ rfl
      refine ops_turn (retell 6 (g := row v122 1 ((x_51 ++ ([via_59] : List Int)).map (eInt .i64))) rfl (congrArg (row _ _) List.map_append.symm)) ?_
      refine oy rfl rfl (y_fieldAddr_box (sz := 0) Try.runUnderlying51 rfl Try.sizeOf34 rfl) ?_
      refine ops_slc 6 rfl reads_row (fun hs124 hs124o => ?_)
      refine ot rfl rfl (t_store 4 Try.sizeOf34 rfl rfl rfl (by rw [hs124]; rfl) (by simp [Value.cells, boxP]) (by rw [hs124]; intro u hu; replace hu : u ∈ ([v122] : List Value) := hu; simp only [List.mem_cons, List.not_mem_nil, or_false] at hu; rcases hu with rfl <;> first | rfl | assumption)) ?_
      rintro _ _ ⟨rfl, rfl⟩
      refine ops_turn (retell 4 (g := box b40 [v118, v122, .slice none 0 0]) rfl (by rw [hs124]; rfl)) ?_
      refine ops_nil ?_
      refine goes_blk ?_
      refine goes_code ?_
      refine run_region' ?_
      refine oy rfl rfl (y_move rfl) ?_
      refine oy rfl rfl (y_add rfl rfl) ?_
      refine oy rfl rfl (y_assign rfl) ?_
      refine ops_nil ?_
      obtain rfl := some_eq h
      exact goes_iter hgo55 ((IntKind.i64.wrap (v_49 + 1)), (x_50 ++ ([x111.Sum] : List Int)), (x_51 ++ ([via_59] : List Int))) (v118, v122) [0, 1, 2, 3, 4, 5, 6] rfl (qv6 rfl rfl rfl rfl rfl rfl) (by decide) rfl
     refine any_cut2 #[true, true, true, true, true, true, true, true, true, true, false] 1 (Value × Value) (fun σ => [(1, .int .i64 from_1), (2, boxP b1 0), (4, boxP b2 0), (5, v19), (8, boxP b40 0), (9, .int .i64 v_49), (10, .int .i64 via_59), (129, σ.1), (130, boxP b40 0)]) (fun σ => [box b1 [.int .i64 n_0.Nodes, n_0_Arcsv], ro n_0_Arcsv 4 (n_0.Arcs.map S_api_Arc.enc), box b2 [.slice none 0 0, .slice none 0 0, .slice none 0 0, .bool false, .int .i64 0], row v19 3 (l_17.map S_ref09_Step.enc), box b40 [v52, v53, .slice none 0 0], row σ.1 1 ((x_50 ++ ([x111.Sum] : List Int)).map (eInt .i64)), row v53 1 (x_51.map (eInt .i64)), row σ.2 1 (([x111.Sum] : List Int).map (eInt .i64))]) ?_ (fun hK125 => ?_)
     ·rintro ⟨v118, v117⟩
      change AnyL _ _ _ _ _ (VF.of [(1, .int .i64 from_1), (2, boxP b1 0), (4, boxP b2 0), (5, v19), (8, boxP b40 0), (9, .int .i64 v_49), (10, .int .i64 via_59), (129, v118), (130, boxP b40 0)]) [box b1 [.int .i64 n_0.Nodes, n_0_Arcsv], ro n_0_Arcsv 4 (n_0.Arcs.map S_api_Arc.enc), box b2 [.slice none 0 0, .slice none 0 0, .slice none 0 0, .bool false, .int .i64 0], row v19 3 (l_17.map S_ref09_Step.enc), box b40 [v52, v53, .slice none 0 0], row v118 1 ((x_50 ++ ([x111.Sum] : List Int)).map (eInt .i64)), row v53 1 (x_51.map (eInt .i64)), row v117 1 (([x111.Sum] : List Int).map (eInt .i64))] _
      refine any_all [10] (by kernel_rfl) rfl ?_
      refine anyo_cons ?_ ?_
      ·
       refine anyo_slc 5 rfl reads_row (fun hs126 hs126o => ?_)
       refine any_t rfl (wn rfl) rfl (t_store 4 Try.sizeOf34 rfl rfl rfl (by rw [hs126]; rfl) (by simp [Value.cells, boxP]) (by rw [hs126]; intro u hu; replace hu : u ∈ ([v118] : List Value) := hu; simp only [List.mem_cons, List.not_mem_nil, or_false] at hu; rcases hu with rfl <;> first | rfl | assumption)) ?_
       rintro _ _ ⟨rfl, rfl⟩
       refine ⟨(ss (ss (ss (ss (se (se (ss (sn)))))))), ?_⟩
       refine any_turn (retell 4 (g := box b40 [v118, v53, .slice none 0 0]) rfl (by rw [hs126]; rfl)) ?_
       exact any_weak2 (hK120 (v118, v117)) [0, 1, 2, 3, 4, 5, 6, 7] (by kernel_rfl) (qv7 rfl rfl rfl rfl rfl rfl rfl) (by decide) rfl
      exact anyo_nil
     refine any_cut2 #[true, true, true, true, true, true, true, true, false, false, false] 3 (Value) (fun σ => [(1, .int .i64 from_1), (2, boxP b1 0), (4, boxP b2 0), (5, v19), (8, boxP b40 0), (9, .int .i64 v_49), (10, .int .i64 via_59), (122, v52), (128, σ)]) (fun σ => [box b1 [.int .i64 n_0.Nodes, n_0_Arcsv], ro n_0_Arcsv 4 (n_0.Arcs.map S_api_Arc.enc), box b2 [.slice none 0 0, .slice none 0 0, .slice none 0 0, .bool false, .int .i64 0], row v19 3 (l_17.map S_ref09_Step.enc), box b40 [v52, v53, .slice none 0 0], row v52 1 (x_50.map (eInt .i64)), row v53 1 (x_51.map (eInt .i64)), row σ 1 (([x111.Sum] : List Int).map (eInt .i64))]) ?_ (fun hK127 => ?_)
     ·rintro v117
      change AnyL _ _ _ _ _ (VF.of [(1, .int .i64 from_1), (2, boxP b1 0), (4, boxP b2 0), (5, v19), (8, boxP b40 0), (9, .int .i64 v_49), (10, .int .i64 via_59), (122, v52), (128, v117)]) [box b1 [.int .i64 n_0.Nodes, n_0_Arcsv], ro n_0_Arcsv 4 (n_0.Arcs.map S_api_Arc.enc), box b2 [.slice none 0 0, .slice none 0 0, .slice none 0 0, .bool false, .int .i64 0], row v19 3 (l_17.map S_ref09_Step.enc), box b40 [v52, v53, .slice none 0 0], row v52 1 (x_50.map (eInt .i64)), row v53 1 (x_51.map (eInt .i64)), row v117 1 (([x111.Sum] : List Int).map (eInt .i64))] _
      refine any_all [8] (by kernel_rfl) rfl ?_
      refine anyo_cons ?_ ?_
      ·
       refine any_t rfl (wn rfl) rfl (t_append (es := 1) 5 rfl Try.runUnderlying34 rfl Try.runUnderlying34 (.inr ⟨_, rfl⟩) Try.typeInfo3 rfl (by decide) Try.zeroValue3 rfl rfl rfl rfl (src_reads 7 rfl reads_row (map_ok (eInt_ok _) _)) (map_room hr114 (by decide)) (map_fit hr114)) ?_
       rintro v128 _ rfl
       refine ⟨(ss (ss (ss (ss (se (se (ss (sn)))))))), ?_⟩
       refine any_turn (retell 5 (g := row v128 1 ((x_50 ++ ([x111.Sum] : List Int)).map (eInt .i64))) rfl (congrArg (row _ _) List.map_append.symm)) ?_
       refine any_y 9 rfl (by kernel_rfl) (by kernel_rfl) (by kernel_rfl) (ss (ss (ss (ss (se (se (ss (sn)))))))) (wn rfl) rfl (y_fieldAddr_box (sz := 0) Try.runUnderlying51 rfl Try.sizeOf34 rfl) ?_
       exact any_weak2 (hK125 (v128, v117)) [0, 1, 2, 3, 4, 5, 6, 7] (by kernel_rfl) (qv9 rfl rfl rfl rfl rfl rfl rfl rfl rfl) (by decide) rfl
      exact anyo_nil
     refine any_cut2 #[true, true, true, true, true, true, true, false, false, false, false] 4 (Unit) (fun σ => [(1, .int .i64 from_1), (2, boxP b1 0), (4, boxP b2 0), (5, v19), (8, boxP b40 0), (9, .int .i64 v_49), (10, .int .i64 via_59), (127, .int .i64 x111.Sum), (122, v52)]) (fun σ => [box b1 [.int .i64 n_0.Nodes, n_0_Arcsv], ro n_0_Arcsv 4 (n_0.Arcs.map S_api_Arc.enc), box b2 [.slice none 0 0, .slice none 0 0, .slice none 0 0, .bool false, .int .i64 0], row v19 3 (l_17.map S_ref09_Step.enc), box b40 [v52, v53, .slice none 0 0], row v52 1 (x_50.map (eInt .i64)), row v53 1 (x_51.map (eInt .i64))]) ?_ (fun hK129 => ?_)
     ·rintro _
      change AnyL _ _ _ _ _ (VF.of [(1, .int .i64 from_1), (2, boxP b1 0), (4, boxP b2 0), (5, v19), (8, boxP b40 0), (9, .int .i64 v_49), (10, .int .i64 via_59), (127, .int .i64 x111.Sum), (122, v52)]) [box b1 [.int .i64 n_0.Nodes, n_0_Arcsv], ro n_0_Arcsv 4 (n_0.Arcs.map S_api_Arc.enc), box b2 [.slice none 0 0, .slice none 0 0, .slice none 0 0, .bool false, .int .i64 0], row v19 3 (l_17.map S_ref09_Step.enc), box b40 [v52, v53, .slice none 0 0], row v52 1 (x_50.map (eInt .i64)), row v53 1 (x_51.map (eInt .i64))] _
      refine any_all [7] (by kernel_rfl) rfl ?_
      refine anyo_cons ?_ ?_
      ·
       refine any_t rfl (wn rfl) rfl (t_lit [.int .i64 x111.Sum] Try.runUnderlying34 Try.sizeOf3 Try.zeroValue3 rfl (by decide) (by decide) rfl (by simp [Value.cells, boxP])) ?_
       rintro v130 _ ⟨rfl, _⟩
       refine ⟨(ss (ss (ss (ss (se (se (ss (sn)))))))), ?_⟩
       refine any_turn (retell 7 (g := row v130 1 (([x111.Sum] : List Int).map (eInt .i64))) rfl rfl) ?_
       exact any_weak2 (hK127 v130) [0, 1, 2, 3, 4, 5, 6, 7] (by kernel_rfl) (qv9 rfl rfl rfl rfl rfl rfl rfl rfl rfl) (by decide) rfl
      exact anyo_nil
     refine any_cut2 #[true, false, true, true, true, true, true, true, false, false, false] 4 (Value) (fun σ => [(1, .int .i64 from_1), (2, boxP b1 0), (4, boxP b2 0), (5, v19), (8, boxP b40 0), (9, .int .i64 v_49), (10, .int .i64 via_59), (121, boxP b40 0), (128, σ)]) (fun σ => [box b1 [.int .i64 n_0.Nodes, n_0_Arcsv], ro n_0_Arcsv 4 (n_0.Arcs.map S_api_Arc.enc), box b2 [.slice none 0 0, .slice none 0 0, .slice none 0 0, .bool false, .int .i64 0], row v19 3 (l_17.map S_ref09_Step.enc), box b40 [v52, v53, .slice none 0 0], row v52 1 (x_50.map (eInt .i64)), row v53 1 (x_51.map (eInt .i64)), row σ 1 (([x111.Sum] : List Int).map (eInt .i64))]) ?_ (fun hK131 => ?_)
     ·rintro v116
      change AnyL _ _ _ _ _ (VF.of [(1, .int .i64 from_1), (2, boxP b1 0), (4, boxP b2 0), (5, v19), (8, boxP b40 0), (9, .int .i64 v_49), (10, .int .i64 via_59), (121, boxP b40 0), (128, v116)]) [box b1 [.int .i64 n_0.Nodes, n_0_Arcsv], ro n_0_Arcsv 4 (n_0.Arcs.map S_api_Arc.enc), box b2 [.slice none 0 0, .slice none 0 0, .slice none 0 0, .bool false, .int .i64 0], row v19 3 (l_17.map S_ref09_Step.enc), box b40 [v52, v53, .slice none 0 0], row v52 1 (x_50.map (eInt .i64)), row v53 1 (x_51.map (eInt .i64)), row v116 1 (([x111.Sum] : List Int).map (eInt .i64))] _
      refine any_all [1] (by kernel_rfl) rfl ?_
      refine anyo_cons ?_ ?_
      ·
       refine any_ty rfl (wn rfl) rfl (y_load_box 4 Try.isAgg34 rfl rfl rfl) ⟨(ss (ss (ss (ss (se (se (ss (sn)))))))), ?_⟩
       exact any_weak2 (hK127 v116) [0, 1, 2, 3, 4, 5, 6, 7] (by kernel_rfl) (qv9 rfl rfl rfl rfl rfl rfl rfl rfl rfl) (by decide) rfl
      exact anyo_nil
     refine any_all [1, 7] (by kernel_rfl) rfl ?_
     refine anyo_cons ?_ ?_
     ·
      refine any_ty rfl (wn rfl) rfl (y_load_box 4 Try.isAgg34 rfl rfl rfl) ⟨(ss (ss (ss (ss (se (se (ss (sn)))))))), ?_⟩
      exact any_weak2 (hK129 ()) [0, 1, 2, 3, 4, 5, 6] (by kernel_rfl) (qv9 rfl rfl rfl rfl rfl rfl rfl rfl rfl) (by decide) rfl
     refine anyo_cons ?_ ?_
     ·
      refine any_t rfl (wn rfl) rfl (t_lit [.int .i64 x111.Sum] Try.runUnderlying34 Try.sizeOf3 Try.zeroValue3 rfl (by decide) (by decide) rfl (by simp [Value.cells, boxP])) ?_
      rintro v132 _ ⟨rfl, _⟩
      refine ⟨(ss (ss (ss (ss (se (se (ss (sn)))))))), ?_⟩
      refine any_turn (retell 7 (g := row v132 1 (([x111.Sum] : List Int).map (eInt .i64))) rfl rfl) ?_
      exact any_weak2 (hK131 v132) [0, 1, 2, 3, 4, 5, 6, 7] (by kernel_rfl) (qv9 rfl rfl rfl rfl rfl rfl rfl rfl rfl) (by decide) rfl
     exact anyo_nil
    ·replace h := cond_f h hc58
     refine run_exit _ rfl ?_
     obtain rfl := some_eq h
     obtain rfl := hstop56 _ rfl
     exact goes_cut hL47 ((x_50, x_51), (v52, v53)) [2, 4, 5, 6] (qv2 rfl rfl) (by decide) rfl rfl
   rintro ⟨⟨x_41, x_42⟩, ⟨v43, v44⟩⟩ hj
   obtain rfl : o45 = _ := hj
   replace h := after_go ho46
   clear ho46
   change Run _ _ _ (VF.of [(4, boxP b2 0), (8, boxP b40 0)]) [box b2 [.slice none 0 0, .slice none 0 0, .slice none 0 0, .bool false, .int .i64 0], box b40 [v43, v44, .slice none 0 0], row v43 1 (x_41.map (eInt .i64)), row v44 1 (x_42.map (eInt .i64))]
   refine run_seq ?_
   refine run_region' ?_
   refine oy rfl rfl (y_load_boxagg (c := [v43, v44, .slice none 0 0]) 1 Try.isAgg51 Try.sizeOf51 rfl rfl rfl) ?_
   refine ops_slc 2 rfl reads_row (fun hs133 hs133o => ?_)
   refine ops_slc 3 rfl reads_row (fun hs134 hs134o => ?_)
   refine oy rfl rfl (y_build_struct (cells := #[v43, v44, .slice none 0 0, .bool false, .int .i64 0]) [(0, .agg #[v43, v44, .slice none 0 0])] [(0, [v43, v44, .slice none 0 0])] Try.zeroValue55 Try.runUnderlying55 (fs_cons Try.sizeOf51 (fs_cons Try.sizeOf4 (fs_cons Try.sizeOf28 fs_nil))) rfl (by first | (simp only [List.map_cons, List.map_nil, hs133, hs134]; done) | (simp only [List.map_cons, List.map_nil, hs133, hs134]; rfl)) rfl) ?_
   refine ops_slc 2 rfl reads_row (fun hs135 hs135o => ?_)
   refine ops_slc 3 rfl reads_row (fun hs136 hs136o => ?_)
   refine ot rfl rfl (t_store 0 Try.sizeOf55 rfl rfl rfl rfl (by simp [Value.cells, boxP]) (by intro u hu; replace hu : u ∈ ([v43, v44, .slice none 0 0, .bool false, .int .i64 0] : List Value) := hu; simp only [List.mem_cons, List.not_mem_nil, or_false] at hu; rcases hu with rfl | rfl | rfl | rfl | rfl <;> first | rfl | assumption)) ?_
   rintro _ _ ⟨rfl, rfl⟩
   refine ops_turn (retell 0 (g := box b2 [v43, v44, .slice none 0 0, .bool false, .int .i64 0]) rfl rfl) ?_
   refine ops_nil ?_
   refine goes_code ?_
   refine run_ret ?_
   refine fin_turn (nilrow 1) ?_
   refine fin_turn (retell 4 (g := row (.slice none 0 0) 1 (([] : List Int).map (eInt .i64))) rfl rfl) ?_
   obtain rfl := some_eq h
   refine fin_res [.cell 4 55] [.agg #[v43, v44, (.slice none 0 0), .bool false, .int .i64 0]] [2, 3, 4] [row v43 1 (x_41.map (eInt .i64)), row v44 1 (x_42.map (eInt .i64)), row (.slice none 0 0) 1 (([] : List Int).map (eInt .i64))] Try.results23 rfl (rescons (res_box 0 Try.isAgg55 Try.sizeOf55 rfl rfl rfl) resnil) (by decide) rfl ?_
   exact ⟨_, _, _, rfl, rfl⟩

def ref09_back_L1 (n_0 : S_api_Net) (via_1 : (List Int)) (from_3 : Int) : (Int × Int) → Option (Lp (Int × Int) (Lp (Unit) (Bool))) :=
 fun (v_6, k_7) =>
  cond (decide (k_7 ≤ n_0.Nodes))
   (cond (decide (v_6 = from_3))
    (some (.stop (.stop true)))
    (idx via_1 v_6 fun x14 =>
    cond (decide (x14 < 0))
     (some (.stop (.stop false)))
     (idx n_0.Arcs x14 fun x16 =>
     some (.go (x16.From, (IntKind.i64.wrap (k_7 + 1)))))))
   (some (.stop (.go ())))
def ref09_back (n : Nat) (n_0 : S_api_Net) (via_1 : (List Int)) (v_2 : Int) (from_3 : Int) : Option (Bool) :=
 bindJ (S := Unit)
  (iter (ref09_back_L1 n_0 via_1 from_3) n (v_2, 0))
 (fun _ =>
  some false)
theorem ref09_back_ok (n : Nat) (n_0 : S_api_Net) (via_1 : (List Int)) (v_2 : Int) (from_3 : Int) (n_0_Arcsv : Value) (via_1v : Value) {r : Bool} (h : ref09_back n n_0 via_1 v_2 from_3 = some r) :
  Meets Try.prog 68 [.agg #[.int .i64 n_0.Nodes, n_0_Arcsv], via_1v, .int .i64 v_2, .int .i64 from_3] [ro n_0_Arcsv 4 (n_0.Arcs.map S_api_Arc.enc), ro via_1v 1 (via_1.map (eInt .i64))] (fun v G => v = .bool r ∧ G = []) := by
 refine fn_of_run Try.func68 rfl Try.ntmps68 rfl (fun w0 o0 => ?_)
 refine run_seq ?_
 refine run_region' ?_
 refine ot rfl rfl (t_box rfl) ?_
 rintro _ _ ⟨b1, rfl, rfl⟩
 refine oy rfl rfl (y_assign rfl) ?_
 refine ops_nil ?_
 refine goes_code ?_
 obtain ⟨o2, h, ho3⟩ := bindJ_some h
 refine run_cut ((Unit) × (Unit)) (fun σ => []) (fun σ => []) (fun σ => o2 = .go σ.1) (fun L5 hL4 => ?_) ?_
 ·
  refine run_seq ?_
  refine run_region' ?_
  refine oy rfl rfl (y_assign rfl) ?_
  refine ops_nil ?_
  refine goes_code ?_
  refine run_block ?_
  refine run_iter (step := ref09_back_L1 n_0 via_1 from_3) (n := n) (s0 := (v_2, 0)) h (G := Unit) () (fun σ γ => [(1, via_1v), (2, .int .i64 σ.1), (3, .int .i64 from_3), (4, boxP b1 0), (9, .int .i64 σ.2)]) (fun σ γ => [ro via_1v 1 (via_1.map (eInt .i64)), box b1 [.int .i64 n_0.Nodes, n_0_Arcsv], ro n_0_Arcsv 4 (n_0.Arcs.map S_api_Arc.enc)]) [1, 2, 0] (qv5 rfl rfl rfl rfl rfl) (by decide) rfl ?_
  rintro ⟨v_6, k_7⟩ _ o8 h L11 hgo9 hstop10
  change Run _ _ _ (VF.of [(1, via_1v), (2, .int .i64 v_6), (3, .int .i64 from_3), (4, boxP b1 0), (9, .int .i64 k_7)]) [ro via_1v 1 (via_1.map (eInt .i64)), box b1 [.int .i64 n_0.Nodes, n_0_Arcsv], ro n_0_Arcsv 4 (n_0.Arcs.map S_api_Arc.enc)]
  refine run_seq ?_
  refine run_seq ?_
  refine run_region' ?_
  refine oy rfl rfl (y_move rfl) ?_
  refine oy rfl rfl (y_fieldAddr_box (sz := 0) Try.runUnderlying24 rfl Try.sizeOf3 rfl) ?_
  refine oy rfl rfl (y_load_box 1 Try.isAgg3 rfl rfl rfl) ?_
  refine oy rfl rfl (y_leq rfl rfl) ?_
  refine ops_nil ?_
  refine goes_code ?_
  refine run_cond (decide (k_7 ≤ n_0.Nodes)) rfl (fun hc12 => ?_) (fun hc12 => ?_)
  ·replace h := cond_t h hc12
   refine run_skip ?_
   refine goes_code ?_
   refine run_seq ?_
   refine run_block ?_
   refine run_seq ?_
   refine run_seq ?_
   refine run_region' ?_
   refine oy rfl rfl (y_move rfl) ?_
   refine oy rfl rfl (y_move rfl) ?_
   refine oy rfl rfl (y_eql rfl rfl) ?_
   refine ops_nil ?_
   refine goes_code ?_
   refine run_cond (decide (v_6 = from_3)) rfl (fun hc13 => ?_) (fun hc13 => ?_)
   ·replace h := cond_t h hc13
    refine run_seq ?_
    refine run_region' ?_
    refine oy rfl rfl (y_assign rfl) ?_
    refine ops_nil ?_
    refine goes_code ?_
    refine run_ret ?_
    obtain rfl := some_eq h
    obtain rfl := hstop10 _ rfl
    skip
    obtain rfl := after_stop ho3
    refine fin_slots [8] [.bool true] [] [] Try.results68 rfl (by decide) rfl ?_
    exact ⟨rfl, rfl⟩
   ·replace h := cond_f h hc13
    refine run_skip ?_
    refine goes_code ?_
    refine run_seq ?_
    refine run_seq ?_
    refine run_region' ?_
    refine oy rfl rfl (y_move rfl) ?_
    refine oy rfl rfl (y_move rfl) ?_
    obtain ⟨x14, hzx14, hlx14, hxx14, h⟩ := idx_some h
    refine oy rfl rfl (y_indexAddrI (kd := .i64) (i := v_6) 0 Try.runUnderlying34 Try.sizeOf3 rfl rfl rfl reads_ro hzx14 (map_lt hlx14)) ?_
    refine oy rfl rfl (y_load_elem (i := v_6.toNat) 0 Try.isAgg3 rfl rfl reads_ro (map_get hxx14)) ?_
    refine oy rfl rfl (y_lss rfl rfl) ?_
    refine ops_nil ?_
    refine goes_code ?_
    refine run_cond (decide (x14 < 0)) rfl (fun hc15 => ?_) (fun hc15 => ?_)
    ·replace h := cond_t h hc15
     refine run_seq ?_
     refine run_weak [] [] [] vnil (by decide) rfl ?_
     refine run_region' ?_
     refine oy rfl rfl (y_assign rfl) ?_
     refine ops_nil ?_
     refine goes_code ?_
     refine run_ret ?_
     obtain rfl := some_eq h
     obtain rfl := hstop10 _ rfl
     skip
     obtain rfl := after_stop ho3
     refine fin_slots [8] [.bool false] [] [] Try.results68 rfl (by decide) rfl ?_
     exact ⟨rfl, rfl⟩
    ·replace h := cond_f h hc15
     refine run_skip ?_
     refine goes_code ?_
     refine run_weak [(1, via_1v), (2, .int .i64 v_6), (3, .int .i64 from_3), (4, boxP b1 0), (9, .int .i64 k_7)] [0, 1, 2] [ro via_1v 1 (via_1.map (eInt .i64)), box b1 [.int .i64 n_0.Nodes, n_0_Arcsv], ro n_0_Arcsv 4 (n_0.Arcs.map S_api_Arc.enc)] (qv5 rfl rfl rfl rfl rfl) (by decide) rfl ?_
     refine run_draw (by kernel_rfl) (by kernel_rfl) ?_
     refine sy rfl rfl (y_fieldAddr_box (sz := 0) Try.runUnderlying24 rfl Try.sizeOf22 rfl) ?_
     refine sy rfl rfl (y_load_box 1 Try.isAgg22 rfl rfl rfl) ?_
     refine sy rfl rfl (y_move rfl) ?_
     refine sy rfl rfl (y_move rfl) ?_
     refine sy rfl rfl (y_indexAddrI (kd := .i64) (i := v_6) 0 Try.runUnderlying34 Try.sizeOf3 rfl rfl rfl reads_ro hzx14 (map_lt hlx14)) ?_
     refine sy rfl rfl (y_load_elem (i := v_6.toNat) 0 Try.isAgg3 rfl rfl reads_ro (map_get hxx14)) ?_
     obtain ⟨x16, hzx16, hlx16, hxx16, h⟩ := idx_some h
     refine sy rfl rfl (y_indexAddrI (kd := .i64) (i := x14) 2 Try.runUnderlying22 Try.sizeOf67 rfl rfl rfl reads_ro hzx16 (map_lt hlx16)) ?_
     refine sy rfl rfl (y_fieldAddr_elem (sz := 0) Try.runUnderlying67 rfl Try.sizeOf3 rfl) ?_
     refine sy rfl rfl (y_load_field (i := x14.toNat) (j := 0) 2 Try.isAgg3 rfl rfl reads_ro (map_get hxx16) rfl) ?_
     refine sy rfl rfl (y_assign rfl) ?_
     refine still_nil ?_
     refine goes_blk ?_
     refine goes_code ?_
     refine run_weak [(1, via_1v), (2, .int .i64 x16.From), (3, .int .i64 from_3), (4, boxP b1 0), (9, .int .i64 k_7)] [0, 1, 2] [ro via_1v 1 (via_1.map (eInt .i64)), box b1 [.int .i64 n_0.Nodes, n_0_Arcsv], ro n_0_Arcsv 4 (n_0.Arcs.map S_api_Arc.enc)] (qv5 rfl rfl rfl rfl rfl) (by decide) rfl ?_
     refine run_region' ?_
     refine oy rfl rfl (y_move rfl) ?_
     refine oy rfl rfl (y_add rfl rfl) ?_
     refine oy rfl rfl (y_assign rfl) ?_
     refine ops_nil ?_
     obtain rfl := some_eq h
     exact goes_iter hgo9 (x16.From, (IntKind.i64.wrap (k_7 + 1))) () [0, 1, 2] rfl (qv5 rfl rfl rfl rfl rfl) (by decide) rfl
  ·replace h := cond_f h hc12
   refine run_exit _ rfl ?_
   obtain rfl := some_eq h
   obtain rfl := hstop10 _ rfl
   exact goes_cut hL4 ((), ()) [] vnil (by decide) rfl rfl
 rintro ⟨_, _⟩ hj
 obtain rfl : o2 = _ := hj
 replace h := after_go ho3
 clear ho3
 change Run _ _ _ (VF.of []) []
 refine run_seq ?_
 refine run_region' ?_
 refine oy rfl rfl (y_assign rfl) ?_
 refine ops_nil ?_
 refine goes_code ?_
 refine run_ret ?_
 obtain rfl := some_eq h
 refine fin_slots [8] [.bool false] [] [] Try.results68 rfl (by decide) rfl ?_
 exact ⟨rfl, rfl⟩

end Go.Proofs.Ytgelifcckhemiaa
