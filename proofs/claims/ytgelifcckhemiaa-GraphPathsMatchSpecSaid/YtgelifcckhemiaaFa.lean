/-
  Functions of the program, lifted: part 1.
-/
import Derived.Test.YtgelifcckhemiaaChecked
import Derived.Test.YtgelifcckhemiaaM0
import Derived.Test.YtgelifcckhemiaaM1
namespace Go.Proofs.Ytgelifcckhemiaa
open Go.Abs
set_option linter.unusedVariables false
set_option linter.unusedSimpArgs false
set_option maxRecDepth 20000
set_option maxHeartbeats 4000000

structure S_api_Arc where
  From : Int
  To : Int
  Cap : Int
  Cost : Int
  deriving DecidableEq, Repr
def S_api_Arc.enc (x : S_api_Arc) : List Value := [.int .i64 x.From, .int .i64 x.To, .int .i64 x.Cap, .int .i64 x.Cost]
theorem S_api_Arc.enc_ok (x : S_api_Arc) : (S_api_Arc.enc x).length = 4 ∧ ∀ u ∈ S_api_Arc.enc x, u.oneCell' = true := by
  constructor
  · rfl
  · intro u hu; simp only [S_api_Arc.enc, List.mem_cons, List.not_mem_nil, or_false] at hu; rcases hu with rfl | rfl | rfl | rfl <;> rfl
structure S_api_Net where
  Nodes : Int
  Arcs : (List S_api_Arc)
  deriving DecidableEq, Repr
structure S_graph_queue_int where
  l_ : (List Int)
  deriving DecidableEq, Repr
structure S_graph_reached where
  is_ : Bool
  sum_ : Int
  arcs_ : Int
  deriving DecidableEq, Repr
def S_graph_reached.enc (x : S_graph_reached) : List Value := [.bool x.is_, .int .i64 x.sum_, .int .i64 x.arcs_]
theorem S_graph_reached.enc_ok (x : S_graph_reached) : (S_graph_reached.enc x).length = 3 ∧ ∀ u ∈ S_graph_reached.enc x, u.oneCell' = true := by
  constructor
  · rfl
  · intro u hu; simp only [S_graph_reached.enc, List.mem_cons, List.not_mem_nil, or_false] at hu; rcases hu with rfl | rfl | rfl <;> rfl
structure S_api_Routes where
  Dist : (List Int)
  Via : (List Int)
  Cycle : (List Int)
  deriving DecidableEq, Repr
structure S_ref09_Step where
  Is : Bool
  Sum : Int
  Arcs : Int
  deriving DecidableEq, Repr
def S_ref09_Step.enc (x : S_ref09_Step) : List Value := [.bool x.Is, .int .i64 x.Sum, .int .i64 x.Arcs]
theorem S_ref09_Step.enc_ok (x : S_ref09_Step) : (S_ref09_Step.enc x).length = 3 ∧ ∀ u ∈ S_ref09_Step.enc x, u.oneCell' = true := by
  constructor
  · rfl
  · intro u hu; simp only [S_ref09_Step.enc, List.mem_cons, List.not_mem_nil, or_false] at hu; rcases hu with rfl | rfl | rfl <;> rfl
structure S_ref09_Found where
  R : S_api_Routes
  Negative : Bool
  E : Int
  deriving DecidableEq, Repr
def NC_L_int_34 : NC (List Int) where
  G := Value
  es := 1
  F := fun x g => [g]
  S := fun x g => [ro g 1 (x.map (eInt .i64))]
  free := by
    intro x g h hh
    simp only [List.mem_cons, List.not_mem_nil, or_false] at hh
    rcases hh with rfl <;> first | exact free_ro | exact free_nro
  ok := by
    intro x g w o k hh
    refine ⟨rfl, ?_⟩
    intro u hu
    simp only [List.mem_cons, List.not_mem_nil, or_false] at hu
    rcases hu with rfl <;> first | rfl | exact ro_one (hh _ (.head _)) | exact nro_one (hh _ (.head _))

def law09_example (more_0 : (List S_api_Arc)) : Option (S_api_Net) :=
 need (([(S_api_Arc.mk 0 1 0 2), (S_api_Arc.mk 1 2 0 (-1)), (S_api_Arc.mk 0 2 0 1), (S_api_Arc.mk 3 0 0 0)] : List S_api_Arc).length + more_0.length ≤ 4294967296) (
 some (S_api_Net.mk 4 (([(S_api_Arc.mk 0 1 0 2), (S_api_Arc.mk 1 2 0 (-1)), (S_api_Arc.mk 0 2 0 1), (S_api_Arc.mk 3 0 0 0)] : List S_api_Arc) ++ more_0)))
theorem law09_example_ok (more_0 : (List S_api_Arc)) (more_0v : Value) {r : S_api_Net} (h : law09_example more_0 = some r) :
  Meets Try.prog 33 [more_0v] [ro more_0v 4 (more_0.map S_api_Arc.enc)] (fun v G => ∃ v0, v = .agg #[.int .i64 r.Nodes, v0] ∧ G = [row v0 4 (r.Arcs.map S_api_Arc.enc)]) := by
 refine fn_of_run Try.func33 rfl Try.ntmps33 rfl (fun w0 o0 => ?_)
 refine run_seq ?_
 refine run_region' ?_
 refine ot rfl rfl (t_alloc Try.zeroValue24) ?_
 rintro _ _ ⟨b1, rfl, rfl⟩
 refine ops_nil ?_
 refine goes_code ?_
 refine run_seq ?_
 refine run_region' ?_
 refine oy rfl rfl (y_build_struct (cells := #[.int .i64 0, .int .i64 1, .int .i64 0, .int .i64 2]) [(0, .int .i64 0), (1, .int .i64 1), (3, .int .i64 2)] [(0, [.int .i64 0]), (1, [.int .i64 1]), (3, [.int .i64 2])] Try.zeroValue67 Try.runUnderlying67 (fs_cons Try.sizeOf3 (fs_cons Try.sizeOf3 (fs_cons Try.sizeOf3 (fs_cons Try.sizeOf3 fs_nil)))) rfl rfl rfl) ?_
 refine oy rfl rfl (y_build_struct (cells := #[.int .i64 1, .int .i64 2, .int .i64 0, .int .i64 (-1)]) [(0, .int .i64 1), (1, .int .i64 2), (3, .int .i64 (-1))] [(0, [.int .i64 1]), (1, [.int .i64 2]), (3, [.int .i64 (-1)])] Try.zeroValue67 Try.runUnderlying67 (fs_cons Try.sizeOf3 (fs_cons Try.sizeOf3 (fs_cons Try.sizeOf3 (fs_cons Try.sizeOf3 fs_nil)))) rfl rfl rfl) ?_
 refine oy rfl rfl (y_build_struct (cells := #[.int .i64 0, .int .i64 2, .int .i64 0, .int .i64 1]) [(0, .int .i64 0), (1, .int .i64 2), (3, .int .i64 1)] [(0, [.int .i64 0]), (1, [.int .i64 2]), (3, [.int .i64 1])] Try.zeroValue67 Try.runUnderlying67 (fs_cons Try.sizeOf3 (fs_cons Try.sizeOf3 (fs_cons Try.sizeOf3 (fs_cons Try.sizeOf3 fs_nil)))) rfl rfl rfl) ?_
 refine oy rfl rfl (y_build_struct (cells := #[.int .i64 3, .int .i64 0, .int .i64 0, .int .i64 0]) [(0, .int .i64 3), (1, .int .i64 0)] [(0, [.int .i64 3]), (1, [.int .i64 0])] Try.zeroValue67 Try.runUnderlying67 (fs_cons Try.sizeOf3 (fs_cons Try.sizeOf3 (fs_cons Try.sizeOf3 (fs_cons Try.sizeOf3 fs_nil)))) rfl rfl rfl) ?_
 refine ot rfl rfl (t_lit [.agg #[.int .i64 0, .int .i64 1, .int .i64 0, .int .i64 2], .agg #[.int .i64 1, .int .i64 2, .int .i64 0, .int .i64 (-1)], .agg #[.int .i64 0, .int .i64 2, .int .i64 0, .int .i64 1], .agg #[.int .i64 3, .int .i64 0, .int .i64 0, .int .i64 0]] Try.runUnderlying22 Try.sizeOf67 Try.zeroValue67 rfl (by decide) (by decide) rfl (by simp [Value.cells, boxP])) ?_
 rintro v2 _ ⟨rfl, _⟩
 refine ops_turn (retell 2 (g := row v2 4 (([(S_api_Arc.mk 0 1 0 2), (S_api_Arc.mk 1 2 0 (-1)), (S_api_Arc.mk 0 2 0 1), (S_api_Arc.mk 3 0 0 0)] : List S_api_Arc).map S_api_Arc.enc)) rfl rfl) ?_
 refine oy rfl rfl (y_assign rfl) ?_
 refine ops_nil ?_
 refine goes_code ?_
 refine run_seq ?_
 refine run_region' ?_
 refine oy rfl rfl (y_move rfl) ?_
 refine oy rfl rfl (y_move rfl) ?_
 obtain ⟨hr4, h⟩ := need_some h
 refine ot rfl rfl (t_append (es := 4) 2 rfl Try.runUnderlying22 rfl Try.runUnderlying22 (.inr ⟨_, rfl⟩) Try.typeInfo67 rfl (by decide) Try.zeroValue67 rfl rfl rfl rfl (src_reads 0 rfl reads_ro (map_ok S_api_Arc.enc_ok _)) (map_room hr4 (by decide)) (map_fit hr4)) ?_
 rintro v3 _ rfl
 refine ops_turn (retell 2 (g := row v3 4 ((([(S_api_Arc.mk 0 1 0 2), (S_api_Arc.mk 1 2 0 (-1)), (S_api_Arc.mk 0 2 0 1), (S_api_Arc.mk 3 0 0 0)] : List S_api_Arc) ++ more_0).map S_api_Arc.enc)) rfl (congrArg (row _ _) List.map_append.symm)) ?_
 refine ops_slc 2 rfl reads_row (fun hs5 hs5o => ?_)
 refine oy rfl rfl (y_build_struct (cells := #[.int .i64 4, v3]) [(0, .int .i64 4), (1, v3)] [(0, [.int .i64 4]), (1, [v3])] Try.zeroValue24 Try.runUnderlying24 (fs_cons Try.sizeOf3 (fs_cons Try.sizeOf22 fs_nil)) rfl (by first | (simp only [List.map_cons, List.map_nil, hs5]; done) | (simp only [List.map_cons, List.map_nil, hs5]; rfl)) rfl) ?_
 refine ops_slc 2 rfl reads_row (fun hs6 hs6o => ?_)
 refine ot rfl rfl (t_store 1 Try.sizeOf24 rfl rfl rfl rfl (by simp [Value.cells, boxP]) (by intro u hu; replace hu : u ∈ ([.int .i64 4, v3] : List Value) := hu; simp only [List.mem_cons, List.not_mem_nil, or_false] at hu; rcases hu with rfl | rfl <;> first | rfl | assumption)) ?_
 rintro _ _ ⟨rfl, rfl⟩
 refine ops_turn (retell 1 (g := box b1 [.int .i64 4, v3]) rfl rfl) ?_
 refine ops_nil ?_
 refine goes_code ?_
 refine run_ret ?_
 obtain rfl := some_eq h
 refine fin_res [.cell 2 24] [.agg #[.int .i64 4, v3]] [2] [row v3 4 ((([(S_api_Arc.mk 0 1 0 2), (S_api_Arc.mk 1 2 0 (-1)), (S_api_Arc.mk 0 2 0 1), (S_api_Arc.mk 3 0 0 0)] : List S_api_Arc) ++ more_0).map S_api_Arc.enc)] Try.results33 rfl (rescons (res_box 1 Try.isAgg24 Try.sizeOf24 rfl rfl rfl) resnil) (by decide) rfl ?_
 exact ⟨_, rfl, rfl⟩

def graph_Valid_1_46 (a_0 : S_api_Arc) (a_1 : S_api_Net) : Option (Bool) :=
 some (((decide ((min a_0.From a_0.To) < 0) || decide (a_1.Nodes ≤ (max a_0.From a_0.To))) || decide (1048576 < (max a_0.Cost (IntKind.i64.wrap (0 - a_0.Cost))))) || decide (a_0.Cost < (-1048576)))
theorem graph_Valid_1_46_ok (a_0 : S_api_Arc) (a_1 : S_api_Net) (a_1b : Nat) (a_1_Arcsv : Value) {r : Bool} (h : graph_Valid_1_46 a_0 a_1 = some r) :
  Meets Try.prog 46 [.agg #[.int .i64 a_0.From, .int .i64 a_0.To, .int .i64 a_0.Cap, .int .i64 a_0.Cost], boxP a_1b 0] [ro a_1_Arcsv 4 (a_1.Arcs.map S_api_Arc.enc), box a_1b [.int .i64 a_1.Nodes, a_1_Arcsv]] (fun v G => v = .bool r ∧ G = [box a_1b [.int .i64 a_1.Nodes, a_1_Arcsv]]) := by
 refine fn_of_run Try.func46 rfl Try.ntmps46 rfl (fun w0 o0 => ?_)
 refine run_seq ?_
 refine run_region' ?_
 refine ot rfl rfl (t_box rfl) ?_
 rintro _ _ ⟨b1, rfl, rfl⟩
 refine oy rfl rfl (y_assign rfl) ?_
 refine ops_nil ?_
 refine goes_code ?_
 refine run_seq ?_
 refine run_region' ?_
 refine oy rfl rfl (y_fieldAddr_box (sz := 0) Try.runUnderlying67 rfl Try.sizeOf3 rfl) ?_
 refine oy rfl rfl (y_load_box 2 Try.isAgg3 rfl rfl rfl) ?_
 refine oy rfl rfl (y_fieldAddr_box (sz := 0) Try.runUnderlying67 rfl Try.sizeOf3 rfl) ?_
 refine oy rfl rfl (y_load_box 2 Try.isAgg3 rfl rfl rfl) ?_
 refine oy rfl rfl (y_min rfl rfl) ?_
 refine oy rfl rfl (y_lss rfl rfl) ?_
 refine oy rfl rfl (y_move rfl) ?_
 refine ops_cut 9 (Bool) (fun σ => [(2, boxP b1 0), (19, .bool σ)]) (fun σ => [ro a_1_Arcsv 4 (a_1.Arcs.map S_api_Arc.enc), box a_1b [.int .i64 a_1.Nodes, a_1_Arcsv], box b1 [.int .i64 a_0.From, .int .i64 a_0.To, .int .i64 a_0.Cap, .int .i64 a_0.Cost]]) (fun σ => σ = (decide ((min a_0.From a_0.To) < 0) || decide (a_1.Nodes ≤ (max a_0.From a_0.To)))) (fun L2 hL3 => ?_) ?_
 ·refine ops_split 10 (decide ((min a_0.From a_0.To) < 0)) rfl (fun hg4 => ?_) (fun hg4 => ?_)
  ·skip
   refine ops_no 6 false 10 rfl rfl rfl rfl rfl ?_
   refine ops_no 6 false 10 rfl rfl rfl rfl rfl ?_
   refine ops_no 6 false 10 rfl rfl rfl rfl rfl ?_
   refine ops_no 6 false 10 rfl rfl rfl rfl rfl ?_
   refine ops_no 6 false 10 rfl rfl rfl rfl rfl ?_
   refine ops_no 6 false 10 rfl rfl rfl rfl rfl ?_
   refine ops_weak [(2, boxP b1 0), (10, .bool true)] [0, 1, 2] [ro a_1_Arcsv 4 (a_1.Arcs.map S_api_Arc.enc), box a_1b [.int .i64 a_1.Nodes, a_1_Arcsv], box b1 [.int .i64 a_0.From, .int .i64 a_0.To, .int .i64 a_0.Cap, .int .i64 a_0.Cost]] (qv2 rfl rfl) (by decide) rfl ?_
   refine ops_no 6 false 10 rfl rfl rfl rfl rfl ?_
   refine ops_no 6 false 10 rfl rfl rfl rfl rfl ?_
   refine oy rfl rfl (y_pick (b := true) rfl rfl) ?_
   refine ops_nil ?_
   exact goes_cut hL3 true [0, 1, 2] (qv2 rfl rfl) (by decide) rfl (by rw [hg4]; simp)
  ·skip
   refine ops_y (wg 6 false 10 rfl rfl rfl rfl) rfl (y_fieldAddr_box (sz := 0) Try.runUnderlying67 rfl Try.sizeOf3 rfl) ?_
   refine ops_y (wg 6 false 10 rfl rfl rfl rfl) rfl (y_load_box 2 Try.isAgg3 rfl rfl rfl) ?_
   refine ops_y (wg 6 false 10 rfl rfl rfl rfl) rfl (y_fieldAddr_box (sz := 0) Try.runUnderlying67 rfl Try.sizeOf3 rfl) ?_
   refine ops_y (wg 6 false 10 rfl rfl rfl rfl) rfl (y_load_box 2 Try.isAgg3 rfl rfl rfl) ?_
   refine ops_y (wg 6 false 10 rfl rfl rfl rfl) rfl (y_max rfl rfl) ?_
   refine ops_y (wg 6 false 10 rfl rfl rfl rfl) rfl (y_fieldAddr_box (sz := 0) Try.runUnderlying24 rfl Try.sizeOf3 rfl) ?_
   refine ops_weak [(2, boxP b1 0), (10, .bool false), (15, .int .i64 (max a_0.From a_0.To)), (16, boxP a_1b 0)] [0, 1, 2] [ro a_1_Arcsv 4 (a_1.Arcs.map S_api_Arc.enc), box a_1b [.int .i64 a_1.Nodes, a_1_Arcsv], box b1 [.int .i64 a_0.From, .int .i64 a_0.To, .int .i64 a_0.Cap, .int .i64 a_0.Cost]] (qv4 rfl rfl rfl rfl) (by decide) rfl ?_
   refine ops_y (wg 6 false 10 rfl rfl rfl rfl) rfl (y_load_box 1 Try.isAgg3 rfl rfl rfl) ?_
   refine ops_y (wg 6 false 10 rfl rfl rfl rfl) rfl (y_geq rfl rfl) ?_
   refine oy rfl rfl (y_pick (b := false) rfl rfl) ?_
   refine ops_nil ?_
   exact goes_cut hL3 (decide (a_1.Nodes ≤ (max a_0.From a_0.To))) [0, 1, 2] (qv2 rfl rfl) (by decide) rfl (by rw [hg4]; simp)
 rintro _ rfl
 refine oy rfl rfl (y_move rfl) ?_
 refine ops_cut 8 (Bool) (fun σ => [(2, boxP b1 0), (28, .bool σ)]) (fun σ => [ro a_1_Arcsv 4 (a_1.Arcs.map S_api_Arc.enc), box a_1b [.int .i64 a_1.Nodes, a_1_Arcsv], box b1 [.int .i64 a_0.From, .int .i64 a_0.To, .int .i64 a_0.Cap, .int .i64 a_0.Cost]]) (fun σ => σ = ((decide ((min a_0.From a_0.To) < 0) || decide (a_1.Nodes ≤ (max a_0.From a_0.To))) || decide (1048576 < (max a_0.Cost (IntKind.i64.wrap (0 - a_0.Cost)))))) (fun L5 hL6 => ?_) ?_
 ·refine ops_split 20 (decide ((min a_0.From a_0.To) < 0) || decide (a_1.Nodes ≤ (max a_0.From a_0.To))) rfl (fun hg7 => ?_) (fun hg7 => ?_)
  ·skip
   refine ops_no 16 false 20 rfl rfl rfl rfl rfl ?_
   refine ops_no 16 false 20 rfl rfl rfl rfl rfl ?_
   refine ops_no 16 false 20 rfl rfl rfl rfl rfl ?_
   refine ops_no 16 false 20 rfl rfl rfl rfl rfl ?_
   refine ops_no 16 false 20 rfl rfl rfl rfl rfl ?_
   refine ops_no 16 false 20 rfl rfl rfl rfl rfl ?_
   refine ops_no 16 false 20 rfl rfl rfl rfl rfl ?_
   refine oy rfl rfl (y_pick (b := true) rfl rfl) ?_
   refine ops_nil ?_
   exact goes_cut hL6 true [0, 1, 2] (qv2 rfl rfl) (by decide) rfl (by rw [hg7]; simp)
  ·skip
   refine ops_y (wg 16 false 20 rfl rfl rfl rfl) rfl (y_fieldAddr_box (sz := 0) Try.runUnderlying67 rfl Try.sizeOf3 rfl) ?_
   refine ops_y (wg 16 false 20 rfl rfl rfl rfl) rfl (y_load_box 2 Try.isAgg3 rfl rfl rfl) ?_
   refine ops_y (wg 16 false 20 rfl rfl rfl rfl) rfl (y_fieldAddr_box (sz := 0) Try.runUnderlying67 rfl Try.sizeOf3 rfl) ?_
   refine ops_y (wg 16 false 20 rfl rfl rfl rfl) rfl (y_load_box 2 Try.isAgg3 rfl rfl rfl) ?_
   refine ops_y (wg 16 false 20 rfl rfl rfl rfl) rfl (y_neg rfl) ?_
   refine ops_y (wg 16 false 20 rfl rfl rfl rfl) rfl (y_max rfl rfl) ?_
   refine ops_y (wg 16 false 20 rfl rfl rfl rfl) rfl (y_gtr rfl rfl) ?_
   refine oy rfl rfl (y_pick (b := false) rfl rfl) ?_
   refine ops_nil ?_
   exact goes_cut hL6 (decide (1048576 < (max a_0.Cost (IntKind.i64.wrap (0 - a_0.Cost))))) [0, 1, 2] (qv2 rfl rfl) (by decide) rfl (by rw [hg7]; simp)
 rintro _ rfl
 refine oy rfl rfl (y_move rfl) ?_
 refine ops_cut 4 (Bool) (fun σ => [(33, .bool σ)]) (fun σ => [ro a_1_Arcsv 4 (a_1.Arcs.map S_api_Arc.enc), box a_1b [.int .i64 a_1.Nodes, a_1_Arcsv]]) (fun σ => σ = (((decide ((min a_0.From a_0.To) < 0) || decide (a_1.Nodes ≤ (max a_0.From a_0.To))) || decide (1048576 < (max a_0.Cost (IntKind.i64.wrap (0 - a_0.Cost))))) || decide (a_0.Cost < (-1048576)))) (fun L8 hL9 => ?_) ?_
 ·refine ops_split 29 ((decide ((min a_0.From a_0.To) < 0) || decide (a_1.Nodes ≤ (max a_0.From a_0.To))) || decide (1048576 < (max a_0.Cost (IntKind.i64.wrap (0 - a_0.Cost))))) rfl (fun hg10 => ?_) (fun hg10 => ?_)
  ·skip
   refine ops_no 25 false 29 rfl rfl rfl rfl rfl ?_
   refine ops_no 25 false 29 rfl rfl rfl rfl rfl ?_
   refine ops_no 25 false 29 rfl rfl rfl rfl rfl ?_
   refine oy rfl rfl (y_pick (b := true) rfl rfl) ?_
   refine ops_nil ?_
   exact goes_cut hL9 true [0, 1] (qv1 rfl) (by decide) rfl (by rw [hg10]; simp)
  ·skip
   refine ops_y (wg 25 false 29 rfl rfl rfl rfl) rfl (y_fieldAddr_box (sz := 0) Try.runUnderlying67 rfl Try.sizeOf3 rfl) ?_
   refine ops_y (wg 25 false 29 rfl rfl rfl rfl) rfl (y_load_box 2 Try.isAgg3 rfl rfl rfl) ?_
   refine ops_y (wg 25 false 29 rfl rfl rfl rfl) rfl (y_lss rfl rfl) ?_
   refine oy rfl rfl (y_pick (b := false) rfl rfl) ?_
   refine ops_nil ?_
   exact goes_cut hL9 (decide (a_0.Cost < (-1048576))) [0, 1] (qv1 rfl) (by decide) rfl (by rw [hg10]; simp)
 rintro _ rfl
 refine oy rfl rfl (y_assign rfl) ?_
 refine ops_nil ?_
 refine goes_code ?_
 refine run_ret ?_
 obtain rfl := some_eq h
 refine fin_slots [3] [.bool (((decide ((min a_0.From a_0.To) < 0) || decide (a_1.Nodes ≤ (max a_0.From a_0.To))) || decide (1048576 < (max a_0.Cost (IntKind.i64.wrap (0 - a_0.Cost))))) || decide (a_0.Cost < (-1048576)))] [1] [box a_1b [.int .i64 a_1.Nodes, a_1_Arcsv]] Try.results46 rfl (by decide) rfl ?_
 exact ⟨rfl, rfl⟩

def slices_IndexFunc_weirgate_api_Arc_weirgate_api_Arc_63_L1 (s_0 : (List S_api_Arc)) (f_1_0 : S_api_Net) : (Int) → Option (Lp (Int) (Lp (Unit) (Int))) :=
 fun s_5 =>
  cond (decide (s_5 < (s_0.length : Int)))
   (idx s_0 s_5 fun x11 =>
   obind (graph_Valid_1_46 x11 f_1_0) fun r12 =>
   cond r12
    (some (.stop (.stop s_5)))
    (some (.go (IntKind.i64.wrap (s_5 + 1)))))
   (some (.stop (.go ())))
def slices_IndexFunc_weirgate_api_Arc_weirgate_api_Arc_63 (n : Nat) (s_0 : (List S_api_Arc)) (f_1_0 : S_api_Net) : Option (Int) :=
 bindJ (S := Unit)
  (iter (slices_IndexFunc_weirgate_api_Arc_weirgate_api_Arc_63_L1 s_0 f_1_0) n 0)
 (fun _ =>
  some (-1))
theorem slices_IndexFunc_weirgate_api_Arc_weirgate_api_Arc_63_ok (n : Nat) (s_0 : (List S_api_Arc)) (f_1_0 : S_api_Net) (s_0v : Value) (f_1_0b : Nat) (f_1_0_Arcsv : Value) {r : Int} (h : slices_IndexFunc_weirgate_api_Arc_weirgate_api_Arc_63 n s_0 f_1_0 = some r) :
  Meets Try.prog 63 [s_0v, .func (.func 46) #[] #[boxP f_1_0b 0]] [ro s_0v 4 (s_0.map S_api_Arc.enc), ro f_1_0_Arcsv 4 (f_1_0.Arcs.map S_api_Arc.enc), box f_1_0b [.int .i64 f_1_0.Nodes, f_1_0_Arcsv]] (fun v G => v = .int .i64 r ∧ G = [box f_1_0b [.int .i64 f_1_0.Nodes, f_1_0_Arcsv]]) := by
 refine fn_of_run Try.func63 rfl Try.ntmps63 rfl (fun w0 o0 => ?_)
 refine run_seq ?_
 refine run_region' ?_
 refine oy rfl rfl (y_assign rfl) ?_
 refine ops_nil ?_
 refine goes_code ?_
 obtain ⟨o1, h, ho2⟩ := bindJ_some h
 refine run_cut ((Unit) × (Unit)) (fun σ => []) (fun σ => [box f_1_0b [.int .i64 f_1_0.Nodes, f_1_0_Arcsv], ro f_1_0_Arcsv 4 (f_1_0.Arcs.map S_api_Arc.enc)]) (fun σ => o1 = .go σ.1) (fun L4 hL3 => ?_) ?_
 ·
  refine run_seq ?_
  refine run_region' ?_
  refine oy rfl rfl (y_move rfl) ?_
  refine oy rfl rfl ((y_len 0 rfl Try.runUnderlying22 rfl rfl reads_ro).to (v_len S_api_Arc.enc _)) ?_
  refine oy rfl rfl (y_move rfl) ?_
  refine ops_nil ?_
  refine goes_code ?_
  refine run_block ?_
  refine run_iter (step := slices_IndexFunc_weirgate_api_Arc_weirgate_api_Arc_63_L1 s_0 f_1_0) (n := n) (s0 := 0) h (G := Unit) () (fun σ γ => [(0, s_0v), (1, .func (.func 46) #[] #[boxP f_1_0b 0]), (7, .int .i64 (s_0.length : Int)), (8, .int .i64 σ)]) (fun σ γ => [ro s_0v 4 (s_0.map S_api_Arc.enc), box f_1_0b [.int .i64 f_1_0.Nodes, f_1_0_Arcsv], ro f_1_0_Arcsv 4 (f_1_0.Arcs.map S_api_Arc.enc)]) [0, 2, 1] (qv4 rfl rfl rfl rfl) (by decide) rfl ?_
  rintro s_5 _ o6 h L9 hgo7 hstop8
  change Run _ _ _ (VF.of [(0, s_0v), (1, .func (.func 46) #[] #[boxP f_1_0b 0]), (7, .int .i64 (s_0.length : Int)), (8, .int .i64 s_5)]) [ro s_0v 4 (s_0.map S_api_Arc.enc), box f_1_0b [.int .i64 f_1_0.Nodes, f_1_0_Arcsv], ro f_1_0_Arcsv 4 (f_1_0.Arcs.map S_api_Arc.enc)]
  refine run_seq ?_
  refine run_region' ?_
  refine oy rfl rfl (y_lss rfl rfl) ?_
  refine ops_nil ?_
  refine goes_code ?_
  refine run_seq ?_
  refine run_cond (decide (s_5 < (s_0.length : Int))) rfl (fun hc10 => ?_) (fun hc10 => ?_)
  ·replace h := cond_t h hc10
   refine run_skip ?_
   refine goes_code ?_
   refine run_seq ?_
   refine run_block ?_
   refine run_seq ?_
   refine run_region' ?_
   refine oy rfl rfl (y_move rfl) ?_
   refine oy rfl rfl (y_assign rfl) ?_
   refine ops_nil ?_
   refine goes_code ?_
   refine run_seq ?_
   refine run_region' ?_
   refine oy rfl rfl (y_move rfl) ?_
   refine oy rfl rfl (y_move rfl) ?_
   refine oy rfl rfl (y_move rfl) ?_
   obtain ⟨x11, hzx11, hlx11, hxx11, h⟩ := idx_some h
   refine oy rfl rfl (y_indexAddrI (kd := .i64) (i := s_5) 0 Try.runUnderlying22 Try.sizeOf67 rfl rfl rfl reads_ro hzx11 (map_lt hlx11)) ?_
   refine oy rfl rfl (y_load_agg (i := s_5.toNat) (c := [.int .i64 x11.From, .int .i64 x11.To, .int .i64 x11.Cap, .int .i64 x11.Cost]) 0 Try.isAgg67 Try.sizeOf67 rfl rfl reads_ro (map_get hxx11)) ?_
   obtain ⟨r12, hr13, h⟩ := obind_some h
   refine ot rfl rfl (t_callx (vs := [.agg #[.int .i64 x11.From, .int .i64 x11.To, .int .i64 x11.Cap, .int .i64 x11.Cost]]) (cs := [boxP f_1_0b 0]) [(2, 0), (1, 2)] rfl Try.call46 rfl (graph_Valid_1_46_ok x11 f_1_0 f_1_0b f_1_0_Arcsv hr13) (showsX_view 2 rfl views_ro (showsX_lend 1 rfl showsX_nil)) rfl (.inl rfl)) ?_
   rintro _ _ ⟨_, ⟨rfl, rfl⟩, rfl⟩
   refine ops_nil ?_
   refine goes_code ?_
   refine run_cond r12 rfl (fun hc14 => ?_) (fun hc14 => ?_)
   ·replace h := cond_t h hc14
    refine run_seq ?_
    refine run_weak [(5, .int .i64 s_5)] [2, 3] [ro f_1_0_Arcsv 4 (f_1_0.Arcs.map S_api_Arc.enc), box f_1_0b [.int .i64 f_1_0.Nodes, f_1_0_Arcsv]] (qv1 rfl) (by decide) rfl ?_
    refine run_region' ?_
    refine oy rfl rfl (y_move rfl) ?_
    refine oy rfl rfl (y_assign rfl) ?_
    refine ops_nil ?_
    refine goes_code ?_
    refine run_ret ?_
    obtain rfl := some_eq h
    obtain rfl := hstop8 _ rfl
    skip
    obtain rfl := after_stop ho2
    refine fin_slots [4] [.int .i64 s_5] [1] [box f_1_0b [.int .i64 f_1_0.Nodes, f_1_0_Arcsv]] Try.results63 rfl (by decide) rfl ?_
    exact ⟨rfl, rfl⟩
   ·replace h := cond_f h hc14
    refine run_skip ?_
    refine goes_blk ?_
    refine goes_code ?_
    refine run_weak [(0, s_0v), (1, .func (.func 46) #[] #[boxP f_1_0b 0]), (7, .int .i64 (s_0.length : Int)), (8, .int .i64 s_5)] [0, 2, 3] [ro s_0v 4 (s_0.map S_api_Arc.enc), ro f_1_0_Arcsv 4 (f_1_0.Arcs.map S_api_Arc.enc), box f_1_0b [.int .i64 f_1_0.Nodes, f_1_0_Arcsv]] (qv4 rfl rfl rfl rfl) (by decide) rfl ?_
    refine run_region' ?_
    refine oy rfl rfl (y_add rfl rfl) ?_
    refine oy rfl rfl (y_move rfl) ?_
    refine ops_nil ?_
    obtain rfl := some_eq h
    exact goes_iter hgo7 (IntKind.i64.wrap (s_5 + 1)) () [0, 2, 1] rfl (qv4 rfl rfl rfl rfl) (by decide) rfl
  ·replace h := cond_f h hc10
   refine run_exit _ rfl ?_
   obtain rfl := some_eq h
   obtain rfl := hstop8 _ rfl
   exact goes_cut hL3 ((), ()) [1, 2] vnil (by decide) rfl rfl
 rintro ⟨_, _⟩ hj
 obtain rfl : o1 = _ := hj
 replace h := after_go ho2
 clear ho2
 change Run _ _ _ (VF.of []) [box f_1_0b [.int .i64 f_1_0.Nodes, f_1_0_Arcsv], ro f_1_0_Arcsv 4 (f_1_0.Arcs.map S_api_Arc.enc)]
 refine run_seq ?_
 refine run_region' ?_
 refine oy rfl rfl (y_assign rfl) ?_
 refine ops_nil ?_
 refine goes_code ?_
 refine run_ret ?_
 obtain rfl := some_eq h
 refine fin_slots [4] [.int .i64 (-1)] [0] [box f_1_0b [.int .i64 f_1_0.Nodes, f_1_0_Arcsv]] Try.results63 rfl (by decide) rfl ?_
 exact ⟨rfl, rfl⟩

def slices_ContainsFunc_weirgate_api_Arc_weirgate_api_Arc_45 (n : Nat) (s_0 : (List S_api_Arc)) (f_1_0 : S_api_Net) : Option (Bool) :=
 obind (slices_IndexFunc_weirgate_api_Arc_weirgate_api_Arc_63 n s_0 f_1_0) fun r1 =>
 some (decide (0 ≤ r1))
theorem slices_ContainsFunc_weirgate_api_Arc_weirgate_api_Arc_45_ok (n : Nat) (s_0 : (List S_api_Arc)) (f_1_0 : S_api_Net) (s_0v : Value) (f_1_0b : Nat) (f_1_0_Arcsv : Value) {r : Bool} (h : slices_ContainsFunc_weirgate_api_Arc_weirgate_api_Arc_45 n s_0 f_1_0 = some r) :
  Meets Try.prog 45 [s_0v, .func (.func 46) #[] #[boxP f_1_0b 0]] [ro s_0v 4 (s_0.map S_api_Arc.enc), ro f_1_0_Arcsv 4 (f_1_0.Arcs.map S_api_Arc.enc), box f_1_0b [.int .i64 f_1_0.Nodes, f_1_0_Arcsv]] (fun v G => v = .bool r ∧ G = [box f_1_0b [.int .i64 f_1_0.Nodes, f_1_0_Arcsv]]) := by
 refine fn_of_run Try.func45 rfl Try.ntmps45 rfl (fun w0 o0 => ?_)
 refine run_seq ?_
 refine run_region' ?_
 refine oy rfl rfl (y_assign rfl) ?_
 refine ops_nil ?_
 refine goes_code ?_
 refine run_seq ?_
 refine run_region' ?_
 refine oy rfl rfl (y_move rfl) ?_
 refine oy rfl rfl (y_move rfl) ?_
 obtain ⟨r1, hr2, h⟩ := obind_some h
 refine ot rfl rfl (t_callx (vs := [s_0v, .func (.func 46) #[] #[boxP f_1_0b 0]]) (cs := []) [(0, 0), (1, 0), (2, 2)] rfl Try.call63 rfl (slices_IndexFunc_weirgate_api_Arc_weirgate_api_Arc_63_ok n s_0 f_1_0 s_0v f_1_0b f_1_0_Arcsv hr2) (showsX_view 0 rfl views_ro (showsX_view 1 rfl views_ro (showsX_lend 2 rfl showsX_nil))) rfl (.inl rfl)) ?_
 rintro _ _ ⟨_, ⟨rfl, rfl⟩, rfl⟩
 refine oy rfl rfl (y_geq rfl rfl) ?_
 refine oy rfl rfl (y_assign rfl) ?_
 refine ops_nil ?_
 refine goes_code ?_
 refine run_ret ?_
 obtain rfl := some_eq h
 refine fin_slots [4] [.bool (decide (0 ≤ r1))] [3] [box f_1_0b [.int .i64 f_1_0.Nodes, f_1_0_Arcsv]] Try.results45 rfl (by decide) rfl ?_
 exact ⟨rfl, rfl⟩

def graph_Valid (n : Nat) (n_0 : S_api_Net) : Option (Bool) :=
 cond ((decide (n_0.Nodes < 0) || decide (256 < n_0.Nodes)) || decide (2048 < (n_0.Arcs.length : Int)))
  (some false)
  (obind (slices_ContainsFunc_weirgate_api_Arc_weirgate_api_Arc_45 n n_0.Arcs n_0) fun r9 =>
  some (!r9))
theorem graph_Valid_ok (n : Nat) (n_0 : S_api_Net) (n_0_Arcsv : Value) {r : Bool} (h : graph_Valid n n_0 = some r) :
  Meets Try.prog 17 [.agg #[.int .i64 n_0.Nodes, n_0_Arcsv]] [ro n_0_Arcsv 4 (n_0.Arcs.map S_api_Arc.enc)] (fun v G => v = .bool r ∧ G = []) := by
 refine fn_of_run Try.func17 rfl Try.ntmps17 rfl (fun w0 o0 => ?_)
 refine run_seq ?_
 refine run_region' ?_
 refine ot rfl rfl (t_box rfl) ?_
 rintro _ _ ⟨b1, rfl, rfl⟩
 refine oy rfl rfl (y_assign rfl) ?_
 refine ops_nil ?_
 refine goes_code ?_
 refine run_seq ?_
 refine run_seq ?_
 refine run_region' ?_
 refine oy rfl rfl (y_fieldAddr_box (sz := 0) Try.runUnderlying24 rfl Try.sizeOf3 rfl) ?_
 refine oy rfl rfl (y_load_box 1 Try.isAgg3 rfl rfl rfl) ?_
 refine oy rfl rfl (y_lss rfl rfl) ?_
 refine oy rfl rfl (y_move rfl) ?_
 refine ops_cut 4 (Bool) (fun σ => [(1, boxP b1 0), (10, .bool σ)]) (fun σ => [ro n_0_Arcsv 4 (n_0.Arcs.map S_api_Arc.enc), box b1 [.int .i64 n_0.Nodes, n_0_Arcsv]]) (fun σ => σ = (decide (n_0.Nodes < 0) || decide (256 < n_0.Nodes))) (fun L2 hL3 => ?_) ?_
 ·refine ops_split 6 (decide (n_0.Nodes < 0)) rfl (fun hg4 => ?_) (fun hg4 => ?_)
  ·skip
   refine ops_no 3 false 6 rfl rfl rfl rfl rfl ?_
   refine ops_no 3 false 6 rfl rfl rfl rfl rfl ?_
   refine ops_no 3 false 6 rfl rfl rfl rfl rfl ?_
   refine oy rfl rfl (y_pick (b := true) rfl rfl) ?_
   refine ops_nil ?_
   exact goes_cut hL3 true [0, 1] (qv2 rfl rfl) (by decide) rfl (by rw [hg4]; simp)
  ·skip
   refine ops_y (wg 3 false 6 rfl rfl rfl rfl) rfl (y_fieldAddr_box (sz := 0) Try.runUnderlying24 rfl Try.sizeOf3 rfl) ?_
   refine ops_y (wg 3 false 6 rfl rfl rfl rfl) rfl (y_load_box 1 Try.isAgg3 rfl rfl rfl) ?_
   refine ops_y (wg 3 false 6 rfl rfl rfl rfl) rfl (y_gtr rfl rfl) ?_
   refine oy rfl rfl (y_pick (b := false) rfl rfl) ?_
   refine ops_nil ?_
   exact goes_cut hL3 (decide (256 < n_0.Nodes)) [0, 1] (qv2 rfl rfl) (by decide) rfl (by rw [hg4]; simp)
 rintro _ rfl
 refine oy rfl rfl (y_move rfl) ?_
 refine ops_cut 5 (Bool) (fun σ => [(1, boxP b1 0), (16, .bool σ)]) (fun σ => [ro n_0_Arcsv 4 (n_0.Arcs.map S_api_Arc.enc), box b1 [.int .i64 n_0.Nodes, n_0_Arcsv]]) (fun σ => σ = ((decide (n_0.Nodes < 0) || decide (256 < n_0.Nodes)) || decide (2048 < (n_0.Arcs.length : Int)))) (fun L5 hL6 => ?_) ?_
 ·refine ops_split 11 (decide (n_0.Nodes < 0) || decide (256 < n_0.Nodes)) rfl (fun hg7 => ?_) (fun hg7 => ?_)
  ·skip
   refine ops_no 8 false 11 rfl rfl rfl rfl rfl ?_
   refine ops_no 8 false 11 rfl rfl rfl rfl rfl ?_
   refine ops_no 8 false 11 rfl rfl rfl rfl rfl ?_
   refine ops_no 8 false 11 rfl rfl rfl rfl rfl ?_
   refine oy rfl rfl (y_pick (b := true) rfl rfl) ?_
   refine ops_nil ?_
   exact goes_cut hL6 true [0, 1] (qv2 rfl rfl) (by decide) rfl (by rw [hg7]; simp)
  ·skip
   refine ops_y (wg 8 false 11 rfl rfl rfl rfl) rfl (y_fieldAddr_box (sz := 0) Try.runUnderlying24 rfl Try.sizeOf22 rfl) ?_
   refine ops_y (wg 8 false 11 rfl rfl rfl rfl) rfl (y_load_box 1 Try.isAgg22 rfl rfl rfl) ?_
   refine ops_y (wg 8 false 11 rfl rfl rfl rfl) rfl ((y_len 0 rfl Try.runUnderlying22 rfl rfl reads_ro).to (v_len S_api_Arc.enc _)) ?_
   refine ops_y (wg 8 false 11 rfl rfl rfl rfl) rfl (y_gtr rfl rfl) ?_
   refine oy rfl rfl (y_pick (b := false) rfl rfl) ?_
   refine ops_nil ?_
   exact goes_cut hL6 (decide (2048 < (n_0.Arcs.length : Int))) [0, 1] (qv2 rfl rfl) (by decide) rfl (by rw [hg7]; simp)
 rintro _ rfl
 refine ops_nil ?_
 refine goes_code ?_
 refine run_cond ((decide (n_0.Nodes < 0) || decide (256 < n_0.Nodes)) || decide (2048 < (n_0.Arcs.length : Int))) rfl (fun hc8 => ?_) (fun hc8 => ?_)
 ·replace h := cond_t h hc8
  refine run_seq ?_
  refine run_region' ?_
  refine oy rfl rfl (y_assign rfl) ?_
  refine ops_nil ?_
  refine goes_code ?_
  refine run_ret ?_
  obtain rfl := some_eq h
  refine fin_slots [2] [.bool false] [] [] Try.results17 rfl (by decide) rfl ?_
  exact ⟨rfl, rfl⟩
 ·replace h := cond_f h hc8
  refine run_skip ?_
  refine goes_code ?_
  refine run_seq ?_
  refine run_region' ?_
  refine oy rfl rfl (y_fieldAddr_box (sz := 0) Try.runUnderlying24 rfl Try.sizeOf22 rfl) ?_
  refine oy rfl rfl (y_load_box 1 Try.isAgg22 rfl rfl rfl) ?_
  refine oy rfl rfl (y_makeFunc (vs := [boxP b1 0]) rfl) ?_
  obtain ⟨r9, hr10, h⟩ := obind_some h
  refine ot rfl rfl (t_callx (vs := [n_0_Arcsv, .func (.func 46) #[] #[boxP b1 0]]) (cs := []) [(0, 0), (0, 0), (1, 2)] rfl Try.call45 rfl (slices_ContainsFunc_weirgate_api_Arc_weirgate_api_Arc_45_ok n n_0.Arcs n_0 n_0_Arcsv b1 n_0_Arcsv hr10) (showsX_view 0 rfl views_ro (showsX_view 0 rfl views_ro (showsX_lend 1 rfl showsX_nil))) rfl (.inl rfl)) ?_
  rintro _ _ ⟨_, ⟨rfl, rfl⟩, rfl⟩
  refine oy rfl rfl (y_not rfl) ?_
  refine oy rfl rfl (y_assign rfl) ?_
  refine ops_nil ?_
  refine goes_code ?_
  refine run_ret ?_
  obtain rfl := some_eq h
  refine fin_slots [2] [.bool (!r9)] [] [] Try.results17 rfl (by decide) rfl ?_
  exact ⟨rfl, rfl⟩

def graph_isNode (n_0 : S_api_Net) (v_1 : Int) : Option (Bool) :=
 some (decide (0 ≤ v_1) && decide (v_1 < n_0.Nodes))
theorem graph_isNode_ok (n_0 : S_api_Net) (v_1 : Int) (n_0_Arcsv : Value) {r : Bool} (h : graph_isNode n_0 v_1 = some r) :
  Meets Try.prog 34 [.agg #[.int .i64 n_0.Nodes, n_0_Arcsv], .int .i64 v_1] [ro n_0_Arcsv 4 (n_0.Arcs.map S_api_Arc.enc)] (fun v G => v = .bool r ∧ G = []) := by
 refine fn_of_run Try.func34 rfl Try.ntmps34 rfl (fun w0 o0 => ?_)
 refine run_seq ?_
 refine run_region' ?_
 refine ot rfl rfl (t_box rfl) ?_
 rintro _ _ ⟨b1, rfl, rfl⟩
 refine oy rfl rfl (y_assign rfl) ?_
 refine ops_nil ?_
 refine goes_code ?_
 refine run_seq ?_
 refine run_region' ?_
 refine oy rfl rfl (y_move rfl) ?_
 refine oy rfl rfl (y_geq rfl rfl) ?_
 refine oy rfl rfl (y_move rfl) ?_
 refine ops_cut 5 (Bool) (fun σ => [(12, .bool σ)]) (fun σ => []) (fun σ => σ = (decide (0 ≤ v_1) && decide (v_1 < n_0.Nodes))) (fun L2 hL3 => ?_) ?_
 ·refine ops_split 7 (decide (0 ≤ v_1)) rfl (fun hg4 => ?_) (fun hg4 => ?_)
  ·skip
   refine ops_y (wg 2 true 7 rfl rfl rfl rfl) rfl (y_move rfl) ?_
   refine ops_y (wg 2 true 7 rfl rfl rfl rfl) rfl (y_fieldAddr_box (sz := 0) Try.runUnderlying24 rfl Try.sizeOf3 rfl) ?_
   refine ops_y (wg 2 true 7 rfl rfl rfl rfl) rfl (y_load_box 1 Try.isAgg3 rfl rfl rfl) ?_
   refine ops_y (wg 2 true 7 rfl rfl rfl rfl) rfl (y_lss rfl rfl) ?_
   refine oy rfl rfl (y_pick (b := true) rfl rfl) ?_
   refine ops_nil ?_
   exact goes_cut hL3 (decide (v_1 < n_0.Nodes)) [] (qv1 rfl) (by decide) rfl (by rw [hg4]; simp)
  ·skip
   refine ops_no 2 true 7 rfl rfl rfl rfl rfl ?_
   refine ops_no 2 true 7 rfl rfl rfl rfl rfl ?_
   refine ops_no 2 true 7 rfl rfl rfl rfl rfl ?_
   refine ops_no 2 true 7 rfl rfl rfl rfl rfl ?_
   refine oy rfl rfl (y_pick (b := false) rfl rfl) ?_
   refine ops_nil ?_
   exact goes_cut hL3 false [] (qv1 rfl) (by decide) rfl (by rw [hg4]; simp)
 rintro _ rfl
 refine oy rfl rfl (y_assign rfl) ?_
 refine ops_nil ?_
 refine goes_code ?_
 refine run_ret ?_
 obtain rfl := some_eq h
 refine fin_slots [4] [.bool (decide (0 ≤ v_1) && decide (v_1 < n_0.Nodes))] [] [] Try.results34 rfl (by decide) rfl ?_
 exact ⟨rfl, rfl⟩

def weirgate_graph_queue_int_put_57 (q_0 : S_graph_queue_int) (x_1 : Int) : Option (S_graph_queue_int) :=
 need (q_0.l_.length + ([x_1] : List Int).length ≤ 4294967296) (
 some (S_graph_queue_int.mk (q_0.l_ ++ ([x_1] : List Int))))
theorem weirgate_graph_queue_int_put_57_ok (q_0 : S_graph_queue_int) (x_1 : Int) (q_0b : Nat) (q_0_l_v : Value) {r : S_graph_queue_int} (h : weirgate_graph_queue_int_put_57 q_0 x_1 = some r) :
  Meets Try.prog 57 [boxP q_0b 0, .int .i64 x_1] [row q_0_l_v 1 (q_0.l_.map (eInt .i64)), box q_0b [q_0_l_v]] (fun v G => ∃ v0, v = .tuple #[] ∧ G = [row v0 1 (r.l_.map (eInt .i64)), box q_0b [v0]]) := by
 refine fn_of_run Try.func57 rfl Try.ntmps57 rfl (fun w0 o0 => ?_)
 refine run_region' ?_
 refine oy rfl rfl (y_move rfl) ?_
 refine oy rfl rfl (y_move rfl) ?_
 refine oy rfl rfl (y_nilBox rfl) ?_
 refine oy rfl rfl (y_fieldAddr_box (sz := 0) Try.runUnderlying99 rfl Try.sizeOf34 rfl) ?_
 refine oy rfl rfl (y_load_box 1 Try.isAgg34 rfl rfl rfl) ?_
 refine oy rfl rfl (y_move rfl) ?_
 refine ot rfl rfl (t_lit [.int .i64 x_1] Try.runUnderlying34 Try.sizeOf3 Try.zeroValue3 rfl (by decide) (by decide) rfl (by simp [Value.cells, boxP])) ?_
 rintro v1 _ ⟨rfl, _⟩
 refine ops_turn (retell 2 (g := row v1 1 (([x_1] : List Int).map (eInt .i64))) rfl rfl) ?_
 obtain ⟨hr3, h⟩ := need_some h
 refine ot rfl rfl (t_append (es := 1) 0 rfl Try.runUnderlying34 rfl Try.runUnderlying34 (.inr ⟨_, rfl⟩) Try.typeInfo3 rfl (by decide) Try.zeroValue3 rfl rfl rfl rfl (src_reads 2 rfl reads_row (map_ok (eInt_ok _) _)) (map_room hr3 (by decide)) (map_fit hr3)) ?_
 rintro v2 _ rfl
 refine ops_turn (retell 0 (g := row v2 1 ((q_0.l_ ++ ([x_1] : List Int)).map (eInt .i64))) rfl (congrArg (row _ _) List.map_append.symm)) ?_
 refine oy rfl rfl (y_nilBox rfl) ?_
 refine oy rfl rfl (y_fieldAddr_box (sz := 0) Try.runUnderlying99 rfl Try.sizeOf34 rfl) ?_
 refine ops_slc 0 rfl reads_row (fun hs4 hs4o => ?_)
 refine ot rfl rfl (t_store 1 Try.sizeOf34 rfl rfl rfl (by rw [hs4]; rfl) (by simp [Value.cells, boxP]) (by rw [hs4]; intro u hu; replace hu : u ∈ ([v2] : List Value) := hu; simp only [List.mem_cons, List.not_mem_nil, or_false] at hu; rcases hu with rfl <;> first | rfl | assumption)) ?_
 rintro _ _ ⟨rfl, rfl⟩
 refine ops_turn (retell 1 (g := box q_0b [v2]) rfl (by rw [hs4]; rfl)) ?_
 refine ops_nil ?_
 refine goes_nil ?_
 obtain rfl := some_eq h
 refine fin_slots [] [] [0, 1] [row v2 1 ((q_0.l_ ++ ([x_1] : List Int)).map (eInt .i64)), box q_0b [v2]] Try.results57 rfl (by decide) rfl ?_
 exact ⟨_, rfl, rfl⟩

def weirgate_graph_queue_int_get_58 (q_0 : S_graph_queue_int) : Option (Int × Bool × S_graph_queue_int) :=
 cond (decide ((q_0.l_.length : Int) = 0))
  (some (0, false, q_0))
  (idx q_0.l_ 0 fun x2 =>
  need (0 ≤ (1 : Int) ∧ 1 ≤ (q_0.l_.length : Int) ∧ (q_0.l_.length : Int) ≤ (q_0.l_.length : Int)) (
  some (x2, true, (S_graph_queue_int.mk (q_0.l_.drop ((1 : Int).toNat))))))
theorem weirgate_graph_queue_int_get_58_ok (q_0 : S_graph_queue_int) (q_0b : Nat) (q_0_l_v : Value) {r : Int × Bool × S_graph_queue_int} (h : weirgate_graph_queue_int_get_58 q_0 = some r) :
  Meets Try.prog 58 [boxP q_0b 0] [row q_0_l_v 1 (q_0.l_.map (eInt .i64)), box q_0b [q_0_l_v]] (fun v G => ∃ v0, v = .tuple #[.int .i64 r.1, .bool r.2.1] ∧ G = [row v0 1 (r.2.2.l_.map (eInt .i64)), box q_0b [v0]]) := by
 refine fn_of_run Try.func58 rfl Try.ntmps58 rfl (fun w0 o0 => ?_)
 refine run_seq ?_
 refine run_region' ?_
 refine oy rfl rfl (y_assign rfl) ?_
 refine oy rfl rfl (y_assign rfl) ?_
 refine ops_nil ?_
 refine goes_code ?_
 refine run_seq ?_
 refine run_seq ?_
 refine run_region' ?_
 refine oy rfl rfl (y_move rfl) ?_
 refine oy rfl rfl (y_nilBox rfl) ?_
 refine oy rfl rfl (y_fieldAddr_box (sz := 0) Try.runUnderlying99 rfl Try.sizeOf34 rfl) ?_
 refine oy rfl rfl (y_load_box 1 Try.isAgg34 rfl rfl rfl) ?_
 refine oy rfl rfl ((y_len 0 rfl Try.runUnderlying34 rfl rfl reads_row).to (v_len (eInt .i64) _)) ?_
 refine oy rfl rfl (y_eql rfl rfl) ?_
 refine ops_nil ?_
 refine goes_code ?_
 refine run_cond (decide ((q_0.l_.length : Int) = 0)) rfl (fun hc1 => ?_) (fun hc1 => ?_)
 ·replace h := cond_t h hc1
  refine run_seq ?_
  refine run_weak [(2, .int .i64 0)] [0, 1] [row q_0_l_v 1 (q_0.l_.map (eInt .i64)), box q_0b [q_0_l_v]] (qv1 rfl) (by decide) rfl ?_
  refine run_region' ?_
  refine oy rfl rfl (y_move rfl) ?_
  refine oy rfl rfl (y_assign rfl) ?_
  refine oy rfl rfl (y_assign rfl) ?_
  refine ops_nil ?_
  refine goes_code ?_
  refine run_ret ?_
  obtain rfl := some_eq h
  refine fin_slots [2, 3] [.int .i64 0, .bool false] [0, 1] [row q_0_l_v 1 (q_0.l_.map (eInt .i64)), box q_0b [q_0_l_v]] Try.results58 rfl (by decide) rfl ?_
  exact ⟨_, rfl, rfl⟩
 ·replace h := cond_f h hc1
  refine run_skip ?_
  refine goes_code ?_
  refine run_seq ?_
  refine run_weak [(0, boxP q_0b 0)] [0, 1] [row q_0_l_v 1 (q_0.l_.map (eInt .i64)), box q_0b [q_0_l_v]] (qv1 rfl) (by decide) rfl ?_
  obtain ⟨x2, hzx2, hlx2, hxx2, h⟩ := idx_some h
  obtain ⟨hb3, h⟩ := need_some h
  refine run_drawany [HA.emp, HA.emp] (by kernel_rfl) ?_
  refine any_y 0 rfl (by kernel_rfl) (by kernel_rfl) (by kernel_rfl) (se (se (sn))) (wn rfl) rfl (y_move rfl) ?_
  refine any_y 1 rfl (by kernel_rfl) (by kernel_rfl) (by kernel_rfl) (se (se (sn))) (wn rfl) rfl (y_move rfl) ?_
  refine any_y 2 rfl (by kernel_rfl) (by kernel_rfl) (by kernel_rfl) (se (se (sn))) (wn rfl) rfl (y_nilBox rfl) ?_
  refine any_y 3 rfl (by kernel_rfl) (by kernel_rfl) (by kernel_rfl) (se (se (sn))) (wn rfl) rfl (y_fieldAddr_box (sz := 0) Try.runUnderlying99 rfl Try.sizeOf34 rfl) ?_
  refine any_y 7 rfl (by kernel_rfl) (by kernel_rfl) (by kernel_rfl) (se (se (sn))) (wn rfl) rfl (y_move rfl) ?_
  refine any_y 8 rfl (by kernel_rfl) (by kernel_rfl) (by kernel_rfl) (se (se (sn))) (wn rfl) rfl (y_nilBox rfl) ?_
  refine any_y 9 rfl (by kernel_rfl) (by kernel_rfl) (by kernel_rfl) (se (se (sn))) (wn rfl) rfl (y_fieldAddr_box (sz := 0) Try.runUnderlying99 rfl Try.sizeOf34 rfl) ?_
  refine any_cut2 #[true, true, true, true, true, true, true, true, true, true, true, true, true, true, true, true] 0 (Unit) (fun σ => [(2, .int .i64 x2)]) (fun σ => [row (subS q_0_l_v 1 ((1 : Int).toNat) (((q_0.l_.length : Int)).toNat)) 1 ((q_0.l_.drop ((1 : Int).toNat)).map (eInt .i64)), box q_0b [(subS q_0_l_v 1 ((1 : Int).toNat) (((q_0.l_.length : Int)).toNat))]]) ?_ (fun hK6 => ?_)
  ·rintro _
   change AnyL _ _ _ _ _ (VF.of [(2, .int .i64 x2)]) [row (subS q_0_l_v 1 ((1 : Int).toNat) (((q_0.l_.length : Int)).toNat)) 1 ((q_0.l_.drop ((1 : Int).toNat)).map (eInt .i64)), box q_0b [(subS q_0_l_v 1 ((1 : Int).toNat) (((q_0.l_.length : Int)).toNat))]] _
   refine any_nil (by kernel_rfl) ?_
   refine goes_code ?_
   refine run_seq ?_
   refine run_region' ?_
   refine oy rfl rfl (y_move rfl) ?_
   refine oy rfl rfl (y_assign rfl) ?_
   refine oy rfl rfl (y_assign rfl) ?_
   refine ops_nil ?_
   refine goes_code ?_
   refine run_ret ?_
   obtain rfl := some_eq h
   refine fin_slots [2, 3] [.int .i64 x2, .bool true] [0, 1] [row (subS q_0_l_v 1 ((1 : Int).toNat) (((q_0.l_.length : Int)).toNat)) 1 ((q_0.l_.drop ((1 : Int).toNat)).map (eInt .i64)), box q_0b [(subS q_0_l_v 1 ((1 : Int).toNat) (((q_0.l_.length : Int)).toNat))]] Try.results58 rfl (by decide) rfl ?_
   exact ⟨_, rfl, rfl⟩
  refine any_cut2 #[true, true, true, true, true, true, true, true, true, true, true, true, true, true, true, false] 1 (Unit) (fun σ => [(2, .int .i64 x2), (22, (subS q_0_l_v 1 ((1 : Int).toNat) (((q_0.l_.length : Int)).toNat))), (24, boxP q_0b 0)]) (fun σ => [row q_0_l_v 1 (q_0.l_.map (eInt .i64)), box q_0b [q_0_l_v]]) ?_ (fun hK7 => ?_)
  ·rintro _
   change AnyL _ _ _ _ _ (VF.of [(2, .int .i64 x2), (22, (subS q_0_l_v 1 ((1 : Int).toNat) (((q_0.l_.length : Int)).toNat))), (24, boxP q_0b 0)]) [row q_0_l_v 1 (q_0.l_.map (eInt .i64)), box q_0b [q_0_l_v]] _
   refine any_all [15] (by kernel_rfl) rfl ?_
   refine anyo_cons ?_ ?_
   ·
    refine anyo_turn (turn_subrow (l := (1 : Int).toNat) (r := ((q_0.l_.length : Int)).toNat) 0 rfl (by omega) (map_toNat_le hb3.2.2)) ?_
    refine anyo_turn (retell 0 (g := row (subS q_0_l_v 1 ((1 : Int).toNat) (((q_0.l_.length : Int)).toNat)) 1 ((q_0.l_.drop ((1 : Int).toNat)).map (eInt .i64))) rfl (congrArg (row _ _) (sub_lo _ _ _))) ?_
    refine anyo_slc 0 rfl reads_row (fun hs8 hs8o => ?_)
    refine any_t rfl (wn rfl) rfl (t_store 1 Try.sizeOf34 rfl rfl rfl (by rw [hs8]; rfl) (by simp [Value.cells, boxP]) (by rw [hs8]; intro u hu; replace hu : u ∈ ([(subS q_0_l_v 1 ((1 : Int).toNat) (((q_0.l_.length : Int)).toNat))] : List Value) := hu; simp only [List.mem_cons, List.not_mem_nil, or_false] at hu; rcases hu with rfl <;> first | rfl | assumption)) ?_
    rintro _ _ ⟨rfl, rfl⟩
    refine ⟨(se (se (sn))), ?_⟩
    refine any_turn (retell 1 (g := box q_0b [(subS q_0_l_v 1 ((1 : Int).toNat) (((q_0.l_.length : Int)).toNat))]) rfl (by rw [hs8]; rfl)) ?_
    exact any_weak2 (hK6 ()) [0, 1] (by kernel_rfl) (qv1 rfl) (by decide) rfl
   exact anyo_nil
  refine any_cut2 #[true, true, true, true, true, true, true, true, true, true, true, false, true, false, false, false] 4 (Unit) (fun σ => [(11, boxP q_0b 0), (2, .int .i64 x2), (21, q_0_l_v)]) (fun σ => [row q_0_l_v 1 (q_0.l_.map (eInt .i64)), box q_0b [q_0_l_v]]) ?_ (fun hK9 => ?_)
  ·rintro _
   change AnyL _ _ _ _ _ (VF.of [(11, boxP q_0b 0), (2, .int .i64 x2), (21, q_0_l_v)]) [row q_0_l_v 1 (q_0.l_.map (eInt .i64)), box q_0b [q_0_l_v]] _
   refine any_all [11] (by kernel_rfl) rfl ?_
   refine anyo_cons ?_ ?_
   ·
    refine any_ty rfl (wn rfl) rfl (y_slice (l := 1) (r := (q_0.l_.length : Int)) 0 Try.runUnderlying34 Try.sizeOf3 rfl rfl reads_row (bi1 (kd := .i64) rfl) (by rw [← List.length_map (f := (eInt .i64))]; exact bi0) hb3.1 hb3.2.1 (map_len_le hb3.2.2)) ⟨(se (se (sn))), ?_⟩
    refine any_y 13 rfl (by kernel_rfl) (by kernel_rfl) (by kernel_rfl) (se (se (sn))) (wn rfl) rfl (y_nilBox rfl) ?_
    refine any_y 14 rfl (by kernel_rfl) (by kernel_rfl) (by kernel_rfl) (se (se (sn))) (wn rfl) rfl (y_fieldAddr_box (sz := 0) Try.runUnderlying99 rfl Try.sizeOf34 rfl) ?_
    exact any_weak2 (hK7 ()) [0, 1] (by kernel_rfl) (qv3 rfl rfl rfl) (by decide) rfl
   exact anyo_nil
  refine any_cut2 #[true, true, true, true, true, true, true, true, true, true, false, false, true, false, false, false] 5 (Unit) (fun σ => [(11, boxP q_0b 0), (20, boxP q_0b 0), (2, .int .i64 x2)]) (fun σ => [row q_0_l_v 1 (q_0.l_.map (eInt .i64)), box q_0b [q_0_l_v]]) ?_ (fun hK10 => ?_)
  ·rintro _
   change AnyL _ _ _ _ _ (VF.of [(11, boxP q_0b 0), (20, boxP q_0b 0), (2, .int .i64 x2)]) [row q_0_l_v 1 (q_0.l_.map (eInt .i64)), box q_0b [q_0_l_v]] _
   refine any_all [10] (by kernel_rfl) rfl ?_
   refine anyo_cons ?_ ?_
   ·
    refine any_ty rfl (wn rfl) rfl (y_load_box 1 Try.isAgg34 rfl rfl rfl) ⟨(se (se (sn))), ?_⟩
    exact any_weak2 (hK9 ()) [0, 1] (by kernel_rfl) (qv3 rfl rfl rfl) (by decide) rfl
   exact anyo_nil
  refine any_cut2 #[true, true, true, true, true, true, false, true, true, true, true, true, false, false, false, false] 5 (Unit) (fun σ => [(11, boxP q_0b 0), (16, elemP q_0_l_v ((0 : Int).toNat * 1)), (22, (subS q_0_l_v 1 ((1 : Int).toNat) (((q_0.l_.length : Int)).toNat)))]) (fun σ => [row q_0_l_v 1 (q_0.l_.map (eInt .i64)), box q_0b [q_0_l_v]]) ?_ (fun hK11 => ?_)
  ·rintro _
   change AnyL _ _ _ _ _ (VF.of [(11, boxP q_0b 0), (16, elemP q_0_l_v ((0 : Int).toNat * 1)), (22, (subS q_0_l_v 1 ((1 : Int).toNat) (((q_0.l_.length : Int)).toNat)))]) [row q_0_l_v 1 (q_0.l_.map (eInt .i64)), box q_0b [q_0_l_v]] _
   refine any_all [6] (by kernel_rfl) rfl ?_
   refine anyo_cons ?_ ?_
   ·
    refine any_ty rfl (wn rfl) rfl (y_load_elem (i := (0 : Int).toNat) 0 Try.isAgg3 rfl rfl reads_row (map_get hxx2)) ⟨(se (se (sn))), ?_⟩
    refine any_y 12 rfl (by kernel_rfl) (by kernel_rfl) (by kernel_rfl) (se (se (sn))) (wn rfl) rfl (y_assign rfl) ?_
    refine any_y 13 rfl (by kernel_rfl) (by kernel_rfl) (by kernel_rfl) (se (se (sn))) (wn rfl) rfl (y_nilBox rfl) ?_
    refine any_y 14 rfl (by kernel_rfl) (by kernel_rfl) (by kernel_rfl) (se (se (sn))) (wn rfl) rfl (y_fieldAddr_box (sz := 0) Try.runUnderlying99 rfl Try.sizeOf34 rfl) ?_
    exact any_weak2 (hK7 ()) [0, 1] (by kernel_rfl) (qv3 rfl rfl rfl) (by decide) rfl
   exact anyo_nil
  refine any_cut2 #[true, true, true, true, true, true, false, true, true, true, true, false, false, false, false, false] 6 (Unit) (fun σ => [(11, boxP q_0b 0), (16, elemP q_0_l_v ((0 : Int).toNat * 1)), (21, q_0_l_v)]) (fun σ => [row q_0_l_v 1 (q_0.l_.map (eInt .i64)), box q_0b [q_0_l_v]]) ?_ (fun hK12 => ?_)
  ·rintro _
   change AnyL _ _ _ _ _ (VF.of [(11, boxP q_0b 0), (16, elemP q_0_l_v ((0 : Int).toNat * 1)), (21, q_0_l_v)]) [row q_0_l_v 1 (q_0.l_.map (eInt .i64)), box q_0b [q_0_l_v]] _
   refine any_all [6, 11] (by kernel_rfl) rfl ?_
   refine anyo_cons ?_ ?_
   ·
    refine any_ty rfl (wn rfl) rfl (y_load_elem (i := (0 : Int).toNat) 0 Try.isAgg3 rfl rfl reads_row (map_get hxx2)) ⟨(se (se (sn))), ?_⟩
    refine any_y 12 rfl (by kernel_rfl) (by kernel_rfl) (by kernel_rfl) (se (se (sn))) (wn rfl) rfl (y_assign rfl) ?_
    exact any_weak2 (hK9 ()) [0, 1] (by kernel_rfl) (qv3 rfl rfl rfl) (by decide) rfl
   refine anyo_cons ?_ ?_
   ·
    refine any_ty rfl (wn rfl) rfl (y_slice (l := 1) (r := (q_0.l_.length : Int)) 0 Try.runUnderlying34 Try.sizeOf3 rfl rfl reads_row (bi1 (kd := .i64) rfl) (by rw [← List.length_map (f := (eInt .i64))]; exact bi0) hb3.1 hb3.2.1 (map_len_le hb3.2.2)) ⟨(se (se (sn))), ?_⟩
    exact any_weak2 (hK11 ()) [0, 1] (by kernel_rfl) (qv3 rfl rfl rfl) (by decide) rfl
   exact anyo_nil
  refine any_cut2 #[true, true, true, true, true, false, false, true, true, true, true, true, false, false, false, false] 6 (Unit) (fun σ => [(11, boxP q_0b 0), (15, q_0_l_v), (22, (subS q_0_l_v 1 ((1 : Int).toNat) (((q_0.l_.length : Int)).toNat)))]) (fun σ => [row q_0_l_v 1 (q_0.l_.map (eInt .i64)), box q_0b [q_0_l_v]]) ?_ (fun hK13 => ?_)
  ·rintro _
   change AnyL _ _ _ _ _ (VF.of [(11, boxP q_0b 0), (15, q_0_l_v), (22, (subS q_0_l_v 1 ((1 : Int).toNat) (((q_0.l_.length : Int)).toNat)))]) [row q_0_l_v 1 (q_0.l_.map (eInt .i64)), box q_0b [q_0_l_v]] _
   refine any_all [5] (by kernel_rfl) rfl ?_
   refine anyo_cons ?_ ?_
   ·
    refine any_ty rfl (wn rfl) rfl (y_indexAddrI (kd := .i64) (i := 0) 0 Try.runUnderlying34 Try.sizeOf3 rfl rfl rfl reads_row hzx2 (map_lt hlx2)) ⟨(se (se (sn))), ?_⟩
    exact any_weak2 (hK11 ()) [0, 1] (by kernel_rfl) (qv3 rfl rfl rfl) (by decide) rfl
   exact anyo_nil
  refine any_cut2 #[true, true, true, true, true, true, false, true, true, true, false, false, false, false, false, false] 7 (Unit) (fun σ => [(11, boxP q_0b 0), (20, boxP q_0b 0), (16, elemP q_0_l_v ((0 : Int).toNat * 1))]) (fun σ => [row q_0_l_v 1 (q_0.l_.map (eInt .i64)), box q_0b [q_0_l_v]]) ?_ (fun hK14 => ?_)
  ·rintro _
   change AnyL _ _ _ _ _ (VF.of [(11, boxP q_0b 0), (20, boxP q_0b 0), (16, elemP q_0_l_v ((0 : Int).toNat * 1))]) [row q_0_l_v 1 (q_0.l_.map (eInt .i64)), box q_0b [q_0_l_v]] _
   refine any_all [6, 10] (by kernel_rfl) rfl ?_
   refine anyo_cons ?_ ?_
   ·
    refine any_ty rfl (wn rfl) rfl (y_load_elem (i := (0 : Int).toNat) 0 Try.isAgg3 rfl rfl reads_row (map_get hxx2)) ⟨(se (se (sn))), ?_⟩
    refine any_y 12 rfl (by kernel_rfl) (by kernel_rfl) (by kernel_rfl) (se (se (sn))) (wn rfl) rfl (y_assign rfl) ?_
    exact any_weak2 (hK10 ()) [0, 1] (by kernel_rfl) (qv3 rfl rfl rfl) (by decide) rfl
   refine anyo_cons ?_ ?_
   ·
    refine any_ty rfl (wn rfl) rfl (y_load_box 1 Try.isAgg34 rfl rfl rfl) ⟨(se (se (sn))), ?_⟩
    exact any_weak2 (hK12 ()) [0, 1] (by kernel_rfl) (qv3 rfl rfl rfl) (by decide) rfl
   exact anyo_nil
  refine any_cut2 #[true, true, true, true, true, false, false, true, true, true, true, false, false, false, false, false] 7 (Unit) (fun σ => [(11, boxP q_0b 0), (15, q_0_l_v), (21, q_0_l_v)]) (fun σ => [row q_0_l_v 1 (q_0.l_.map (eInt .i64)), box q_0b [q_0_l_v]]) ?_ (fun hK15 => ?_)
  ·rintro _
   change AnyL _ _ _ _ _ (VF.of [(11, boxP q_0b 0), (15, q_0_l_v), (21, q_0_l_v)]) [row q_0_l_v 1 (q_0.l_.map (eInt .i64)), box q_0b [q_0_l_v]] _
   refine any_all [5, 11] (by kernel_rfl) rfl ?_
   refine anyo_cons ?_ ?_
   ·
    refine any_ty rfl (wn rfl) rfl (y_indexAddrI (kd := .i64) (i := 0) 0 Try.runUnderlying34 Try.sizeOf3 rfl rfl rfl reads_row hzx2 (map_lt hlx2)) ⟨(se (se (sn))), ?_⟩
    exact any_weak2 (hK12 ()) [0, 1] (by kernel_rfl) (qv3 rfl rfl rfl) (by decide) rfl
   refine anyo_cons ?_ ?_
   ·
    refine any_ty rfl (wn rfl) rfl (y_slice (l := 1) (r := (q_0.l_.length : Int)) 0 Try.runUnderlying34 Try.sizeOf3 rfl rfl reads_row (bi1 (kd := .i64) rfl) (by rw [← List.length_map (f := (eInt .i64))]; exact bi0) hb3.1 hb3.2.1 (map_len_le hb3.2.2)) ⟨(se (se (sn))), ?_⟩
    exact any_weak2 (hK13 ()) [0, 1] (by kernel_rfl) (qv3 rfl rfl rfl) (by decide) rfl
   exact anyo_nil
  refine any_cut2 #[true, true, true, true, false, false, false, true, true, true, true, true, false, false, false, false] 7 (Unit) (fun σ => [(11, boxP q_0b 0), (14, boxP q_0b 0), (22, (subS q_0_l_v 1 ((1 : Int).toNat) (((q_0.l_.length : Int)).toNat)))]) (fun σ => [row q_0_l_v 1 (q_0.l_.map (eInt .i64)), box q_0b [q_0_l_v]]) ?_ (fun hK16 => ?_)
  ·rintro _
   change AnyL _ _ _ _ _ (VF.of [(11, boxP q_0b 0), (14, boxP q_0b 0), (22, (subS q_0_l_v 1 ((1 : Int).toNat) (((q_0.l_.length : Int)).toNat)))]) [row q_0_l_v 1 (q_0.l_.map (eInt .i64)), box q_0b [q_0_l_v]] _
   refine any_all [4] (by kernel_rfl) rfl ?_
   refine anyo_cons ?_ ?_
   ·
    refine any_ty rfl (wn rfl) rfl (y_load_box 1 Try.isAgg34 rfl rfl rfl) ⟨(se (se (sn))), ?_⟩
    exact any_weak2 (hK13 ()) [0, 1] (by kernel_rfl) (qv3 rfl rfl rfl) (by decide) rfl
   exact anyo_nil
  refine any_cut2 #[true, true, true, true, true, false, false, true, true, true, false, false, false, false, false, false] 8 (Unit) (fun σ => [(11, boxP q_0b 0), (20, boxP q_0b 0), (15, q_0_l_v)]) (fun σ => [row q_0_l_v 1 (q_0.l_.map (eInt .i64)), box q_0b [q_0_l_v]]) ?_ (fun hK17 => ?_)
  ·rintro _
   change AnyL _ _ _ _ _ (VF.of [(11, boxP q_0b 0), (20, boxP q_0b 0), (15, q_0_l_v)]) [row q_0_l_v 1 (q_0.l_.map (eInt .i64)), box q_0b [q_0_l_v]] _
   refine any_all [5, 10] (by kernel_rfl) rfl ?_
   refine anyo_cons ?_ ?_
   ·
    refine any_ty rfl (wn rfl) rfl (y_indexAddrI (kd := .i64) (i := 0) 0 Try.runUnderlying34 Try.sizeOf3 rfl rfl rfl reads_row hzx2 (map_lt hlx2)) ⟨(se (se (sn))), ?_⟩
    exact any_weak2 (hK14 ()) [0, 1] (by kernel_rfl) (qv3 rfl rfl rfl) (by decide) rfl
   refine anyo_cons ?_ ?_
   ·
    refine any_ty rfl (wn rfl) rfl (y_load_box 1 Try.isAgg34 rfl rfl rfl) ⟨(se (se (sn))), ?_⟩
    exact any_weak2 (hK15 ()) [0, 1] (by kernel_rfl) (qv3 rfl rfl rfl) (by decide) rfl
   exact anyo_nil
  refine any_cut2 #[true, true, true, true, false, false, false, true, true, true, true, false, false, false, false, false] 8 (Unit) (fun σ => [(11, boxP q_0b 0), (14, boxP q_0b 0), (21, q_0_l_v)]) (fun σ => [row q_0_l_v 1 (q_0.l_.map (eInt .i64)), box q_0b [q_0_l_v]]) ?_ (fun hK18 => ?_)
  ·rintro _
   change AnyL _ _ _ _ _ (VF.of [(11, boxP q_0b 0), (14, boxP q_0b 0), (21, q_0_l_v)]) [row q_0_l_v 1 (q_0.l_.map (eInt .i64)), box q_0b [q_0_l_v]] _
   refine any_all [4, 11] (by kernel_rfl) rfl ?_
   refine anyo_cons ?_ ?_
   ·
    refine any_ty rfl (wn rfl) rfl (y_load_box 1 Try.isAgg34 rfl rfl rfl) ⟨(se (se (sn))), ?_⟩
    exact any_weak2 (hK15 ()) [0, 1] (by kernel_rfl) (qv3 rfl rfl rfl) (by decide) rfl
   refine anyo_cons ?_ ?_
   ·
    refine any_ty rfl (wn rfl) rfl (y_slice (l := 1) (r := (q_0.l_.length : Int)) 0 Try.runUnderlying34 Try.sizeOf3 rfl rfl reads_row (bi1 (kd := .i64) rfl) (by rw [← List.length_map (f := (eInt .i64))]; exact bi0) hb3.1 hb3.2.1 (map_len_le hb3.2.2)) ⟨(se (se (sn))), ?_⟩
    exact any_weak2 (hK16 ()) [0, 1] (by kernel_rfl) (qv3 rfl rfl rfl) (by decide) rfl
   exact anyo_nil
  refine any_all [4, 10] (by kernel_rfl) rfl ?_
  refine anyo_cons ?_ ?_
  ·
   refine any_ty rfl (wn rfl) rfl (y_load_box 1 Try.isAgg34 rfl rfl rfl) ⟨(se (se (sn))), ?_⟩
   exact any_weak2 (hK17 ()) [0, 1] (by kernel_rfl) (qv3 rfl rfl rfl) (by decide) rfl
  refine anyo_cons ?_ ?_
  ·
   refine any_ty rfl (wn rfl) rfl (y_load_box 1 Try.isAgg34 rfl rfl rfl) ⟨(se (se (sn))), ?_⟩
   exact any_weak2 (hK18 ()) [0, 1] (by kernel_rfl) (qv3 rfl rfl rfl) (by decide) rfl
  exact anyo_nil

def graph_arcs (n_0 : S_api_Net) (v_1 : Int) (back_2 : Bool) : Option (Unit) :=
 some ()
theorem graph_arcs_ok (n_0 : S_api_Net) (v_1 : Int) (back_2 : Bool) (n_0_Arcsv : Value) {r : Unit} (h : graph_arcs n_0 v_1 back_2 = some r) :
  Meets Try.prog 39 [.agg #[.int .i64 n_0.Nodes, n_0_Arcsv], .int .i64 v_1, .bool back_2] [ro n_0_Arcsv 4 (n_0.Arcs.map S_api_Arc.enc)] (fun v G => ∃ v0 v1 v2, v = .func (.func 61) #[] #[boxP v0 0, boxP v1 0, boxP v2 0] ∧ G = [box v0 [.int .i64 n_0.Nodes, n_0_Arcsv], box v1 [.bool back_2], box v2 [.int .i64 v_1]]) := by
 refine fn_of_run Try.func39 rfl Try.ntmps39 rfl (fun w0 o0 => ?_)
 refine run_seq ?_
 refine run_region' ?_
 refine ot rfl rfl (t_box rfl) ?_
 rintro _ _ ⟨b1, rfl, rfl⟩
 refine ot rfl rfl (t_box rfl) ?_
 rintro _ _ ⟨b2, rfl, rfl⟩
 refine ot rfl rfl (t_box rfl) ?_
 rintro _ _ ⟨b3, rfl, rfl⟩
 refine oy rfl rfl (y_assign rfl) ?_
 refine ops_nil ?_
 refine goes_code ?_
 refine run_seq ?_
 refine run_region' ?_
 refine oy rfl rfl (y_makeFunc (vs := [boxP b1 0, boxP b3 0, boxP b2 0]) rfl) ?_
 refine oy rfl rfl (y_assign rfl) ?_
 refine ops_nil ?_
 refine goes_code ?_
 refine run_ret ?_
 obtain rfl := some_eq h
 refine fin_slots [6] [.func (.func 61) #[] #[boxP b1 0, boxP b3 0, boxP b2 0]] [1, 3, 2] [box b1 [.int .i64 n_0.Nodes, n_0_Arcsv], box b3 [.bool back_2], box b2 [.int .i64 v_1]] Try.results39 rfl (by decide) rfl ?_
 exact ⟨_, _, _, rfl, rfl⟩

def graph_arcs_1_61_L1 {St : Type} (yield_ : St → Int × Int → Option (St × Bool)) (a_1 : S_api_Net) (a_2 : Bool) (a_3 : Int) : (Int × St) → Option (Lp (Int × St) St) :=
 fun (s_1, x_2) =>
  cond (decide (s_1 < (a_1.Arcs.length : Int)))
   (idx a_1.Arcs s_1 fun x8 =>
   bindJ (S := Int × Int)
    (cond a_2
     (some (.go (x8.To, x8.From)))
     (some (.go (x8.From, x8.To))))
   (fun (from_10, to_11) =>
    bindJ (S := Bool × St)
     (cond (decide (from_10 = a_3))
      (obind (yield_ x_2 (s_1, to_11)) fun r24 =>
      some (.go ((!r24.2), r24.1)))
      (some (.go (false, x_2))))
    (fun (b17, y20) =>
     cond b17
      (some (.stop y20))
      (some (.go ((IntKind.i64.wrap (s_1 + 1)), y20))))))
   (some (.stop x_2))
def graph_arcs_1_61 {St : Type} (n : Nat) (yield_ : St → Int × Int → Option (St × Bool)) (s_ : St) (a_1 : S_api_Net) (a_2 : Bool) (a_3 : Int) : Option (St) :=
 iter (graph_arcs_1_61_L1 yield_ a_1 a_2 a_3) n (0, s_)
theorem graph_arcs_1_61_ok {St : Type} (n : Nat) (yield_ : St → Int × Int → Option (St × Bool)) (s_ : St) (a_1 : S_api_Net) (a_2 : Bool) (a_3 : Int) (l : Nat) (A : St → HA) (hy : ∀ s x r, yield_ s x = some r → YMeets Try.prog l ((fun x => [.int .i64 x.1, .int .i64 x.2]) x) (A s) r.2 (A r.1)) (a_1b : Nat) (a_1_Arcsv : Value) (a_2b : Nat) (a_3b : Nat) {r : St} (h : graph_arcs_1_61 n yield_ s_ a_1 a_2 a_3 = some r) :
  Meets Try.prog 61 [.func (.yield l) #[] #[], boxP a_1b 0, boxP a_2b 0, boxP a_3b 0] [A s_, ro a_1_Arcsv 4 (a_1.Arcs.map S_api_Arc.enc), box a_1b [.int .i64 a_1.Nodes, a_1_Arcsv], box a_2b [.bool a_2], box a_3b [.int .i64 a_3]] (fun v G => v = .tuple #[] ∧ G = [A r, box a_1b [.int .i64 a_1.Nodes, a_1_Arcsv], box a_2b [.bool a_2], box a_3b [.int .i64 a_3]]) := by
 refine fn_of_run Try.func61 rfl Try.ntmps61 rfl (fun w0 o0 => ?_)
 refine run_seq ?_
 refine run_region' ?_
 refine oy rfl rfl (y_fieldAddr_box (sz := 0) Try.runUnderlying24 rfl Try.sizeOf22 rfl) ?_
 refine oy rfl rfl (y_load_box 2 Try.isAgg22 rfl rfl rfl) ?_
 refine oy rfl rfl ((y_len 1 rfl Try.runUnderlying22 rfl rfl reads_ro).to (v_len S_api_Arc.enc _)) ?_
 refine oy rfl rfl (y_move rfl) ?_
 refine ops_nil ?_
 refine goes_code ?_
 refine run_block ?_
 refine run_iter (step := graph_arcs_1_61_L1 yield_ a_1 a_2 a_3) (n := n) (s0 := (0, s_)) h (G := Unit) () (fun σ γ => [(0, .func (.yield l) #[] #[]), (2, boxP a_2b 0), (3, boxP a_3b 0), (10, a_1_Arcsv), (11, .int .i64 (a_1.Arcs.length : Int)), (12, .int .i64 σ.1)]) (fun σ γ => [A σ.2, box a_2b [.bool a_2], box a_3b [.int .i64 a_3], ro a_1_Arcsv 4 (a_1.Arcs.map S_api_Arc.enc), box a_1b [.int .i64 a_1.Nodes, a_1_Arcsv]]) [0, 3, 4, 1, 2] (qv6 rfl rfl rfl rfl rfl rfl) (by decide) rfl ?_
 rintro ⟨s_1, x_2⟩ _ o3 h L6 hgo4 hstop5
 change Run _ _ _ (VF.of [(0, .func (.yield l) #[] #[]), (2, boxP a_2b 0), (3, boxP a_3b 0), (10, a_1_Arcsv), (11, .int .i64 (a_1.Arcs.length : Int)), (12, .int .i64 s_1)]) [A x_2, box a_2b [.bool a_2], box a_3b [.int .i64 a_3], ro a_1_Arcsv 4 (a_1.Arcs.map S_api_Arc.enc), box a_1b [.int .i64 a_1.Nodes, a_1_Arcsv]]
 refine run_seq ?_
 refine run_region' ?_
 refine oy rfl rfl (y_lss rfl rfl) ?_
 refine ops_nil ?_
 refine goes_code ?_
 refine run_seq ?_
 refine run_cond (decide (s_1 < (a_1.Arcs.length : Int))) rfl (fun hc7 => ?_) (fun hc7 => ?_)
 ·replace h := cond_t h hc7
  refine run_skip ?_
  refine goes_code ?_
  refine run_seq ?_
  refine run_block ?_
  refine run_seq ?_
  refine run_region' ?_
  refine oy rfl rfl (y_move rfl) ?_
  obtain ⟨x8, hzx8, hlx8, hxx8, h⟩ := idx_some h
  refine oy rfl rfl (y_indexAddrI (kd := .i64) (i := s_1) 3 Try.runUnderlying22 Try.sizeOf67 rfl rfl rfl reads_ro hzx8 (map_lt hlx8)) ?_
  refine oy rfl rfl (y_load_agg (i := s_1.toNat) (c := [.int .i64 x8.From, .int .i64 x8.To, .int .i64 x8.Cap, .int .i64 x8.Cost]) 3 Try.isAgg67 Try.sizeOf67 rfl rfl reads_ro (map_get hxx8)) ?_
  refine ot rfl rfl (t_alloc Try.zeroValue67) ?_
  rintro _ _ ⟨b9, rfl, rfl⟩
  refine oy rfl rfl (y_assign rfl) ?_
  refine ot rfl rfl (t_store 5 Try.sizeOf67 rfl rfl rfl rfl (by simp [Value.cells, boxP]) (by simp [Value.cells, Value.oneCell', boxP])) ?_
  rintro _ _ ⟨rfl, rfl⟩
  refine ops_turn (retell 5 (g := box b9 [.int .i64 x8.From, .int .i64 x8.To, .int .i64 x8.Cap, .int .i64 x8.Cost]) rfl rfl) ?_
  refine ops_nil ?_
  refine goes_code ?_
  refine run_seq ?_
  refine run_draw (by kernel_rfl) (by kernel_rfl) ?_
  refine sy rfl rfl (y_fieldAddr_box (sz := 0) Try.runUnderlying67 rfl Try.sizeOf3 rfl) ?_
  refine sy rfl rfl (y_load_box 5 Try.isAgg3 rfl rfl rfl) ?_
  refine sy rfl rfl (y_fieldAddr_box (sz := 0) Try.runUnderlying67 rfl Try.sizeOf3 rfl) ?_
  refine sy rfl rfl (y_load_box 5 Try.isAgg3 rfl rfl rfl) ?_
  refine sy rfl rfl (y_assign rfl) ?_
  refine sy rfl rfl (y_assign rfl) ?_
  refine still_nil ?_
  refine goes_code ?_
  obtain ⟨o12, h, ho13⟩ := bindJ_some h
  refine run_cut ((Int × Int) × (Unit)) (fun σ => [(0, .func (.yield l) #[] #[]), (2, boxP a_2b 0), (3, boxP a_3b 0), (5, .int .i64 s_1), (7, .int .i64 σ.1.1), (8, .int .i64 σ.1.2), (10, a_1_Arcsv), (11, .int .i64 (a_1.Arcs.length : Int)), (12, .int .i64 s_1)]) (fun σ => [A x_2, box a_2b [.bool a_2], box a_3b [.int .i64 a_3], ro a_1_Arcsv 4 (a_1.Arcs.map S_api_Arc.enc), box a_1b [.int .i64 a_1.Nodes, a_1_Arcsv]]) (fun σ => o12 = .go σ.1) (fun L15 hL14 => ?_) ?_
  ·
   refine run_seq ?_
   refine run_weak [(0, .func (.yield l) #[] #[]), (2, boxP a_2b 0), (3, boxP a_3b 0), (10, a_1_Arcsv), (11, .int .i64 (a_1.Arcs.length : Int)), (12, .int .i64 s_1), (5, .int .i64 s_1), (7, .int .i64 x8.From), (8, .int .i64 x8.To)] [0, 1, 2, 3, 4] [A x_2, box a_2b [.bool a_2], box a_3b [.int .i64 a_3], ro a_1_Arcsv 4 (a_1.Arcs.map S_api_Arc.enc), box a_1b [.int .i64 a_1.Nodes, a_1_Arcsv]] (qv9 rfl rfl rfl rfl rfl rfl rfl rfl rfl) (by decide) rfl ?_
   refine run_region' ?_
   refine oy rfl rfl (y_load_box 1 Try.isAgg4 rfl rfl rfl) ?_
   refine ops_nil ?_
   refine goes_code ?_
   refine run_cond a_2 rfl (fun hc16 => ?_) (fun hc16 => ?_)
   ·replace h := cond_t h hc16
    refine run_region' ?_
    refine oy rfl rfl (y_move rfl) ?_
    refine oy rfl rfl (y_move rfl) ?_
    refine oy rfl rfl (y_assign rfl) ?_
    refine oy rfl rfl (y_assign rfl) ?_
    refine ops_nil ?_
    obtain rfl := some_eq h
    exact goes_cut hL14 ((x8.To, x8.From), ()) [0, 1, 2, 3, 4] (qv9 rfl rfl rfl rfl rfl rfl rfl rfl rfl) (by decide) rfl rfl
   ·replace h := cond_f h hc16
    refine run_skip ?_
    obtain rfl := some_eq h
    exact goes_cut hL14 ((x8.From, x8.To), ()) [0, 1, 2, 3, 4] (qv9 rfl rfl rfl rfl rfl rfl rfl rfl rfl) (by decide) rfl rfl
  rintro ⟨⟨from_10, to_11⟩, _⟩ hj
  obtain rfl : o12 = _ := hj
  replace h := after_go ho13
  clear ho13
  change Run _ _ _ (VF.of [(0, .func (.yield l) #[] #[]), (2, boxP a_2b 0), (3, boxP a_3b 0), (5, .int .i64 s_1), (7, .int .i64 from_10), (8, .int .i64 to_11), (10, a_1_Arcsv), (11, .int .i64 (a_1.Arcs.length : Int)), (12, .int .i64 s_1)]) [A x_2, box a_2b [.bool a_2], box a_3b [.int .i64 a_3], ro a_1_Arcsv 4 (a_1.Arcs.map S_api_Arc.enc), box a_1b [.int .i64 a_1.Nodes, a_1_Arcsv]]
  refine run_seq ?_
  refine run_region' ?_
  refine oy rfl rfl (y_move rfl) ?_
  refine oy rfl rfl (y_load_box 2 Try.isAgg3 rfl rfl rfl) ?_
  refine oy rfl rfl (y_eql rfl rfl) ?_
  refine oy rfl rfl (y_move rfl) ?_
  obtain ⟨o18, h, ho19⟩ := bindJ_some h
  refine ops_cut 6 (Bool × St) (fun σ => [(0, .func (.yield l) #[] #[]), (2, boxP a_2b 0), (3, boxP a_3b 0), (10, a_1_Arcsv), (11, .int .i64 (a_1.Arcs.length : Int)), (12, .int .i64 s_1), (33, .bool σ.1)]) (fun σ => [A σ.2, box a_2b [.bool a_2], box a_3b [.int .i64 a_3], ro a_1_Arcsv 4 (a_1.Arcs.map S_api_Arc.enc), box a_1b [.int .i64 a_1.Nodes, a_1_Arcsv]]) (fun σ => o18 = .go σ) (fun L21 hL22 => ?_) ?_
  ·refine ops_split 27 (decide (from_10 = a_3)) rfl (fun hg23 => ?_) (fun hg23 => ?_)
   ·replace h := cond_t h hg23
    refine ops_y (wg 3 true 27 rfl rfl rfl rfl) rfl (y_move rfl) ?_
    refine ops_y (wg 3 true 27 rfl rfl rfl rfl) rfl (y_move rfl) ?_
    refine ops_y (wg 3 true 27 rfl rfl rfl rfl) rfl (y_move rfl) ?_
    obtain ⟨r24, hr25, h⟩ := obind_some h
    refine ops_r (wg 3 true 27 rfl rfl rfl rfl) rfl (t_yield (vs := [.int .i64 s_1, .int .i64 to_11]) 0 rfl rfl rfl (hy _ _ _ hr25)) ?_
    rintro _ _ ⟨rfl, rfl⟩
    refine ops_y (wg 3 true 27 rfl rfl rfl rfl) rfl (y_not rfl) ?_
    refine oy rfl rfl (y_pick (b := true) rfl rfl) ?_
    refine ops_nil ?_
    obtain rfl := some_eq h
    exact goes_cut hL22 ((!r24.2), r24.1) [0, 1, 2, 3, 4] (qv7 rfl rfl rfl rfl rfl rfl rfl) (by decide) rfl rfl
   ·replace h := cond_f h hg23
    refine ops_no 3 true 27 rfl rfl rfl rfl rfl ?_
    refine ops_no 3 true 27 rfl rfl rfl rfl rfl ?_
    refine ops_no 3 true 27 rfl rfl rfl rfl rfl ?_
    refine ops_no 3 true 27 rfl rfl rfl rfl rfl ?_
    refine ops_no 3 true 27 rfl rfl rfl rfl rfl ?_
    refine oy rfl rfl (y_pick (b := false) rfl rfl) ?_
    refine ops_nil ?_
    obtain rfl := some_eq h
    exact goes_cut hL22 (false, x_2) [0, 1, 2, 3, 4] (qv7 rfl rfl rfl rfl rfl rfl rfl) (by decide) rfl rfl
  rintro ⟨b17, y20⟩ hj
  obtain rfl : o18 = _ := hj
  replace h := after_go ho19
  clear ho19
  refine ops_nil ?_
  refine goes_code ?_
  refine run_cond b17 rfl (fun hc26 => ?_) (fun hc26 => ?_)
  ·replace h := cond_t h hc26
   refine run_ret ?_
   obtain rfl := some_eq h
   obtain rfl := hstop5 _ rfl
   refine fin_slots [] [] [0, 4, 1, 2] [A y20, box a_1b [.int .i64 a_1.Nodes, a_1_Arcsv], box a_2b [.bool a_2], box a_3b [.int .i64 a_3]] Try.results61 rfl (by decide) rfl ?_
   exact ⟨rfl, rfl⟩
  ·replace h := cond_f h hc26
   refine run_skip ?_
   refine goes_blk ?_
   refine goes_code ?_
   refine run_region' ?_
   refine oy rfl rfl (y_add rfl rfl) ?_
   refine oy rfl rfl (y_move rfl) ?_
   refine ops_nil ?_
   obtain rfl := some_eq h
   exact goes_iter hgo4 ((IntKind.i64.wrap (s_1 + 1)), y20) () [0, 1, 2, 3, 4] rfl (qv6 rfl rfl rfl rfl rfl rfl) (by decide) rfl
 ·replace h := cond_f h hc7
  refine run_exit _ rfl ?_
  refine goes_nil ?_
  obtain rfl := some_eq h
  obtain rfl := hstop5 _ rfl
  refine fin_slots [] [] [0, 4, 1, 2] [A x_2, box a_1b [.int .i64 a_1.Nodes, a_1_Arcsv], box a_2b [.bool a_2], box a_3b [.int .i64 a_3]] Try.results61 rfl (by decide) rfl ?_
  exact ⟨rfl, rfl⟩

def graph_search_R2 : ((List Bool) × (List Int)) → (Int × Int) → Option (((List Bool) × (List Int)) × Option Nat) :=
 fun (x_36, x_37) (x34, x35) =>
  idx x_36 x35 fun x41 =>
  cond (!x41)
   (obind (weirgate_graph_queue_int_put_57 (S_graph_queue_int.mk x_37) x35) fun r43 =>
   some (((x_36.set x35.toNat true), r43.l_), none))
   (some ((x_36, x_37), none))
def graph_search_L1 (n : Nat) (n_0 : S_api_Net) (back_2 : Bool) : (Int × Bool × (List Bool) × (List Int)) → Option (Lp (Int × Bool × (List Bool) × (List Int)) (Lp ((List Bool)) ((List Bool)))) :=
 fun (v_19, ok_20, x_21, x_22) =>
  cond ok_20
   (obind (graph_arcs n_0 v_19 back_2) fun r29 =>
   obind (graph_arcs_1_61 n (yieldOf (graph_search_R2)) ((x_21, x_22), none) n_0 back_2 v_19) fun r39 =>
   onJump r39.2 (
    obind (weirgate_graph_queue_int_get_58 (S_graph_queue_int.mk r39.1.2)) fun r46 =>
    some (.go (r46.1, r46.2.1, r39.1.1, r46.2.2.l_))) [])
   (some (.stop (.go x_21)))
def graph_search (n : Nat) (n_0 : S_api_Net) (from_1 : Int) (back_2 : Bool) : Option ((List Bool)) :=
 need (0 ≤ n_0.Nodes ∧ n_0.Nodes ≤ 4294967296) (
 idx (List.replicate (n_0.Nodes).toNat (false : Bool)) from_1 fun x7 =>
 obind (weirgate_graph_queue_int_put_57 (S_graph_queue_int.mk ([] : List Int)) from_1) fun r8 =>
 bindJ (S := (List Bool))
  (obind (weirgate_graph_queue_int_get_58 r8) fun r16 =>
  iter (graph_search_L1 n n_0 back_2) n (r16.1, r16.2.1, ((List.replicate (n_0.Nodes).toNat (false : Bool)).set from_1.toNat true), r16.2.2.l_))
 (fun x_11 =>
  some x_11))
theorem graph_search_ok (n : Nat) (n_0 : S_api_Net) (from_1 : Int) (back_2 : Bool) (n_0_Arcsv : Value) {r : (List Bool)} (h : graph_search n n_0 from_1 back_2 = some r) :
  Meets Try.prog 35 [.agg #[.int .i64 n_0.Nodes, n_0_Arcsv], .int .i64 from_1, .bool back_2] [ro n_0_Arcsv 4 (n_0.Arcs.map S_api_Arc.enc)] (fun v G => ∃ v0, v = v0 ∧ G = [row v0 1 (r.map eBool)]) := by
 refine fn_of_run Try.func35 rfl Try.ntmps35 rfl (fun w0 o0 => ?_)
 refine run_seq ?_
 refine run_region' ?_
 refine ot rfl rfl (t_box rfl) ?_
 rintro _ _ ⟨b1, rfl, rfl⟩
 refine oy rfl rfl (y_assign rfl) ?_
 refine ops_nil ?_
 refine goes_code ?_
 refine run_seq ?_
 refine run_region' ?_
 refine oy rfl rfl (y_fieldAddr_box (sz := 0) Try.runUnderlying24 rfl Try.sizeOf3 rfl) ?_
 refine oy rfl rfl (y_load_box 1 Try.isAgg3 rfl rfl rfl) ?_
 obtain ⟨hm3, h⟩ := need_some h
 refine ot rfl rfl (t_makeSlice (es := 1) Try.runUnderlying27 Try.typeInfo4 rfl Try.zeroValue4 rfl (by decide) rfl rfl hm3.1 hm3.2 (by decide)) ?_
 rintro v2 _ rfl
 refine ops_turn (retell 2 (g := row v2 1 ((List.replicate (n_0.Nodes).toNat (false : Bool)).map eBool)) rfl (congrArg (row _ _) (map_rep rfl))) ?_
 refine ot rfl rfl (t_alloc Try.zeroValue27) ?_
 rintro _ _ ⟨b4, rfl, rfl⟩
 refine ops_slc 2 rfl reads_row (fun hs5 hs5o => ?_)
 refine ot rfl rfl (t_store 3 Try.sizeOf27 rfl rfl rfl (by rw [hs5]; rfl) (by simp [Value.cells, boxP]) (by rw [hs5]; intro u hu; replace hu : u ∈ ([v2] : List Value) := hu; simp only [List.mem_cons, List.not_mem_nil, or_false] at hu; rcases hu with rfl <;> first | rfl | assumption)) ?_
 rintro _ _ ⟨rfl, rfl⟩
 refine ops_turn (retell 3 (g := box b4 [v2]) rfl (by rw [hs5]; rfl)) ?_
 refine ops_nil ?_
 refine goes_code ?_
 refine run_seq ?_
 refine run_region' ?_
 refine ot rfl rfl (t_alloc Try.zeroValue99) ?_
 rintro _ _ ⟨b6, rfl, rfl⟩
 refine ops_nil ?_
 refine goes_code ?_
 refine run_seq ?_
 refine run_weak [(1, .int .i64 from_1), (2, .bool back_2), (3, boxP b1 0), (7, boxP b4 0), (8, boxP b6 0)] [0, 1, 2, 3, 4] [ro n_0_Arcsv 4 (n_0.Arcs.map S_api_Arc.enc), box b1 [.int .i64 n_0.Nodes, n_0_Arcsv], row v2 1 ((List.replicate (n_0.Nodes).toNat (false : Bool)).map eBool), box b4 [v2], box b6 [.slice none 0 0]] (qv5 rfl rfl rfl rfl rfl) (by decide) rfl ?_
 refine run_region' ?_
 refine oy rfl rfl (y_load_box 3 Try.isAgg27 rfl rfl rfl) ?_
 refine oy rfl rfl (y_move rfl) ?_
 obtain ⟨x7, hzx7, hlx7, hxx7, h⟩ := idx_some h
 refine oy rfl rfl (y_indexAddrI (kd := .i64) (i := from_1) 2 Try.runUnderlying27 Try.sizeOf4 rfl rfl rfl reads_row hzx7 (map_lt hlx7)) ?_
 refine ot rfl rfl (t_store_row (i := from_1.toNat) (j := 0) (c := eBool x7) 2 Try.sizeOf4 rfl rfl rfl rfl (map_get hxx7) (by decide) (by simp [Value.cells, Value.oneCell', boxP])) ?_
 rintro _ _ ⟨rfl, rfl⟩
 refine ops_turn (retell 2 (g := row v2 1 (((List.replicate (n_0.Nodes).toNat (false : Bool)).set from_1.toNat true).map eBool)) rfl (congrArg (row _ _) (map_set_at rfl))) ?_
 refine ops_nil ?_
 refine goes_code ?_
 refine run_seq ?_
 refine run_region' ?_
 refine oy rfl rfl (y_move rfl) ?_
 refine ops_turn (nilrow 1) ?_
 refine ops_turn (retell 5 (g := row (.slice none 0 0) 1 (([] : List Int).map (eInt .i64))) rfl rfl) ?_
 obtain ⟨r8, hr9, h⟩ := obind_some h
 refine ot rfl rfl (t_callx (vs := [boxP b6 0, .int .i64 from_1]) (cs := []) [(5, 2), (4, 2)] rfl Try.call57 rfl (weirgate_graph_queue_int_put_57_ok (S_graph_queue_int.mk ([] : List Int)) from_1 b6 (.slice none 0 0) hr9) (showsX_lend 5 rfl (showsX_lend 4 rfl showsX_nil)) rfl (.inl rfl)) ?_
 rintro _ _ ⟨_, ⟨v10, rfl, rfl⟩, rfl⟩
 refine ops_nil ?_
 refine goes_code ?_
 obtain ⟨o12, h, ho13⟩ := bindJ_some h
 refine run_cut (((List Bool)) × (Unit)) (fun σ => [(7, boxP b4 0)]) (fun σ => [box b4 [v2], row v2 1 (σ.1.map eBool)]) (fun σ => o12 = .go σ.1) (fun L15 hL14 => ?_) ?_
 ·
  refine run_seq ?_
  refine run_region' ?_
  obtain ⟨r16, hr17, h⟩ := obind_some h
  refine ot rfl rfl (t_callx (vs := [boxP b6 0]) (cs := []) [(6, 2), (7, 2)] rfl Try.call58 rfl (weirgate_graph_queue_int_get_58_ok r8 b6 v10 hr17) (showsX_lend 6 rfl (showsX_lend 7 rfl showsX_nil)) rfl (.inl rfl)) ?_
  rintro _ _ ⟨_, ⟨v18, rfl, rfl⟩, rfl⟩
  refine oy rfl rfl (y_move rfl) ?_
  refine oy rfl rfl (y_extract rfl rfl) ?_
  refine oy rfl rfl (y_extract rfl rfl) ?_
  refine oy rfl rfl (y_assign rfl) ?_
  refine oy rfl rfl (y_assign rfl) ?_
  refine ops_nil ?_
  refine goes_code ?_
  refine run_block ?_
  refine run_iter (step := graph_search_L1 n n_0 back_2) (n := n) (s0 := (r16.1, r16.2.1, ((List.replicate (n_0.Nodes).toNat (false : Bool)).set from_1.toNat true), r16.2.2.l_)) h (G := Value) v18 (fun σ γ => [(2, .bool back_2), (3, boxP b1 0), (7, boxP b4 0), (8, boxP b6 0), (9, .int .i64 σ.1), (10, .bool σ.2.1)]) (fun σ γ => [box b1 [.int .i64 n_0.Nodes, n_0_Arcsv], ro n_0_Arcsv 4 (n_0.Arcs.map S_api_Arc.enc), box b4 [v2], row v2 1 (σ.2.2.1.map eBool), box b6 [γ], row γ 1 (σ.2.2.2.map (eInt .i64))]) [1, 0, 3, 2, 9, 8] (qv6 rfl rfl rfl rfl rfl rfl) (by decide) rfl ?_
  rintro ⟨v_19, ok_20, x_21, x_22⟩ v23 o24 h L27 hgo25 hstop26
  change Run _ _ _ (VF.of [(2, .bool back_2), (3, boxP b1 0), (7, boxP b4 0), (8, boxP b6 0), (9, .int .i64 v_19), (10, .bool ok_20)]) [box b1 [.int .i64 n_0.Nodes, n_0_Arcsv], ro n_0_Arcsv 4 (n_0.Arcs.map S_api_Arc.enc), box b4 [v2], row v2 1 (x_21.map eBool), box b6 [v23], row v23 1 (x_22.map (eInt .i64))]
  refine run_seq ?_
  refine run_seq ?_
  refine run_region' ?_
  refine oy rfl rfl (y_move rfl) ?_
  refine ops_nil ?_
  refine goes_code ?_
  refine run_cond ok_20 rfl (fun hc28 => ?_) (fun hc28 => ?_)
  ·replace h := cond_t h hc28
   refine run_skip ?_
   refine goes_code ?_
   refine run_seq ?_
   refine run_block ?_
   refine run_seq ?_
   refine run_region' ?_
   refine oy rfl rfl (y_load_boxagg (c := [.int .i64 n_0.Nodes, n_0_Arcsv]) 0 Try.isAgg24 Try.sizeOf24 rfl rfl rfl) ?_
   refine oy rfl rfl (y_move rfl) ?_
   refine oy rfl rfl (y_move rfl) ?_
   obtain ⟨r29, hr30, h⟩ := obind_some h
   refine ot rfl rfl (t_callx (vs := [.agg #[.int .i64 n_0.Nodes, n_0_Arcsv], .int .i64 v_19, .bool back_2]) (cs := []) [(1, 0)] rfl Try.call39 rfl (graph_arcs_ok n_0 v_19 back_2 n_0_Arcsv hr30) (showsX_view 1 rfl views_ro showsX_nil) rfl (.inl rfl)) ?_
   rintro _ _ ⟨_, ⟨v31, v32, v33, rfl, rfl⟩, rfl⟩
   refine ops_nil ?_
   refine goes_code ?_
   refine run_block ?_
   refine run_weak [(2, .bool back_2), (3, boxP b1 0), (7, boxP b4 0), (8, boxP b6 0), (33, .func (.func 61) #[] #[boxP v31 0, boxP v32 0, boxP v33 0])] [0, 1, 2, 3, 4, 5, 6, 7, 8] [box b1 [.int .i64 n_0.Nodes, n_0_Arcsv], ro n_0_Arcsv 4 (n_0.Arcs.map S_api_Arc.enc), box b4 [v2], row v2 1 (x_21.map eBool), box b6 [v23], row v23 1 (x_22.map (eInt .i64)), box v31 [.int .i64 n_0.Nodes, n_0_Arcsv], box v32 [.bool back_2], box v33 [.int .i64 v_19]] (qv5 rfl rfl rfl rfl rfl) (by decide) rfl ?_
   obtain ⟨r39, hr40, h⟩ := obind_some h
   refine run_rangeFunc (S := (List Bool) × (List Int)) (G := Value) (jumps := []) (Hs := fun σ γ => [box b4 [v2], row v2 1 (σ.1.map eBool), box b6 [γ], row γ 1 (σ.2.map (eInt .i64))]) (step := (graph_search_R2)) (ps := [34, 35]) (Gr := [box v31 [.int .i64 n_0.Nodes, n_0_Arcsv], box v32 [.bool back_2], box v33 [.int .i64 v_19]]) (fun x => [.int .i64 x.1, .int .i64 x.2]) (x_21, x_22) v23 [2, 3, 4, 5] [(1, 0), (6, 2), (7, 2), (8, 2)] (r := r39) rfl rfl Try.call61 (fun _ => rfl) rfl (by decide) rfl ?_ (fun l A hy => graph_arcs_1_61_ok n (yieldOf (graph_search_R2)) ((x_21, x_22), none) n_0 back_2 v_19 l A hy v31 n_0_Arcsv v32 v33 hr40) (showsX_view 1 rfl views_ro (showsX_lend 6 rfl (showsX_lend 7 rfl (showsX_lend 8 rfl showsX_nil)))) rfl rfl ?_ ?_
   ·rintro l ⟨x_36, x_37⟩ ⟨x34, x35⟩ sN jN hN v38 w0 o0 L hL
    obtain ⟨pN, hp⟩ : ∃ pN, pN = (sN, jN) := ⟨_, rfl⟩
    rw [← hp] at hN
    replace h := hN
    clear hN
    change Run _ _ _ (VF.of [(35, .int .i64 x35), (34, .int .i64 x34), (2, .bool back_2), (3, boxP b1 0), (7, boxP b4 0), (8, boxP b6 0), (33, .func (.func 61) #[] #[boxP v31 0, boxP v32 0, boxP v33 0])]) [box b4 [v2], row v2 1 (x_36.map eBool), box b6 [v38], row v38 1 (x_37.map (eInt .i64))]
    refine run_weak [(7, boxP b4 0), (8, boxP b6 0), (34, .int .i64 x34), (35, .int .i64 x35)] [0, 1, 2, 3] [box b4 [v2], row v2 1 (x_36.map eBool), box b6 [v38], row v38 1 (x_37.map (eInt .i64))] (qv4 rfl rfl rfl rfl) (by decide) rfl ?_
    refine run_region' ?_
    refine oy rfl rfl (y_assign rfl) ?_
    refine ops_nil ?_
    refine goes_round hL (fun w1 o1 => ?_)
    refine run_block ?_
    refine run_seq ?_
    refine run_region' ?_
    refine oy rfl rfl (y_load_box 0 Try.isAgg27 rfl rfl rfl) ?_
    refine oy rfl rfl (y_move rfl) ?_
    obtain ⟨x41, hzx41, hlx41, hxx41, h⟩ := idx_some h
    refine oy rfl rfl (y_indexAddrI (kd := .i64) (i := x35) 1 Try.runUnderlying27 Try.sizeOf4 rfl rfl rfl reads_row hzx41 (map_lt hlx41)) ?_
    refine oy rfl rfl (y_load_elem (i := x35.toNat) 1 Try.isAgg4 rfl rfl reads_row (map_get hxx41)) ?_
    refine oy rfl rfl (y_not rfl) ?_
    refine ops_nil ?_
    refine goes_code ?_
    refine run_cond (!x41) rfl (fun hc42 => ?_) (fun hc42 => ?_)
    ·replace h := cond_t h hc42
     refine run_seq ?_
     refine run_region' ?_
     refine oy rfl rfl (y_load_box 0 Try.isAgg27 rfl rfl rfl) ?_
     refine oy rfl rfl (y_move rfl) ?_
     refine oy rfl rfl (y_indexAddrI (kd := .i64) (i := x35) 1 Try.runUnderlying27 Try.sizeOf4 rfl rfl rfl reads_row hzx41 (map_lt hlx41)) ?_
     refine ot rfl rfl (t_store_row (i := x35.toNat) (j := 0) (c := eBool x41) 1 Try.sizeOf4 rfl rfl rfl rfl (map_get hxx41) (by decide) (by simp [Value.cells, Value.oneCell', boxP])) ?_
     rintro _ _ ⟨rfl, rfl⟩
     refine ops_turn (retell 1 (g := row v2 1 ((x_36.set x35.toNat true).map eBool)) rfl (congrArg (row _ _) (map_set_at rfl))) ?_
     refine ops_nil ?_
     refine goes_code ?_
     refine run_weak [(8, boxP b6 0), (12, .int .i64 x35)] [0, 1, 2, 3] [box b4 [v2], row v2 1 ((x_36.set x35.toNat true).map eBool), box b6 [v38], row v38 1 (x_37.map (eInt .i64))] (qv2 rfl rfl) (by decide) rfl ?_
     refine run_region' ?_
     refine oy rfl rfl (y_move rfl) ?_
     obtain ⟨r43, hr44, h⟩ := obind_some h
     refine ot rfl rfl (t_callx (vs := [boxP b6 0, .int .i64 x35]) (cs := []) [(3, 2), (2, 2)] rfl Try.call57 rfl (weirgate_graph_queue_int_put_57_ok (S_graph_queue_int.mk x_37) x35 b6 v38 hr44) (showsX_lend 3 rfl (showsX_lend 2 rfl showsX_nil)) rfl (.inl rfl)) ?_
     rintro _ _ ⟨_, ⟨v45, rfl, rfl⟩, rfl⟩
     refine ops_nil ?_
     refine goes_blk ?_
     obtain rfl := some_eq h
     obtain ⟨rfl, rfl⟩ := Prod.mk.inj hp
     exact round_go v45 [0, 1, 5, 4] (by decide) rfl rfl
    ·replace h := cond_f h hc42
     refine run_skip ?_
     refine goes_blk ?_
     obtain rfl := some_eq h
     obtain ⟨rfl, rfl⟩ := Prod.mk.inj hp
     exact round_go v38 [0, 1, 2, 3] (by decide) rfl rfl
   ·intro hn γ
    replace h := onJump_none hn h
    change Goes _ _ (VF.of [(2, .bool back_2), (3, boxP b1 0), (7, boxP b4 0), (8, boxP b6 0), (33, .func (.func 61) #[] #[boxP v31 0, boxP v32 0, boxP v33 0])]) [box b1 [.int .i64 n_0.Nodes, n_0_Arcsv], ro n_0_Arcsv 4 (n_0.Arcs.map S_api_Arc.enc), HA.emp, HA.emp, HA.emp, HA.emp, HA.emp, HA.emp, HA.emp, box v31 [.int .i64 n_0.Nodes, n_0_Arcsv], box v32 [.bool back_2], box v33 [.int .i64 v_19], box b4 [v2], row v2 1 (r39.1.1.map eBool), box b6 [γ], row γ 1 (r39.1.2.map (eInt .i64))]
    refine goes_blk ?_
    refine goes_blk ?_
    refine goes_code ?_
    refine run_region' ?_
    obtain ⟨r46, hr47, h⟩ := obind_some h
    refine ot rfl rfl (t_callx (vs := [boxP b6 0]) (cs := []) [(15, 2), (14, 2)] rfl Try.call58 rfl (weirgate_graph_queue_int_get_58_ok (S_graph_queue_int.mk r39.1.2) b6 γ hr47) (showsX_lend 15 rfl (showsX_lend 14 rfl showsX_nil)) rfl (.inl rfl)) ?_
    rintro _ _ ⟨_, ⟨v48, rfl, rfl⟩, rfl⟩
    refine oy rfl rfl (y_move rfl) ?_
    refine oy rfl rfl (y_extract rfl rfl) ?_
    refine oy rfl rfl (y_extract rfl rfl) ?_
    refine oy rfl rfl (y_assign rfl) ?_
    refine oy rfl rfl (y_assign rfl) ?_
    refine ops_nil ?_
    obtain rfl := some_eq h
    exact goes_iter hgo25 (r46.1, r46.2.1, r39.1.1, r46.2.2.l_) v48 [0, 1, 12, 13, 17, 16] rfl (qv6 rfl rfl rfl rfl rfl rfl) (by decide) rfl
   ·intro iJ hi
    obtain ⟨xJ, hx, h⟩ := onJump_some hi h
    simp at hx
  ·replace h := cond_f h hc28
   refine run_exit _ rfl ?_
   obtain rfl := some_eq h
   obtain rfl := hstop26 _ rfl
   exact goes_cut hL14 (x_21, ()) [2, 3] (qv1 rfl) (by decide) rfl rfl
 rintro ⟨x_11, _⟩ hj
 obtain rfl : o12 = _ := hj
 replace h := after_go ho13
 clear ho13
 change Run _ _ _ (VF.of [(7, boxP b4 0)]) [box b4 [v2], row v2 1 (x_11.map eBool)]
 refine run_seq ?_
 refine run_region' ?_
 refine oy rfl rfl (y_load_box 0 Try.isAgg27 rfl rfl rfl) ?_
 refine oy rfl rfl (y_assign rfl) ?_
 refine ops_nil ?_
 refine goes_code ?_
 refine run_ret ?_
 obtain rfl := some_eq h
 refine fin_slots [6] [v2] [1] [row v2 1 (x_11.map eBool)] Try.results35 rfl (by decide) rfl ?_
 exact ⟨_, rfl, rfl⟩

def graph_Reach (n : Nat) (n_0 : S_api_Net) (from_1 : Int) : Option ((List Bool) × Int) :=
 obind (graph_Valid n n_0) fun r2 =>
 bindJ (S := Bool)
  (cond (!r2)
   (some (.go true))
   (obind (graph_isNode n_0 from_1) fun r10 =>
   some (.go (!r10))))
 (fun b4 =>
  cond b4
   (some (([] : List Bool), 1))
   (obind (graph_search n n_0 from_1 false) fun r13 =>
   some (r13, 0)))
theorem graph_Reach_ok (n : Nat) (n_0 : S_api_Net) (from_1 : Int) (n_0_Arcsv : Value) {r : (List Bool) × Int} (h : graph_Reach n n_0 from_1 = some r) :
  Meets Try.prog 11 [.agg #[.int .i64 n_0.Nodes, n_0_Arcsv], .int .i64 from_1] [ro n_0_Arcsv 4 (n_0.Arcs.map S_api_Arc.enc)] (fun v G => ∃ v0, v = .tuple #[v0, .int .i64 r.2] ∧ G = [row v0 1 (r.1.map eBool)]) := by
 refine fn_of_run Try.func11 rfl Try.ntmps11 rfl (fun w0 o0 => ?_)
 refine run_seq ?_
 refine run_region' ?_
 refine ot rfl rfl (t_box rfl) ?_
 rintro _ _ ⟨b1, rfl, rfl⟩
 refine oy rfl rfl (y_assign rfl) ?_
 refine oy rfl rfl (y_assign rfl) ?_
 refine ops_nil ?_
 refine goes_code ?_
 refine run_seq ?_
 refine run_seq ?_
 refine run_region' ?_
 refine oy rfl rfl (y_load_boxagg (c := [.int .i64 n_0.Nodes, n_0_Arcsv]) 1 Try.isAgg24 Try.sizeOf24 rfl rfl rfl) ?_
 obtain ⟨r2, hr3, h⟩ := obind_some h
 refine ot rfl rfl (t_callx (vs := [.agg #[.int .i64 n_0.Nodes, n_0_Arcsv]]) (cs := []) [(0, 0)] rfl Try.call17 rfl (graph_Valid_ok n n_0 n_0_Arcsv hr3) (showsX_view 0 rfl views_ro showsX_nil) rfl (.inl rfl)) ?_
 rintro _ _ ⟨_, ⟨rfl, rfl⟩, rfl⟩
 refine oy rfl rfl (y_not rfl) ?_
 refine oy rfl rfl (y_move rfl) ?_
 obtain ⟨o5, h, ho6⟩ := bindJ_some h
 refine ops_cut 5 (Bool) (fun σ => [(1, .int .i64 from_1), (2, boxP b1 0), (14, .bool σ)]) (fun σ => [ro n_0_Arcsv 4 (n_0.Arcs.map S_api_Arc.enc), box b1 [.int .i64 n_0.Nodes, n_0_Arcsv]]) (fun σ => o5 = .go σ) (fun L7 hL8 => ?_) ?_
 ·refine ops_split 9 (!r2) rfl (fun hg9 => ?_) (fun hg9 => ?_)
  ·replace h := cond_t h hg9
   refine ops_no 3 false 9 rfl rfl rfl rfl rfl ?_
   refine ops_no 3 false 9 rfl rfl rfl rfl rfl ?_
   refine ops_no 3 false 9 rfl rfl rfl rfl rfl ?_
   refine ops_no 3 false 9 rfl rfl rfl rfl rfl ?_
   refine oy rfl rfl (y_pick (b := true) rfl rfl) ?_
   refine ops_nil ?_
   obtain rfl := some_eq h
   exact goes_cut hL8 true [0, 1] (qv3 rfl rfl rfl) (by decide) rfl rfl
  ·replace h := cond_f h hg9
   refine ops_y (wg 3 false 9 rfl rfl rfl rfl) rfl (y_load_boxagg (c := [.int .i64 n_0.Nodes, n_0_Arcsv]) 1 Try.isAgg24 Try.sizeOf24 rfl rfl rfl) ?_
   refine ops_y (wg 3 false 9 rfl rfl rfl rfl) rfl (y_move rfl) ?_
   obtain ⟨r10, hr11, h⟩ := obind_some h
   refine ops_t (wg 3 false 9 rfl rfl rfl rfl) rfl (t_callx (vs := [.agg #[.int .i64 n_0.Nodes, n_0_Arcsv], .int .i64 from_1]) (cs := []) [(0, 0)] rfl Try.call34 rfl (graph_isNode_ok n_0 from_1 n_0_Arcsv hr11) (showsX_view 0 rfl views_ro showsX_nil) rfl (.inl rfl)) ?_
   rintro _ _ ⟨_, ⟨rfl, rfl⟩, rfl⟩
   refine ops_y (wg 3 false 9 rfl rfl rfl rfl) rfl (y_not rfl) ?_
   refine oy rfl rfl (y_pick (b := false) rfl rfl) ?_
   refine ops_nil ?_
   obtain rfl := some_eq h
   exact goes_cut hL8 (!r10) [0, 1] (qv3 rfl rfl rfl) (by decide) rfl rfl
 rintro b4 hj
 obtain rfl : o5 = _ := hj
 replace h := after_go ho6
 clear ho6
 refine ops_nil ?_
 refine goes_code ?_
 refine run_cond b4 rfl (fun hc12 => ?_) (fun hc12 => ?_)
 ·replace h := cond_t h hc12
  refine run_seq ?_
  refine run_region' ?_
  refine oy rfl rfl (y_assign rfl) ?_
  refine oy rfl rfl (y_assign rfl) ?_
  refine ops_nil ?_
  refine goes_code ?_
  refine run_ret ?_
  refine fin_turn (nilrow 1) ?_
  refine fin_turn (retell 2 (g := row (.slice none 0 0) 1 (([] : List Bool).map eBool)) rfl rfl) ?_
  obtain rfl := some_eq h
  refine fin_slots [4, 5] [(.slice none 0 0), .int .i64 1] [2] [row (.slice none 0 0) 1 (([] : List Bool).map eBool)] Try.results11 rfl (by decide) rfl ?_
  exact ⟨_, rfl, rfl⟩
 ·replace h := cond_f h hc12
  refine run_skip ?_
  refine goes_code ?_
  refine run_seq ?_
  refine run_region' ?_
  refine oy rfl rfl (y_load_boxagg (c := [.int .i64 n_0.Nodes, n_0_Arcsv]) 1 Try.isAgg24 Try.sizeOf24 rfl rfl rfl) ?_
  refine oy rfl rfl (y_move rfl) ?_
  obtain ⟨r13, hr14, h⟩ := obind_some h
  refine ot rfl rfl (t_callx (vs := [.agg #[.int .i64 n_0.Nodes, n_0_Arcsv], .int .i64 from_1, .bool false]) (cs := []) [(0, 0)] rfl Try.call35 rfl (graph_search_ok n n_0 from_1 false n_0_Arcsv hr14) (showsX_view 0 rfl views_ro showsX_nil) rfl (.inl rfl)) ?_
  rintro v15 _ ⟨_, ⟨_, rfl, rfl⟩, rfl⟩
  refine oy rfl rfl (y_assign rfl) ?_
  refine oy rfl rfl (y_assign rfl) ?_
  refine ops_nil ?_
  refine goes_code ?_
  refine run_ret ?_
  obtain rfl := some_eq h
  refine fin_slots [4, 5] [v15, .int .i64 0] [2] [row v15 1 (r13.map eBool)] Try.results11 rfl (by decide) rfl ?_
  exact ⟨_, rfl, rfl⟩

def weirgate_graph_ints_Push_90 (h_0 : (List Int)) (x_1 : Int) : Option ((List Int)) :=
 need (h_0.length + ([x_1] : List Int).length ≤ 4294967296) (
 some (h_0 ++ ([x_1] : List Int)))
theorem weirgate_graph_ints_Push_90_ok (h_0 : (List Int)) (x_1 : Int) (h_0b : Nat) (h_0v : Value) {r : (List Int)} (h : weirgate_graph_ints_Push_90 h_0 x_1 = some r) :
  Meets Try.prog 90 [boxP h_0b 0, .iface 3 (.int .i64 x_1)] [row h_0v 1 (h_0.map (eInt .i64)), box h_0b [h_0v]] (fun v G => ∃ v0, v = .tuple #[] ∧ G = [row v0 1 (r.map (eInt .i64)), box h_0b [v0]]) := by
 refine fn_of_run Try.func90 rfl Try.ntmps90 rfl (fun w0 o0 => ?_)
 obtain ⟨hr3, h⟩ := need_some h
 refine run_drawany [HA.emp, HA.emp] (by kernel_rfl) ?_
 refine any_y 0 rfl (by kernel_rfl) (by kernel_rfl) (by kernel_rfl) (se (se (sn))) (wn rfl) rfl (y_move rfl) ?_
 refine any_y 1 rfl (by kernel_rfl) (by kernel_rfl) (by kernel_rfl) (se (se (sn))) (wn rfl) rfl (y_move rfl) ?_
 refine any_y 2 rfl (by kernel_rfl) (by kernel_rfl) (by kernel_rfl) (se (se (sn))) (wn rfl) rfl (y_nilBox rfl) ?_
 refine any_y 4 rfl (by kernel_rfl) (by kernel_rfl) (by kernel_rfl) (se (se (sn))) (wn rfl) rfl (y_move rfl) ?_
 refine any_y 5 rfl (by kernel_rfl) (by kernel_rfl) (by kernel_rfl) (se (se (sn))) (wn rfl) rfl (y_assert Try.runUnderlying3 rfl rfl) ?_
 refine any_cut2 #[true, true, true, true, true, true, true, true, true, true] 0 (Value × Value) (fun σ => []) (fun σ => [row σ.1 1 ((h_0 ++ ([x_1] : List Int)).map (eInt .i64)), box h_0b [σ.1], row σ.2 1 (([x_1] : List Int).map (eInt .i64))]) ?_ (fun hK9 => ?_)
 ·rintro ⟨v7, v6⟩
  change AnyL _ _ _ _ _ (VF.of []) [row v7 1 ((h_0 ++ ([x_1] : List Int)).map (eInt .i64)), box h_0b [v7], row v6 1 (([x_1] : List Int).map (eInt .i64))] _
  refine any_nil (by kernel_rfl) ?_
  refine goes_nil ?_
  obtain rfl := some_eq h
  refine fin_slots [] [] [0, 1] [row v7 1 ((h_0 ++ ([x_1] : List Int)).map (eInt .i64)), box h_0b [v7]] Try.results90 rfl (by decide) rfl ?_
  exact ⟨_, rfl, rfl⟩
 refine any_cut2 #[true, true, true, true, true, true, true, true, true, false] 1 (Value × Value) (fun σ => [(11, σ.1), (12, boxP h_0b 0)]) (fun σ => [row σ.1 1 ((h_0 ++ ([x_1] : List Int)).map (eInt .i64)), box h_0b [h_0v], row σ.2 1 (([x_1] : List Int).map (eInt .i64))]) ?_ (fun hK10 => ?_)
 ·rintro ⟨v7, v6⟩
  change AnyL _ _ _ _ _ (VF.of [(11, v7), (12, boxP h_0b 0)]) [row v7 1 ((h_0 ++ ([x_1] : List Int)).map (eInt .i64)), box h_0b [h_0v], row v6 1 (([x_1] : List Int).map (eInt .i64))] _
  refine any_all [9] (by kernel_rfl) rfl ?_
  refine anyo_cons ?_ ?_
  ·
   refine anyo_slc 0 rfl reads_row (fun hs11 hs11o => ?_)
   refine any_t rfl (wn rfl) rfl (t_store 1 Try.sizeOf73 rfl rfl rfl (by rw [hs11]; rfl) (by simp [Value.cells, boxP]) (by rw [hs11]; intro u hu; replace hu : u ∈ ([v7] : List Value) := hu; simp only [List.mem_cons, List.not_mem_nil, or_false] at hu; rcases hu with rfl <;> first | rfl | assumption)) ?_
   rintro _ _ ⟨rfl, rfl⟩
   refine ⟨(se (se (sn))), ?_⟩
   refine any_turn (retell 1 (g := box h_0b [v7]) rfl (by rw [hs11]; rfl)) ?_
   exact any_weak2 (hK9 (v7, v6)) [0, 1, 2] (by kernel_rfl) vnil (by decide) rfl
  exact anyo_nil
 refine any_cut2 #[true, true, true, true, true, true, true, false, false, false] 3 (Value) (fun σ => [(4, boxP h_0b 0), (7, h_0v), (10, σ)]) (fun σ => [row h_0v 1 (h_0.map (eInt .i64)), box h_0b [h_0v], row σ 1 (([x_1] : List Int).map (eInt .i64))]) ?_ (fun hK12 => ?_)
 ·rintro v6
  change AnyL _ _ _ _ _ (VF.of [(4, boxP h_0b 0), (7, h_0v), (10, v6)]) [row h_0v 1 (h_0.map (eInt .i64)), box h_0b [h_0v], row v6 1 (([x_1] : List Int).map (eInt .i64))] _
  refine any_all [7] (by kernel_rfl) rfl ?_
  refine anyo_cons ?_ ?_
  ·
   refine any_t rfl (wn rfl) rfl (t_append (es := 1) 0 rfl Try.runUnderlying73 rfl Try.runUnderlying73 (.inr ⟨_, rfl⟩) Try.typeInfo3 rfl (by decide) Try.zeroValue3 rfl rfl rfl rfl (src_reads 2 rfl reads_row (map_ok (eInt_ok _) _)) (map_room hr3 (by decide)) (map_fit hr3)) ?_
   rintro v13 _ rfl
   refine ⟨(se (se (sn))), ?_⟩
   refine any_turn (retell 0 (g := row v13 1 ((h_0 ++ ([x_1] : List Int)).map (eInt .i64))) rfl (congrArg (row _ _) List.map_append.symm)) ?_
   refine any_y 8 rfl (by kernel_rfl) (by kernel_rfl) (by kernel_rfl) (se (se (sn))) (wn rfl) rfl (y_nilBox rfl) ?_
   exact any_weak2 (hK10 (v13, v6)) [0, 1, 2] (by kernel_rfl) (qv2 rfl rfl) (by decide) rfl
  exact anyo_nil
 refine any_cut2 #[true, true, true, true, true, true, false, false, false, false] 4 (Unit) (fun σ => [(4, boxP h_0b 0), (9, .int .i64 x_1), (7, h_0v)]) (fun σ => [row h_0v 1 (h_0.map (eInt .i64)), box h_0b [h_0v]]) ?_ (fun hK14 => ?_)
 ·rintro _
  change AnyL _ _ _ _ _ (VF.of [(4, boxP h_0b 0), (9, .int .i64 x_1), (7, h_0v)]) [row h_0v 1 (h_0.map (eInt .i64)), box h_0b [h_0v]] _
  refine any_all [6] (by kernel_rfl) rfl ?_
  refine anyo_cons ?_ ?_
  ·
   refine any_t rfl (wn rfl) rfl (t_lit [.int .i64 x_1] Try.runUnderlying73 Try.sizeOf3 Try.zeroValue3 rfl (by decide) (by decide) rfl (by simp [Value.cells, boxP])) ?_
   rintro v15 _ ⟨rfl, _⟩
   refine ⟨(se (se (sn))), ?_⟩
   refine any_turn (retell 2 (g := row v15 1 (([x_1] : List Int).map (eInt .i64))) rfl rfl) ?_
   exact any_weak2 (hK12 v15) [0, 1, 2] (by kernel_rfl) (qv3 rfl rfl rfl) (by decide) rfl
  exact anyo_nil
 refine any_cut2 #[true, true, true, false, true, true, true, false, false, false] 4 (Value) (fun σ => [(4, boxP h_0b 0), (6, boxP h_0b 0), (10, σ)]) (fun σ => [row h_0v 1 (h_0.map (eInt .i64)), box h_0b [h_0v], row σ 1 (([x_1] : List Int).map (eInt .i64))]) ?_ (fun hK16 => ?_)
 ·rintro v5
  change AnyL _ _ _ _ _ (VF.of [(4, boxP h_0b 0), (6, boxP h_0b 0), (10, v5)]) [row h_0v 1 (h_0.map (eInt .i64)), box h_0b [h_0v], row v5 1 (([x_1] : List Int).map (eInt .i64))] _
  refine any_all [3] (by kernel_rfl) rfl ?_
  refine anyo_cons ?_ ?_
  ·
   refine any_ty rfl (wn rfl) rfl (y_load_box 1 Try.isAgg73 rfl rfl rfl) ⟨(se (se (sn))), ?_⟩
   exact any_weak2 (hK12 v5) [0, 1, 2] (by kernel_rfl) (qv3 rfl rfl rfl) (by decide) rfl
  exact anyo_nil
 refine any_all [3, 6] (by kernel_rfl) rfl ?_
 refine anyo_cons ?_ ?_
 ·
  refine any_ty rfl (wn rfl) rfl (y_load_box 1 Try.isAgg73 rfl rfl rfl) ⟨(se (se (sn))), ?_⟩
  exact any_weak2 (hK14 ()) [0, 1] (by kernel_rfl) (qv3 rfl rfl rfl) (by decide) rfl
 refine anyo_cons ?_ ?_
 ·
  refine any_t rfl (wn rfl) rfl (t_lit [.int .i64 x_1] Try.runUnderlying73 Try.sizeOf3 Try.zeroValue3 rfl (by decide) (by decide) rfl (by simp [Value.cells, boxP])) ?_
  rintro v17 _ ⟨rfl, _⟩
  refine ⟨(se (se (sn))), ?_⟩
  refine any_turn (retell 2 (g := row v17 1 (([x_1] : List Int).map (eInt .i64))) rfl rfl) ?_
  exact any_weak2 (hK16 v17) [0, 1, 2] (by kernel_rfl) (qv3 rfl rfl rfl) (by decide) rfl
 exact anyo_nil

def weirgate_graph_ints_Len_37 (h_0 : (List Int)) : Option (Int) :=
 some (h_0.length : Int)
theorem weirgate_graph_ints_Len_37_ok (h_0 : (List Int)) (h_0v : Value) {r : Int} (h : weirgate_graph_ints_Len_37 h_0 = some r) :
  Meets Try.prog 37 [h_0v] [ro h_0v 1 (h_0.map (eInt .i64))] (fun v G => v = .int .i64 r ∧ G = []) := by
 refine fn_of_run Try.func37 rfl Try.ntmps37 rfl (fun w0 o0 => ?_)
 refine run_seq ?_
 refine run_region' ?_
 refine oy rfl rfl (y_assign rfl) ?_
 refine ops_nil ?_
 refine goes_code ?_
 refine run_seq ?_
 refine run_region' ?_
 refine oy rfl rfl (y_move rfl) ?_
 refine oy rfl rfl ((y_len 0 rfl Try.runUnderlying73 rfl rfl reads_ro).to (v_len (eInt .i64) _)) ?_
 refine oy rfl rfl (y_assign rfl) ?_
 refine ops_nil ?_
 refine goes_code ?_
 refine run_ret ?_
 obtain rfl := some_eq h
 refine fin_slots [2] [.int .i64 (h_0.length : Int)] [] [] Try.results37 rfl (by decide) rfl ?_
 exact ⟨rfl, rfl⟩

def weirgate_graph_ints_Less_88 (h_0 : (List Int)) (i_1 : Int) (k_2 : Int) : Option (Bool) :=
 idx h_0 i_1 fun x1 =>
 idx h_0 k_2 fun x2 =>
 some (decide (x1 < x2))
theorem weirgate_graph_ints_Less_88_ok (h_0 : (List Int)) (i_1 : Int) (k_2 : Int) (h_0v : Value) {r : Bool} (h : weirgate_graph_ints_Less_88 h_0 i_1 k_2 = some r) :
  Meets Try.prog 88 [h_0v, .int .i64 i_1, .int .i64 k_2] [ro h_0v 1 (h_0.map (eInt .i64))] (fun v G => v = .bool r ∧ G = []) := by
 refine fn_of_run Try.func88 rfl Try.ntmps88 rfl (fun w0 o0 => ?_)
 refine run_seq ?_
 refine run_region' ?_
 refine oy rfl rfl (y_assign rfl) ?_
 refine ops_nil ?_
 refine goes_code ?_
 refine run_seq ?_
 refine run_draw (by kernel_rfl) (by kernel_rfl) ?_
 refine sy rfl rfl (y_move rfl) ?_
 refine sy rfl rfl (y_move rfl) ?_
 obtain ⟨x1, hzx1, hlx1, hxx1, h⟩ := idx_some h
 refine sy rfl rfl (y_indexAddrI (kd := .i64) (i := i_1) 0 Try.runUnderlying73 Try.sizeOf3 rfl rfl rfl reads_ro hzx1 (map_lt hlx1)) ?_
 refine sy rfl rfl (y_load_elem (i := i_1.toNat) 0 Try.isAgg3 rfl rfl reads_ro (map_get hxx1)) ?_
 refine sy rfl rfl (y_move rfl) ?_
 refine sy rfl rfl (y_move rfl) ?_
 obtain ⟨x2, hzx2, hlx2, hxx2, h⟩ := idx_some h
 refine sy rfl rfl (y_indexAddrI (kd := .i64) (i := k_2) 0 Try.runUnderlying73 Try.sizeOf3 rfl rfl rfl reads_ro hzx2 (map_lt hlx2)) ?_
 refine sy rfl rfl (y_load_elem (i := k_2.toNat) 0 Try.isAgg3 rfl rfl reads_ro (map_get hxx2)) ?_
 refine sy rfl rfl (y_lss rfl rfl) ?_
 refine sy rfl rfl (y_assign rfl) ?_
 refine still_nil ?_
 refine goes_code ?_
 refine run_ret ?_
 obtain rfl := some_eq h
 refine fin_slots [6] [.bool (decide (x1 < x2))] [] [] Try.results88 rfl (by decide) rfl ?_
 exact ⟨rfl, rfl⟩

def weirgate_graph_ints_Swap_91_v1 (h_0 : (List Int)) (i_1 : Int) (k_2 : Int) : Option ((List Int)) :=
 idx h_0 k_2 fun x1 =>
 idx h_0 i_1 fun x2 =>
 idx (h_0.set i_1.toNat x1) k_2 fun x3 =>
 some ((h_0.set i_1.toNat x1).set k_2.toNat x2)
theorem weirgate_graph_ints_Swap_91_v1_ok (h_0 : (List Int)) (i_1 : Int) (k_2 : Int) (h_0v : Value) {r : (List Int)} (h : weirgate_graph_ints_Swap_91_v1 h_0 i_1 k_2 = some r) :
  Meets Try.prog 91 [h_0v, .int .i64 i_1, .int .i64 k_2] [row h_0v 1 (h_0.map (eInt .i64))] (fun v G => v = .tuple #[] ∧ G = [row h_0v 1 (r.map (eInt .i64))]) := by
 refine fn_of_run Try.func91 rfl Try.ntmps91 rfl (fun w0 o0 => ?_)
 obtain ⟨x1, hzx1, hlx1, hxx1, h⟩ := idx_some h
 obtain ⟨x2, hzx2, hlx2, hxx2, h⟩ := idx_some h
 obtain ⟨x3, hzx3, hlx3, hxx3, h⟩ := idx_some h
 refine run_drawany [HA.emp] (by kernel_rfl) ?_
 refine any_y 0 rfl (by kernel_rfl) (by kernel_rfl) (by kernel_rfl) (se (sn)) (wn rfl) rfl (y_move rfl) ?_
 refine any_y 1 rfl (by kernel_rfl) (by kernel_rfl) (by kernel_rfl) (se (sn)) (wn rfl) rfl (y_move rfl) ?_
 refine any_y 2 rfl (by kernel_rfl) (by kernel_rfl) (by kernel_rfl) (se (sn)) (wn rfl) rfl (y_move rfl) ?_
 refine any_y 3 rfl (by kernel_rfl) (by kernel_rfl) (by kernel_rfl) (se (sn)) (wn rfl) rfl (y_move rfl) ?_
 refine any_y 4 rfl (by kernel_rfl) (by kernel_rfl) (by kernel_rfl) (se (sn)) (wn rfl) rfl (y_move rfl) ?_
 refine any_y 5 rfl (by kernel_rfl) (by kernel_rfl) (by kernel_rfl) (se (sn)) (wn rfl) rfl (y_move rfl) ?_
 refine any_y 8 rfl (by kernel_rfl) (by kernel_rfl) (by kernel_rfl) (se (sn)) (wn rfl) rfl (y_move rfl) ?_
 refine any_y 9 rfl (by kernel_rfl) (by kernel_rfl) (by kernel_rfl) (se (sn)) (wn rfl) rfl (y_move rfl) ?_
 refine any_cut2 #[true, true, true, true, true, true, true, true, true, true, true, true, true, true, true, true] 0 (Unit) (fun σ => []) (fun σ => [row h_0v 1 (((h_0.set i_1.toNat x1).set k_2.toNat x2).map (eInt .i64))]) ?_ (fun hK4 => ?_)
 ·rintro _
  change AnyL _ _ _ _ _ (VF.of []) [row h_0v 1 (((h_0.set i_1.toNat x1).set k_2.toNat x2).map (eInt .i64))] _
  refine any_nil (by kernel_rfl) ?_
  refine goes_nil ?_
  obtain rfl := some_eq h
  refine fin_slots [] [] [0] [row h_0v 1 (((h_0.set i_1.toNat x1).set k_2.toNat x2).map (eInt .i64))] Try.results91 rfl (by decide) rfl ?_
  exact ⟨rfl, rfl⟩
 refine any_cut2 #[true, true, true, true, true, true, true, true, true, true, true, true, true, true, true, false] 1 (Unit) (fun σ => [(17, .int .i64 x2), (19, elemP h_0v (k_2.toNat * 1))]) (fun σ => [row h_0v 1 ((h_0.set i_1.toNat x1).map (eInt .i64))]) ?_ (fun hK5 => ?_)
 ·rintro _
  change AnyL _ _ _ _ _ (VF.of [(17, .int .i64 x2), (19, elemP h_0v (k_2.toNat * 1))]) [row h_0v 1 ((h_0.set i_1.toNat x1).map (eInt .i64))] _
  refine any_all [15] (by kernel_rfl) rfl ?_
  refine anyo_cons ?_ ?_
  ·
   refine any_t rfl (wn rfl) rfl (t_store_row (i := k_2.toNat) (j := 0) (c := (eInt .i64) x3) 0 Try.sizeOf3 rfl rfl rfl rfl (map_get hxx3) (by decide) (by simp [Value.cells, Value.oneCell', boxP])) ?_
   rintro _ _ ⟨rfl, rfl⟩
   refine ⟨(se (sn)), ?_⟩
   refine any_turn (retell 0 (g := row h_0v 1 (((h_0.set i_1.toNat x1).set k_2.toNat x2).map (eInt .i64))) rfl (congrArg (row _ _) (map_set_at rfl))) ?_
   exact any_weak2 (hK4 ()) [0] (by kernel_rfl) vnil (by decide) rfl
  exact anyo_nil
 refine any_cut2 #[true, true, true, true, true, true, true, true, true, true, true, true, true, true, false, false] 2 (Unit) (fun σ => [(8, h_0v), (9, .int .i64 k_2), (17, .int .i64 x2)]) (fun σ => [row h_0v 1 ((h_0.set i_1.toNat x1).map (eInt .i64))]) ?_ (fun hK6 => ?_)
 ·rintro _
  change AnyL _ _ _ _ _ (VF.of [(8, h_0v), (9, .int .i64 k_2), (17, .int .i64 x2)]) [row h_0v 1 ((h_0.set i_1.toNat x1).map (eInt .i64))] _
  refine any_all [14] (by kernel_rfl) rfl ?_
  refine anyo_cons ?_ ?_
  ·
   refine any_ty rfl (wn rfl) rfl (y_indexAddrI (kd := .i64) (i := k_2) 0 Try.runUnderlying73 Try.sizeOf3 rfl rfl rfl reads_row hzx3 (map_lt hlx3)) ⟨(se (sn)), ?_⟩
   exact any_weak2 (hK5 ()) [0] (by kernel_rfl) (qv2 rfl rfl) (by decide) rfl
  exact anyo_nil
 refine any_cut2 #[true, true, true, true, true, true, true, true, true, true, true, true, true, false, false, false] 3 (Unit) (fun σ => [(8, h_0v), (9, .int .i64 k_2), (13, .int .i64 x1), (17, .int .i64 x2), (18, elemP h_0v (i_1.toNat * 1))]) (fun σ => [row h_0v 1 (h_0.map (eInt .i64))]) ?_ (fun hK7 => ?_)
 ·rintro _
  change AnyL _ _ _ _ _ (VF.of [(8, h_0v), (9, .int .i64 k_2), (13, .int .i64 x1), (17, .int .i64 x2), (18, elemP h_0v (i_1.toNat * 1))]) [row h_0v 1 (h_0.map (eInt .i64))] _
  refine any_all [13] (by kernel_rfl) rfl ?_
  refine anyo_cons ?_ ?_
  ·
   refine any_t rfl (wn rfl) rfl (t_store_row (i := i_1.toNat) (j := 0) (c := (eInt .i64) x2) 0 Try.sizeOf3 rfl rfl rfl rfl (map_get hxx2) (by decide) (by simp [Value.cells, Value.oneCell', boxP])) ?_
   rintro _ _ ⟨rfl, rfl⟩
   refine ⟨(se (sn)), ?_⟩
   refine any_turn (retell 0 (g := row h_0v 1 ((h_0.set i_1.toNat x1).map (eInt .i64))) rfl (congrArg (row _ _) (map_set_at rfl))) ?_
   exact any_weak2 (hK6 ()) [0] (by kernel_rfl) (qv3 rfl rfl rfl) (by decide) rfl
  exact anyo_nil
 refine any_cut2 #[true, true, true, true, true, true, true, true, true, true, true, true, false, false, false, false] 4 (Unit) (fun σ => [(6, h_0v), (7, .int .i64 i_1), (8, h_0v), (9, .int .i64 k_2), (13, .int .i64 x1), (17, .int .i64 x2)]) (fun σ => [row h_0v 1 (h_0.map (eInt .i64))]) ?_ (fun hK8 => ?_)
 ·rintro _
  change AnyL _ _ _ _ _ (VF.of [(6, h_0v), (7, .int .i64 i_1), (8, h_0v), (9, .int .i64 k_2), (13, .int .i64 x1), (17, .int .i64 x2)]) [row h_0v 1 (h_0.map (eInt .i64))] _
  refine any_all [12] (by kernel_rfl) rfl ?_
  refine anyo_cons ?_ ?_
  ·
   refine any_ty rfl (wn rfl) rfl (y_indexAddrI (kd := .i64) (i := i_1) 0 Try.runUnderlying73 Try.sizeOf3 rfl rfl rfl reads_row hzx2 (map_lt hlx2)) ⟨(se (sn)), ?_⟩
   exact any_weak2 (hK7 ()) [0] (by kernel_rfl) (qv5 rfl rfl rfl rfl rfl) (by decide) rfl
  exact anyo_nil
 refine any_cut2 #[true, true, true, true, true, true, true, true, true, true, true, false, false, false, false, false] 5 (Unit) (fun σ => [(6, h_0v), (7, .int .i64 i_1), (8, h_0v), (9, .int .i64 k_2), (13, .int .i64 x1), (16, elemP h_0v (i_1.toNat * 1))]) (fun σ => [row h_0v 1 (h_0.map (eInt .i64))]) ?_ (fun hK9 => ?_)
 ·rintro _
  change AnyL _ _ _ _ _ (VF.of [(6, h_0v), (7, .int .i64 i_1), (8, h_0v), (9, .int .i64 k_2), (13, .int .i64 x1), (16, elemP h_0v (i_1.toNat * 1))]) [row h_0v 1 (h_0.map (eInt .i64))] _
  refine any_all [11] (by kernel_rfl) rfl ?_
  refine anyo_cons ?_ ?_
  ·
   refine any_ty rfl (wn rfl) rfl (y_load_elem (i := i_1.toNat) 0 Try.isAgg3 rfl rfl reads_row (map_get hxx2)) ⟨(se (sn)), ?_⟩
   exact any_weak2 (hK8 ()) [0] (by kernel_rfl) (qv6 rfl rfl rfl rfl rfl rfl) (by decide) rfl
  exact anyo_nil
 refine any_cut2 #[true, true, true, true, true, true, true, false, true, true, true, true, false, false, false, false] 5 (Unit) (fun σ => [(6, h_0v), (7, .int .i64 i_1), (8, h_0v), (9, .int .i64 k_2), (12, elemP h_0v (k_2.toNat * 1)), (17, .int .i64 x2)]) (fun σ => [row h_0v 1 (h_0.map (eInt .i64))]) ?_ (fun hK10 => ?_)
 ·rintro _
  change AnyL _ _ _ _ _ (VF.of [(6, h_0v), (7, .int .i64 i_1), (8, h_0v), (9, .int .i64 k_2), (12, elemP h_0v (k_2.toNat * 1)), (17, .int .i64 x2)]) [row h_0v 1 (h_0.map (eInt .i64))] _
  refine any_all [7] (by kernel_rfl) rfl ?_
  refine anyo_cons ?_ ?_
  ·
   refine any_ty rfl (wn rfl) rfl (y_load_elem (i := k_2.toNat) 0 Try.isAgg3 rfl rfl reads_row (map_get hxx1)) ⟨(se (sn)), ?_⟩
   exact any_weak2 (hK8 ()) [0] (by kernel_rfl) (qv6 rfl rfl rfl rfl rfl rfl) (by decide) rfl
  exact anyo_nil
 refine any_cut2 #[true, true, true, true, true, true, true, true, true, true, false, false, false, false, false, false] 6 (Unit) (fun σ => [(6, h_0v), (7, .int .i64 i_1), (8, h_0v), (9, .int .i64 k_2), (14, h_0v), (15, .int .i64 i_1), (13, .int .i64 x1)]) (fun σ => [row h_0v 1 (h_0.map (eInt .i64))]) ?_ (fun hK11 => ?_)
 ·rintro _
  change AnyL _ _ _ _ _ (VF.of [(6, h_0v), (7, .int .i64 i_1), (8, h_0v), (9, .int .i64 k_2), (14, h_0v), (15, .int .i64 i_1), (13, .int .i64 x1)]) [row h_0v 1 (h_0.map (eInt .i64))] _
  refine any_all [10] (by kernel_rfl) rfl ?_
  refine anyo_cons ?_ ?_
  ·
   refine any_ty rfl (wn rfl) rfl (y_indexAddrI (kd := .i64) (i := i_1) 0 Try.runUnderlying73 Try.sizeOf3 rfl rfl rfl reads_row hzx2 (map_lt hlx2)) ⟨(se (sn)), ?_⟩
   exact any_weak2 (hK9 ()) [0] (by kernel_rfl) (qv6 rfl rfl rfl rfl rfl rfl) (by decide) rfl
  exact anyo_nil
 refine any_cut2 #[true, true, true, true, true, true, true, false, true, true, true, false, false, false, false, false] 6 (Unit) (fun σ => [(6, h_0v), (7, .int .i64 i_1), (8, h_0v), (9, .int .i64 k_2), (12, elemP h_0v (k_2.toNat * 1)), (16, elemP h_0v (i_1.toNat * 1))]) (fun σ => [row h_0v 1 (h_0.map (eInt .i64))]) ?_ (fun hK12 => ?_)
 ·rintro _
  change AnyL _ _ _ _ _ (VF.of [(6, h_0v), (7, .int .i64 i_1), (8, h_0v), (9, .int .i64 k_2), (12, elemP h_0v (k_2.toNat * 1)), (16, elemP h_0v (i_1.toNat * 1))]) [row h_0v 1 (h_0.map (eInt .i64))] _
  refine any_all [7, 11] (by kernel_rfl) rfl ?_
  refine anyo_cons ?_ ?_
  ·
   refine any_ty rfl (wn rfl) rfl (y_load_elem (i := k_2.toNat) 0 Try.isAgg3 rfl rfl reads_row (map_get hxx1)) ⟨(se (sn)), ?_⟩
   exact any_weak2 (hK9 ()) [0] (by kernel_rfl) (qv6 rfl rfl rfl rfl rfl rfl) (by decide) rfl
  refine anyo_cons ?_ ?_
  ·
   refine any_ty rfl (wn rfl) rfl (y_load_elem (i := i_1.toNat) 0 Try.isAgg3 rfl rfl reads_row (map_get hxx2)) ⟨(se (sn)), ?_⟩
   exact any_weak2 (hK10 ()) [0] (by kernel_rfl) (qv6 rfl rfl rfl rfl rfl rfl) (by decide) rfl
  exact anyo_nil
 refine any_cut2 #[true, true, true, true, true, true, false, false, true, true, true, true, false, false, false, false] 6 (Unit) (fun σ => [(6, h_0v), (7, .int .i64 i_1), (8, h_0v), (9, .int .i64 k_2), (10, h_0v), (11, .int .i64 k_2), (17, .int .i64 x2)]) (fun σ => [row h_0v 1 (h_0.map (eInt .i64))]) ?_ (fun hK13 => ?_)
 ·rintro _
  change AnyL _ _ _ _ _ (VF.of [(6, h_0v), (7, .int .i64 i_1), (8, h_0v), (9, .int .i64 k_2), (10, h_0v), (11, .int .i64 k_2), (17, .int .i64 x2)]) [row h_0v 1 (h_0.map (eInt .i64))] _
  refine any_all [6] (by kernel_rfl) rfl ?_
  refine anyo_cons ?_ ?_
  ·
   refine any_ty rfl (wn rfl) rfl (y_indexAddrI (kd := .i64) (i := k_2) 0 Try.runUnderlying73 Try.sizeOf3 rfl rfl rfl reads_row hzx1 (map_lt hlx1)) ⟨(se (sn)), ?_⟩
   exact any_weak2 (hK10 ()) [0] (by kernel_rfl) (qv6 rfl rfl rfl rfl rfl rfl) (by decide) rfl
  exact anyo_nil
 refine any_cut2 #[true, true, true, true, true, true, true, false, true, true, false, false, false, false, false, false] 7 (Unit) (fun σ => [(6, h_0v), (7, .int .i64 i_1), (8, h_0v), (9, .int .i64 k_2), (14, h_0v), (15, .int .i64 i_1), (12, elemP h_0v (k_2.toNat * 1))]) (fun σ => [row h_0v 1 (h_0.map (eInt .i64))]) ?_ (fun hK14 => ?_)
 ·rintro _
  change AnyL _ _ _ _ _ (VF.of [(6, h_0v), (7, .int .i64 i_1), (8, h_0v), (9, .int .i64 k_2), (14, h_0v), (15, .int .i64 i_1), (12, elemP h_0v (k_2.toNat * 1))]) [row h_0v 1 (h_0.map (eInt .i64))] _
  refine any_all [7, 10] (by kernel_rfl) rfl ?_
  refine anyo_cons ?_ ?_
  ·
   refine any_ty rfl (wn rfl) rfl (y_load_elem (i := k_2.toNat) 0 Try.isAgg3 rfl rfl reads_row (map_get hxx1)) ⟨(se (sn)), ?_⟩
   exact any_weak2 (hK11 ()) [0] (by kernel_rfl) (qv7 rfl rfl rfl rfl rfl rfl rfl) (by decide) rfl
  refine anyo_cons ?_ ?_
  ·
   refine any_ty rfl (wn rfl) rfl (y_indexAddrI (kd := .i64) (i := i_1) 0 Try.runUnderlying73 Try.sizeOf3 rfl rfl rfl reads_row hzx2 (map_lt hlx2)) ⟨(se (sn)), ?_⟩
   exact any_weak2 (hK12 ()) [0] (by kernel_rfl) (qv6 rfl rfl rfl rfl rfl rfl) (by decide) rfl
  exact anyo_nil
 refine any_cut2 #[true, true, true, true, true, true, false, false, true, true, true, false, false, false, false, false] 7 (Unit) (fun σ => [(6, h_0v), (7, .int .i64 i_1), (8, h_0v), (9, .int .i64 k_2), (10, h_0v), (11, .int .i64 k_2), (16, elemP h_0v (i_1.toNat * 1))]) (fun σ => [row h_0v 1 (h_0.map (eInt .i64))]) ?_ (fun hK15 => ?_)
 ·rintro _
  change AnyL _ _ _ _ _ (VF.of [(6, h_0v), (7, .int .i64 i_1), (8, h_0v), (9, .int .i64 k_2), (10, h_0v), (11, .int .i64 k_2), (16, elemP h_0v (i_1.toNat * 1))]) [row h_0v 1 (h_0.map (eInt .i64))] _
  refine any_all [6, 11] (by kernel_rfl) rfl ?_
  refine anyo_cons ?_ ?_
  ·
   refine any_ty rfl (wn rfl) rfl (y_indexAddrI (kd := .i64) (i := k_2) 0 Try.runUnderlying73 Try.sizeOf3 rfl rfl rfl reads_row hzx1 (map_lt hlx1)) ⟨(se (sn)), ?_⟩
   exact any_weak2 (hK12 ()) [0] (by kernel_rfl) (qv6 rfl rfl rfl rfl rfl rfl) (by decide) rfl
  refine anyo_cons ?_ ?_
  ·
   refine any_ty rfl (wn rfl) rfl (y_load_elem (i := i_1.toNat) 0 Try.isAgg3 rfl rfl reads_row (map_get hxx2)) ⟨(se (sn)), ?_⟩
   exact any_weak2 (hK13 ()) [0] (by kernel_rfl) (qv7 rfl rfl rfl rfl rfl rfl rfl) (by decide) rfl
  exact anyo_nil
 refine any_all [6, 10] (by kernel_rfl) rfl ?_
 refine anyo_cons ?_ ?_
 ·
  refine any_ty rfl (wn rfl) rfl (y_indexAddrI (kd := .i64) (i := k_2) 0 Try.runUnderlying73 Try.sizeOf3 rfl rfl rfl reads_row hzx1 (map_lt hlx1)) ⟨(se (sn)), ?_⟩
  exact any_weak2 (hK14 ()) [0] (by kernel_rfl) (qv7 rfl rfl rfl rfl rfl rfl rfl) (by decide) rfl
 refine anyo_cons ?_ ?_
 ·
  refine any_ty rfl (wn rfl) rfl (y_indexAddrI (kd := .i64) (i := i_1) 0 Try.runUnderlying73 Try.sizeOf3 rfl rfl rfl reads_row hzx2 (map_lt hlx2)) ⟨(se (sn)), ?_⟩
  exact any_weak2 (hK15 ()) [0] (by kernel_rfl) (qv7 rfl rfl rfl rfl rfl rfl rfl) (by decide) rfl
 exact anyo_nil

def container_heap_up_59_L1 : (Int × (List Int)) → Option (Lp (Int × (List Int)) (List Int)) :=
 fun (j_1, x_2) =>
  bindJ (S := Bool)
   (cond (decide ((IntKind.i64.wrap ((IntKind.i64.wrap (j_1 - 1)).tdiv 2)) = j_1))
    (some (.go true))
    (obind (weirgate_graph_ints_Less_88 x_2 j_1 (IntKind.i64.wrap ((IntKind.i64.wrap (j_1 - 1)).tdiv 2))) fun r13 =>
    some (.go (!r13))))
  (fun b7 =>
   cond b7
    (some (.stop x_2))
    (obind (weirgate_graph_ints_Swap_91_v1 x_2 (IntKind.i64.wrap ((IntKind.i64.wrap (j_1 - 1)).tdiv 2)) j_1) fun r16 =>
    some (.go ((IntKind.i64.wrap ((IntKind.i64.wrap (j_1 - 1)).tdiv 2)), r16))))
def container_heap_up_59 (n : Nat) (h_0 : (List Int)) (j_1 : Int) : Option ((List Int)) :=
 iter (container_heap_up_59_L1) n (j_1, h_0)
theorem container_heap_up_59_ok (n : Nat) (h_0 : (List Int)) (j_1 : Int) (h_0b : Nat) (h_0v : Value) {r : (List Int)} (h : container_heap_up_59 n h_0 j_1 = some r) :
  Meets Try.prog 59 [.iface 72 (boxP h_0b 0), .int .i64 j_1] [row h_0v 1 (h_0.map (eInt .i64)), box h_0b [h_0v]] (fun v G => ∃ v0, v = .tuple #[] ∧ G = [row v0 1 (r.map (eInt .i64)), box h_0b [v0]]) := by
 refine fn_of_run Try.func59 rfl Try.ntmps59 rfl (fun w0 o0 => ?_)
 refine run_block ?_
 refine run_iter (step := container_heap_up_59_L1) (n := n) (s0 := (j_1, h_0)) h (G := Unit) () (fun σ γ => [(0, .iface 72 (boxP h_0b 0)), (1, .int .i64 σ.1)]) (fun σ γ => [box h_0b [h_0v], row h_0v 1 (σ.2.map (eInt .i64))]) [1, 0] (qv2 rfl rfl) (by decide) rfl ?_
 rintro ⟨j_1, x_2⟩ _ o3 h L6 hgo4 hstop5
 change Run _ _ _ (VF.of [(0, .iface 72 (boxP h_0b 0)), (1, .int .i64 j_1)]) [box h_0b [h_0v], row h_0v 1 (x_2.map (eInt .i64))]
 refine run_block ?_
 refine run_seq ?_
 refine run_region' ?_
 refine oy rfl rfl (y_move rfl) ?_
 refine oy rfl rfl (y_sub rfl rfl) ?_
 refine oy rfl rfl (y_quo rfl rfl (by decide)) ?_
 refine oy rfl rfl (y_assign rfl) ?_
 refine ops_nil ?_
 refine goes_code ?_
 refine run_seq ?_
 refine run_seq ?_
 refine run_region' ?_
 refine oy rfl rfl (y_move rfl) ?_
 refine oy rfl rfl (y_move rfl) ?_
 refine oy rfl rfl (y_eql rfl rfl) ?_
 refine oy rfl rfl (y_move rfl) ?_
 obtain ⟨o8, h, ho9⟩ := bindJ_some h
 refine ops_cut 6 (Bool) (fun σ => [(0, .iface 72 (boxP h_0b 0)), (1, .int .i64 j_1), (4, .int .i64 (IntKind.i64.wrap ((IntKind.i64.wrap (j_1 - 1)).tdiv 2))), (17, .bool σ)]) (fun σ => [box h_0b [h_0v], row h_0v 1 (x_2.map (eInt .i64))]) (fun σ => o8 = .go σ) (fun L10 hL11 => ?_) ?_
 ·refine ops_split 11 (decide ((IntKind.i64.wrap ((IntKind.i64.wrap (j_1 - 1)).tdiv 2)) = j_1)) rfl (fun hg12 => ?_) (fun hg12 => ?_)
  ·replace h := cond_t h hg12
   refine ops_no 3 false 11 rfl rfl rfl rfl rfl ?_
   refine ops_no 3 false 11 rfl rfl rfl rfl rfl ?_
   refine ops_no 3 false 11 rfl rfl rfl rfl rfl ?_
   refine ops_no 3 false 11 rfl rfl rfl rfl rfl ?_
   refine ops_no 3 false 11 rfl rfl rfl rfl rfl ?_
   refine oy rfl rfl (y_pick (b := true) rfl rfl) ?_
   refine ops_nil ?_
   obtain rfl := some_eq h
   exact goes_cut hL11 true [0, 1] (qv4 rfl rfl rfl rfl) (by decide) rfl rfl
  ·replace h := cond_f h hg12
   refine ops_y (wg 3 false 11 rfl rfl rfl rfl) rfl (y_move rfl) ?_
   refine ops_y (wg 3 false 11 rfl rfl rfl rfl) rfl (y_move rfl) ?_
   refine ops_y (wg 3 false 11 rfl rfl rfl rfl) rfl (y_move rfl) ?_
   obtain ⟨r13, hr14, h⟩ := obind_some h
   refine ops_t (wg 3 false 11 rfl rfl rfl rfl) rfl (t_invoke (vs := [.int .i64 j_1, .int .i64 (IntKind.i64.wrap ((IntKind.i64.wrap (j_1 - 1)).tdiv 2))]) [(1, 1)] rfl (fun _ _ _ hs => method_val Try.typeInfo72 rfl rfl rfl Try.runUnderlying72 (load_box 0 Try.isAgg73 rfl rfl hs)) Try.call88 rfl (weirgate_graph_ints_Less_88_ok x_2 j_1 (IntKind.i64.wrap ((IntKind.i64.wrap (j_1 - 1)).tdiv 2)) h_0v hr14) (showsX_look 1 rfl views_row showsX_nil) rfl (.inr (by rintro _ _ ⟨rfl, rfl⟩ g hg; first | (cases hg; done) | (simp only [List.mem_cons, List.not_mem_nil, or_false] at hg; first | (subst hg; first | exact strict_row | exact strict_box) | (rcases hg with rfl | rfl <;> first | exact strict_row | exact strict_box) | (rcases hg with rfl | rfl | rfl <;> first | exact strict_row | exact strict_box))))) ?_
   rintro _ _ ⟨_, ⟨rfl, rfl⟩, rfl⟩
   refine ops_y (wg 3 false 11 rfl rfl rfl rfl) rfl (y_not rfl) ?_
   refine oy rfl rfl (y_pick (b := false) rfl rfl) ?_
   refine ops_nil ?_
   obtain rfl := some_eq h
   exact goes_cut hL11 (!r13) [0, 1] (qv4 rfl rfl rfl rfl) (by decide) rfl rfl
 rintro b7 hj
 obtain rfl : o8 = _ := hj
 replace h := after_go ho9
 clear ho9
 refine ops_nil ?_
 refine goes_code ?_
 refine run_cond b7 rfl (fun hc15 => ?_) (fun hc15 => ?_)
 ·replace h := cond_t h hc15
  refine run_exit _ rfl ?_
  refine goes_nil ?_
  obtain rfl := some_eq h
  obtain rfl := hstop5 _ rfl
  refine fin_slots [] [] [1, 0] [row h_0v 1 (x_2.map (eInt .i64)), box h_0b [h_0v]] Try.results59 rfl (by decide) rfl ?_
  exact ⟨_, rfl, rfl⟩
 ·replace h := cond_f h hc15
  refine run_skip ?_
  refine goes_code ?_
  refine run_seq ?_
  refine run_region' ?_
  refine oy rfl rfl (y_move rfl) ?_
  refine oy rfl rfl (y_move rfl) ?_
  refine oy rfl rfl (y_move rfl) ?_
  obtain ⟨r16, hr17, h⟩ := obind_some h
  refine ot rfl rfl (t_invoke (vs := [.int .i64 (IntKind.i64.wrap ((IntKind.i64.wrap (j_1 - 1)).tdiv 2)), .int .i64 j_1]) [(1, 2)] rfl (fun _ _ _ hs => method_val Try.typeInfo72 rfl rfl rfl Try.runUnderlying72 (load_box 0 Try.isAgg73 rfl rfl hs)) Try.call91 rfl (weirgate_graph_ints_Swap_91_v1_ok x_2 (IntKind.i64.wrap ((IntKind.i64.wrap (j_1 - 1)).tdiv 2)) j_1 h_0v hr17) (showsX_lend 1 rfl showsX_nil) rfl (.inl rfl)) ?_
  rintro _ _ ⟨_, ⟨rfl, rfl⟩, rfl⟩
  refine ops_nil ?_
  refine goes_code ?_
  refine run_region' ?_
  refine oy rfl rfl (y_move rfl) ?_
  refine oy rfl rfl (y_assign rfl) ?_
  refine ops_nil ?_
  refine goes_blk ?_
  obtain rfl := some_eq h
  exact goes_iter hgo4 ((IntKind.i64.wrap ((IntKind.i64.wrap (j_1 - 1)).tdiv 2)), r16) () [0, 2] rfl (qv2 rfl rfl) (by decide) rfl

def container_heap_Push_36 (n : Nat) (h_0 : (List Int)) (x_1 : Int) : Option ((List Int)) :=
 obind (weirgate_graph_ints_Push_90 h_0 x_1) fun r1 =>
 obind (weirgate_graph_ints_Len_37 r1) fun r4 =>
 obind (container_heap_up_59 n r1 (IntKind.i64.wrap (r4 - 1))) fun r6 =>
 some r6
theorem container_heap_Push_36_ok (n : Nat) (h_0 : (List Int)) (x_1 : Int) (h_0b : Nat) (h_0v : Value) {r : (List Int)} (h : container_heap_Push_36 n h_0 x_1 = some r) :
  Meets Try.prog 36 [.iface 72 (boxP h_0b 0), .iface 3 (.int .i64 x_1)] [row h_0v 1 (h_0.map (eInt .i64)), box h_0b [h_0v]] (fun v G => ∃ v0, v = .tuple #[] ∧ G = [row v0 1 (r.map (eInt .i64)), box h_0b [v0]]) := by
 refine fn_of_run Try.func36 rfl Try.ntmps36 rfl (fun w0 o0 => ?_)
 refine run_seq ?_
 refine run_region' ?_
 refine oy rfl rfl (y_move rfl) ?_
 refine oy rfl rfl (y_move rfl) ?_
 obtain ⟨r1, hr2, h⟩ := obind_some h
 refine ot rfl rfl (t_invoke (vs := [.iface 3 (.int .i64 x_1)]) [(0, 2), (1, 2)] rfl (fun _ _ _ _ => method_ptr Try.typeInfo72 rfl rfl rfl Try.runUnderlying72) Try.call90 rfl (weirgate_graph_ints_Push_90_ok h_0 x_1 h_0b h_0v hr2) (showsX_lend 0 rfl (showsX_lend 1 rfl showsX_nil)) rfl (.inl rfl)) ?_
 rintro _ _ ⟨_, ⟨v3, rfl, rfl⟩, rfl⟩
 refine ops_nil ?_
 refine goes_code ?_
 refine run_region' ?_
 refine oy rfl rfl (y_move rfl) ?_
 refine oy rfl rfl (y_move rfl) ?_
 obtain ⟨r4, hr5, h⟩ := obind_some h
 refine ot rfl rfl (t_invoke (vs := []) [(2, 1)] rfl (fun _ _ _ hs => method_val Try.typeInfo72 rfl rfl rfl Try.runUnderlying72 (load_box 3 Try.isAgg73 rfl rfl hs)) Try.call37 rfl (weirgate_graph_ints_Len_37_ok r1 v3 hr5) (showsX_look 2 rfl views_row showsX_nil) rfl (.inr (by rintro _ _ ⟨rfl, rfl⟩ g hg; first | (cases hg; done) | (simp only [List.mem_cons, List.not_mem_nil, or_false] at hg; first | (subst hg; first | exact strict_row | exact strict_box) | (rcases hg with rfl | rfl <;> first | exact strict_row | exact strict_box) | (rcases hg with rfl | rfl | rfl <;> first | exact strict_row | exact strict_box))))) ?_
 rintro _ _ ⟨_, ⟨rfl, rfl⟩, rfl⟩
 refine oy rfl rfl (y_sub rfl rfl) ?_
 obtain ⟨r6, hr7, h⟩ := obind_some h
 refine ot rfl rfl (t_callx (vs := [.iface 72 (boxP h_0b 0), .int .i64 (IntKind.i64.wrap (r4 - 1))]) (cs := []) [(2, 2), (3, 2)] rfl Try.call59 rfl (container_heap_up_59_ok n r1 (IntKind.i64.wrap (r4 - 1)) h_0b v3 hr7) (showsX_lend 2 rfl (showsX_lend 3 rfl showsX_nil)) rfl (.inl rfl)) ?_
 rintro _ _ ⟨_, ⟨v8, rfl, rfl⟩, rfl⟩
 refine ops_nil ?_
 refine goes_nil ?_
 obtain rfl := some_eq h
 refine fin_slots [] [] [4, 5] [row v8 1 (r6.map (eInt .i64)), box h_0b [v8]] Try.results36 rfl (by decide) rfl ?_
 exact ⟨_, rfl, rfl⟩

def container_heap_down_60_L1 (n_2 : Int) : (Int × (List Int)) → Option (Lp (Int × (List Int)) (Lp (Int × (List Int)) (Bool × (List Int)))) :=
 fun (i_7, x_8) =>
  cond (decide (n_2 ≤ (IntKind.i64.wrap ((IntKind.i64.wrap (2 * i_7)) + 1))) || decide ((IntKind.i64.wrap ((IntKind.i64.wrap (2 * i_7)) + 1)) < 0))
   (some (.stop (.go (i_7, x_8))))
   (bindJ (S := Int)
    (bindJ (S := Bool)
     (cond (decide ((IntKind.i64.wrap ((IntKind.i64.wrap ((IntKind.i64.wrap (2 * i_7)) + 1)) + 1)) < n_2))
      (obind (weirgate_graph_ints_Less_88 x_8 (IntKind.i64.wrap ((IntKind.i64.wrap ((IntKind.i64.wrap (2 * i_7)) + 1)) + 1)) (IntKind.i64.wrap ((IntKind.i64.wrap (2 * i_7)) + 1))) fun r28 =>
      some (.go r28))
      (some (.go false)))
    (fun b22 =>
     cond b22
      (some (.go (IntKind.i64.wrap ((IntKind.i64.wrap ((IntKind.i64.wrap (2 * i_7)) + 1)) + 1))))
      (some (.go (IntKind.i64.wrap ((IntKind.i64.wrap (2 * i_7)) + 1))))))
   (fun j_17 =>
    obind (weirgate_graph_ints_Less_88 x_8 j_17 i_7) fun r31 =>
    cond (!r31)
     (some (.stop (.go (i_7, x_8))))
     (obind (weirgate_graph_ints_Swap_91_v1 x_8 i_7 j_17) fun r34 =>
     some (.go (j_17, r34)))))
def container_heap_down_60 (n : Nat) (h_0 : (List Int)) (i0_1 : Int) (n_2 : Int) : Option (Bool × (List Int)) :=
 bindJ (S := Int × (List Int))
  (iter (container_heap_down_60_L1 n_2) n (i0_1, h_0))
 (fun (i_1, x_2) =>
  some (decide (i0_1 < i_1), x_2))
theorem container_heap_down_60_ok (n : Nat) (h_0 : (List Int)) (i0_1 : Int) (n_2 : Int) (h_0b : Nat) (h_0v : Value) {r : Bool × (List Int)} (h : container_heap_down_60 n h_0 i0_1 n_2 = some r) :
  Meets Try.prog 60 [.iface 72 (boxP h_0b 0), .int .i64 i0_1, .int .i64 n_2] [row h_0v 1 (h_0.map (eInt .i64)), box h_0b [h_0v]] (fun v G => ∃ v0, v = .bool r.1 ∧ G = [row v0 1 (r.2.map (eInt .i64)), box h_0b [v0]]) := by
 refine fn_of_run Try.func60 rfl Try.ntmps60 rfl (fun w0 o0 => ?_)
 refine run_seq ?_
 refine run_region' ?_
 refine oy rfl rfl (y_assign rfl) ?_
 refine ops_nil ?_
 refine goes_code ?_
 refine run_seq ?_
 refine run_region' ?_
 refine oy rfl rfl (y_move rfl) ?_
 refine oy rfl rfl (y_assign rfl) ?_
 refine ops_nil ?_
 refine goes_code ?_
 obtain ⟨o3, h, ho4⟩ := bindJ_some h
 refine run_cut ((Int × (List Int)) × (Unit)) (fun σ => [(1, .int .i64 i0_1), (7, .int .i64 σ.1.1)]) (fun σ => [box h_0b [h_0v], row h_0v 1 (σ.1.2.map (eInt .i64))]) (fun σ => o3 = .go σ.1) (fun L6 hL5 => ?_) ?_
 ·
  refine run_block ?_
  refine run_iter (step := container_heap_down_60_L1 n_2) (n := n) (s0 := (i0_1, h_0)) h (G := Unit) () (fun σ γ => [(0, .iface 72 (boxP h_0b 0)), (1, .int .i64 i0_1), (2, .int .i64 n_2), (7, .int .i64 σ.1)]) (fun σ γ => [box h_0b [h_0v], row h_0v 1 (σ.2.map (eInt .i64))]) [1, 0] (qv4 rfl rfl rfl rfl) (by decide) rfl ?_
  rintro ⟨i_7, x_8⟩ _ o9 h L12 hgo10 hstop11
  change Run _ _ _ (VF.of [(0, .iface 72 (boxP h_0b 0)), (1, .int .i64 i0_1), (2, .int .i64 n_2), (7, .int .i64 i_7)]) [box h_0b [h_0v], row h_0v 1 (x_8.map (eInt .i64))]
  refine run_block ?_
  refine run_seq ?_
  refine run_region' ?_
  refine oy rfl rfl (y_move rfl) ?_
  refine oy rfl rfl (y_mul rfl rfl) ?_
  refine oy rfl rfl (y_add rfl rfl) ?_
  refine oy rfl rfl (y_assign rfl) ?_
  refine ops_nil ?_
  refine goes_code ?_
  refine run_seq ?_
  refine run_seq ?_
  refine run_region' ?_
  refine oy rfl rfl (y_move rfl) ?_
  refine oy rfl rfl (y_move rfl) ?_
  refine oy rfl rfl (y_geq rfl rfl) ?_
  refine oy rfl rfl (y_move rfl) ?_
  refine ops_cut 3 (Bool) (fun σ => [(0, .iface 72 (boxP h_0b 0)), (1, .int .i64 i0_1), (2, .int .i64 n_2), (7, .int .i64 i_7), (8, .int .i64 (IntKind.i64.wrap ((IntKind.i64.wrap (2 * i_7)) + 1))), (21, .bool σ)]) (fun σ => [box h_0b [h_0v], row h_0v 1 (x_8.map (eInt .i64))]) (fun σ => σ = (decide (n_2 ≤ (IntKind.i64.wrap ((IntKind.i64.wrap (2 * i_7)) + 1))) || decide ((IntKind.i64.wrap ((IntKind.i64.wrap (2 * i_7)) + 1)) < 0))) (fun L13 hL14 => ?_) ?_
  ·refine ops_split 18 (decide (n_2 ≤ (IntKind.i64.wrap ((IntKind.i64.wrap (2 * i_7)) + 1)))) rfl (fun hg15 => ?_) (fun hg15 => ?_)
   ·skip
    refine ops_no 3 false 18 rfl rfl rfl rfl rfl ?_
    refine ops_no 3 false 18 rfl rfl rfl rfl rfl ?_
    refine oy rfl rfl (y_pick (b := true) rfl rfl) ?_
    refine ops_nil ?_
    exact goes_cut hL14 true [0, 1] (qv6 rfl rfl rfl rfl rfl rfl) (by decide) rfl (by rw [hg15]; simp)
   ·skip
    refine ops_y (wg 3 false 18 rfl rfl rfl rfl) rfl (y_move rfl) ?_
    refine ops_y (wg 3 false 18 rfl rfl rfl rfl) rfl (y_lss rfl rfl) ?_
    refine oy rfl rfl (y_pick (b := false) rfl rfl) ?_
    refine ops_nil ?_
    exact goes_cut hL14 (decide ((IntKind.i64.wrap ((IntKind.i64.wrap (2 * i_7)) + 1)) < 0)) [0, 1] (qv6 rfl rfl rfl rfl rfl rfl) (by decide) rfl (by rw [hg15]; simp)
  rintro _ rfl
  refine ops_nil ?_
  refine goes_code ?_
  refine run_cond (decide (n_2 ≤ (IntKind.i64.wrap ((IntKind.i64.wrap (2 * i_7)) + 1))) || decide ((IntKind.i64.wrap ((IntKind.i64.wrap (2 * i_7)) + 1)) < 0)) rfl (fun hc16 => ?_) (fun hc16 => ?_)
  ·replace h := cond_t h hc16
   refine run_exit _ rfl ?_
   obtain rfl := some_eq h
   obtain rfl := hstop11 _ rfl
   exact goes_cut hL5 ((i_7, x_8), ()) [0, 1] (qv2 rfl rfl) (by decide) rfl rfl
  ·replace h := cond_f h hc16
   refine run_skip ?_
   refine goes_code ?_
   refine run_seq ?_
   refine run_region' ?_
   refine oy rfl rfl (y_move rfl) ?_
   refine oy rfl rfl (y_assign rfl) ?_
   refine ops_nil ?_
   refine goes_code ?_
   obtain ⟨o18, h, ho19⟩ := bindJ_some h
   refine run_cut ((Int) × (Unit)) (fun σ => [(0, .iface 72 (boxP h_0b 0)), (1, .int .i64 i0_1), (2, .int .i64 n_2), (7, .int .i64 i_7), (9, .int .i64 σ.1)]) (fun σ => [box h_0b [h_0v], row h_0v 1 (x_8.map (eInt .i64))]) (fun σ => o18 = .go σ.1) (fun L21 hL20 => ?_) ?_
   ·
    refine run_seq ?_
    refine run_region' ?_
    refine oy rfl rfl (y_move rfl) ?_
    refine oy rfl rfl (y_add rfl rfl) ?_
    refine oy rfl rfl (y_assign rfl) ?_
    refine ops_nil ?_
    refine goes_code ?_
    refine run_seq ?_
    refine run_region' ?_
    refine oy rfl rfl (y_move rfl) ?_
    refine oy rfl rfl (y_move rfl) ?_
    refine oy rfl rfl (y_lss rfl rfl) ?_
    refine oy rfl rfl (y_move rfl) ?_
    obtain ⟨o23, h, ho24⟩ := bindJ_some h
    refine ops_cut 5 (Bool) (fun σ => [(0, .iface 72 (boxP h_0b 0)), (1, .int .i64 i0_1), (2, .int .i64 n_2), (7, .int .i64 i_7), (9, .int .i64 (IntKind.i64.wrap ((IntKind.i64.wrap (2 * i_7)) + 1))), (10, .int .i64 (IntKind.i64.wrap ((IntKind.i64.wrap ((IntKind.i64.wrap (2 * i_7)) + 1)) + 1))), (33, .bool σ)]) (fun σ => [box h_0b [h_0v], row h_0v 1 (x_8.map (eInt .i64))]) (fun σ => o23 = .go σ) (fun L25 hL26 => ?_) ?_
    ·refine ops_split 28 (decide ((IntKind.i64.wrap ((IntKind.i64.wrap ((IntKind.i64.wrap (2 * i_7)) + 1)) + 1)) < n_2)) rfl (fun hg27 => ?_) (fun hg27 => ?_)
     ·replace h := cond_t h hg27
      refine ops_y (wg 3 true 28 rfl rfl rfl rfl) rfl (y_move rfl) ?_
      refine ops_y (wg 3 true 28 rfl rfl rfl rfl) rfl (y_move rfl) ?_
      refine ops_y (wg 3 true 28 rfl rfl rfl rfl) rfl (y_move rfl) ?_
      obtain ⟨r28, hr29, h⟩ := obind_some h
      refine ops_t (wg 3 true 28 rfl rfl rfl rfl) rfl (t_invoke (vs := [.int .i64 (IntKind.i64.wrap ((IntKind.i64.wrap ((IntKind.i64.wrap (2 * i_7)) + 1)) + 1)), .int .i64 (IntKind.i64.wrap ((IntKind.i64.wrap (2 * i_7)) + 1))]) [(1, 1)] rfl (fun _ _ _ hs => method_val Try.typeInfo72 rfl rfl rfl Try.runUnderlying72 (load_box 0 Try.isAgg73 rfl rfl hs)) Try.call88 rfl (weirgate_graph_ints_Less_88_ok x_8 (IntKind.i64.wrap ((IntKind.i64.wrap ((IntKind.i64.wrap (2 * i_7)) + 1)) + 1)) (IntKind.i64.wrap ((IntKind.i64.wrap (2 * i_7)) + 1)) h_0v hr29) (showsX_look 1 rfl views_row showsX_nil) rfl (.inr (by rintro _ _ ⟨rfl, rfl⟩ g hg; first | (cases hg; done) | (simp only [List.mem_cons, List.not_mem_nil, or_false] at hg; first | (subst hg; first | exact strict_row | exact strict_box) | (rcases hg with rfl | rfl <;> first | exact strict_row | exact strict_box) | (rcases hg with rfl | rfl | rfl <;> first | exact strict_row | exact strict_box))))) ?_
      rintro _ _ ⟨_, ⟨rfl, rfl⟩, rfl⟩
      refine oy rfl rfl (y_pick (b := true) rfl rfl) ?_
      refine ops_nil ?_
      obtain rfl := some_eq h
      exact goes_cut hL26 r28 [0, 1] (qv7 rfl rfl rfl rfl rfl rfl rfl) (by decide) rfl rfl
     ·replace h := cond_f h hg27
      refine ops_no 3 true 28 rfl rfl rfl rfl rfl ?_
      refine ops_no 3 true 28 rfl rfl rfl rfl rfl ?_
      refine ops_no 3 true 28 rfl rfl rfl rfl rfl ?_
      refine ops_no 3 true 28 rfl rfl rfl rfl rfl ?_
      refine oy rfl rfl (y_pick (b := false) rfl rfl) ?_
      refine ops_nil ?_
      obtain rfl := some_eq h
      exact goes_cut hL26 false [0, 1] (qv7 rfl rfl rfl rfl rfl rfl rfl) (by decide) rfl rfl
    rintro b22 hj
    obtain rfl : o23 = _ := hj
    replace h := after_go ho24
    clear ho24
    refine ops_nil ?_
    refine goes_code ?_
    refine run_cond b22 rfl (fun hc30 => ?_) (fun hc30 => ?_)
    ·replace h := cond_t h hc30
     refine run_region' ?_
     refine oy rfl rfl (y_move rfl) ?_
     refine oy rfl rfl (y_assign rfl) ?_
     refine ops_nil ?_
     obtain rfl := some_eq h
     exact goes_cut hL20 ((IntKind.i64.wrap ((IntKind.i64.wrap ((IntKind.i64.wrap (2 * i_7)) + 1)) + 1)), ()) [0, 1] (qv5 rfl rfl rfl rfl rfl) (by decide) rfl rfl
    ·replace h := cond_f h hc30
     refine run_skip ?_
     obtain rfl := some_eq h
     exact goes_cut hL20 ((IntKind.i64.wrap ((IntKind.i64.wrap (2 * i_7)) + 1)), ()) [0, 1] (qv5 rfl rfl rfl rfl rfl) (by decide) rfl rfl
   rintro ⟨j_17, _⟩ hj
   obtain rfl : o18 = _ := hj
   replace h := after_go ho19
   clear ho19
   change Run _ _ _ (VF.of [(0, .iface 72 (boxP h_0b 0)), (1, .int .i64 i0_1), (2, .int .i64 n_2), (7, .int .i64 i_7), (9, .int .i64 j_17)]) [box h_0b [h_0v], row h_0v 1 (x_8.map (eInt .i64))]
   refine run_seq ?_
   refine run_seq ?_
   refine run_region' ?_
   refine oy rfl rfl (y_move rfl) ?_
   refine oy rfl rfl (y_move rfl) ?_
   refine oy rfl rfl (y_move rfl) ?_
   obtain ⟨r31, hr32, h⟩ := obind_some h
   refine ot rfl rfl (t_invoke (vs := [.int .i64 j_17, .int .i64 i_7]) [(1, 1)] rfl (fun _ _ _ hs => method_val Try.typeInfo72 rfl rfl rfl Try.runUnderlying72 (load_box 0 Try.isAgg73 rfl rfl hs)) Try.call88 rfl (weirgate_graph_ints_Less_88_ok x_8 j_17 i_7 h_0v hr32) (showsX_look 1 rfl views_row showsX_nil) rfl (.inr (by rintro _ _ ⟨rfl, rfl⟩ g hg; first | (cases hg; done) | (simp only [List.mem_cons, List.not_mem_nil, or_false] at hg; first | (subst hg; first | exact strict_row | exact strict_box) | (rcases hg with rfl | rfl <;> first | exact strict_row | exact strict_box) | (rcases hg with rfl | rfl | rfl <;> first | exact strict_row | exact strict_box))))) ?_
   rintro _ _ ⟨_, ⟨rfl, rfl⟩, rfl⟩
   refine oy rfl rfl (y_not rfl) ?_
   refine ops_nil ?_
   refine goes_code ?_
   refine run_cond (!r31) rfl (fun hc33 => ?_) (fun hc33 => ?_)
   ·replace h := cond_t h hc33
    refine run_exit _ rfl ?_
    obtain rfl := some_eq h
    obtain rfl := hstop11 _ rfl
    exact goes_cut hL5 ((i_7, x_8), ()) [0, 1] (qv2 rfl rfl) (by decide) rfl rfl
   ·replace h := cond_f h hc33
    refine run_skip ?_
    refine goes_code ?_
    refine run_seq ?_
    refine run_region' ?_
    refine oy rfl rfl (y_move rfl) ?_
    refine oy rfl rfl (y_move rfl) ?_
    refine oy rfl rfl (y_move rfl) ?_
    obtain ⟨r34, hr35, h⟩ := obind_some h
    refine ot rfl rfl (t_invoke (vs := [.int .i64 i_7, .int .i64 j_17]) [(1, 2)] rfl (fun _ _ _ hs => method_val Try.typeInfo72 rfl rfl rfl Try.runUnderlying72 (load_box 0 Try.isAgg73 rfl rfl hs)) Try.call91 rfl (weirgate_graph_ints_Swap_91_v1_ok x_8 i_7 j_17 h_0v hr35) (showsX_lend 1 rfl showsX_nil) rfl (.inl rfl)) ?_
    rintro _ _ ⟨_, ⟨rfl, rfl⟩, rfl⟩
    refine ops_nil ?_
    refine goes_code ?_
    refine run_weak [(0, .iface 72 (boxP h_0b 0)), (1, .int .i64 i0_1), (2, .int .i64 n_2), (9, .int .i64 j_17)] [0, 2] [box h_0b [h_0v], row h_0v 1 (r34.map (eInt .i64))] (qv4 rfl rfl rfl rfl) (by decide) rfl ?_
    refine run_region' ?_
    refine oy rfl rfl (y_move rfl) ?_
    refine oy rfl rfl (y_assign rfl) ?_
    refine ops_nil ?_
    refine goes_blk ?_
    obtain rfl := some_eq h
    exact goes_iter hgo10 (j_17, r34) () [0, 1] rfl (qv4 rfl rfl rfl rfl) (by decide) rfl
 rintro ⟨⟨i_1, x_2⟩, _⟩ hj
 obtain rfl : o3 = _ := hj
 replace h := after_go ho4
 clear ho4
 change Run _ _ _ (VF.of [(1, .int .i64 i0_1), (7, .int .i64 i_1)]) [box h_0b [h_0v], row h_0v 1 (x_2.map (eInt .i64))]
 refine run_seq ?_
 refine run_region' ?_
 refine oy rfl rfl (y_move rfl) ?_
 refine oy rfl rfl (y_move rfl) ?_
 refine oy rfl rfl (y_gtr rfl rfl) ?_
 refine oy rfl rfl (y_assign rfl) ?_
 refine ops_nil ?_
 refine goes_code ?_
 refine run_ret ?_
 obtain rfl := some_eq h
 refine fin_slots [6] [.bool (decide (i0_1 < i_1))] [1, 0] [row h_0v 1 (x_2.map (eInt .i64)), box h_0b [h_0v]] Try.results60 rfl (by decide) rfl ?_
 exact ⟨_, rfl, rfl⟩

def weirgate_graph_ints_Pop_89 (h_0 : (List Int)) : Option (Int × (List Int)) :=
 idx h_0 (IntKind.i64.wrap ((h_0.length : Int) - 1)) fun x1 =>
 need (0 ≤ (0 : Int) ∧ 0 ≤ (IntKind.i64.wrap ((h_0.length : Int) - 1)) ∧ (IntKind.i64.wrap ((h_0.length : Int) - 1)) ≤ (h_0.length : Int)) (
 some (x1, (h_0.take (((IntKind.i64.wrap ((h_0.length : Int) - 1))).toNat))))
theorem weirgate_graph_ints_Pop_89_ok (h_0 : (List Int)) (h_0b : Nat) (h_0v : Value) {r : Int × (List Int)} (h : weirgate_graph_ints_Pop_89 h_0 = some r) :
  Meets Try.prog 89 [boxP h_0b 0] [row h_0v 1 (h_0.map (eInt .i64)), box h_0b [h_0v]] (fun v G => ∃ v0, v = .iface 3 (.int .i64 r.1) ∧ G = [row v0 1 (r.2.map (eInt .i64)), box h_0b [v0]]) := by
 refine fn_of_run Try.func89 rfl Try.ntmps89 rfl (fun w0 o0 => ?_)
 refine run_seq ?_
 refine run_region' ?_
 refine oy rfl rfl (y_assign rfl) ?_
 refine ops_nil ?_
 refine goes_code ?_
 refine run_seq ?_
 refine run_region' ?_
 refine oy rfl rfl (y_move rfl) ?_
 refine oy rfl rfl (y_nilBox rfl) ?_
 refine oy rfl rfl (y_load_box 1 Try.isAgg73 rfl rfl rfl) ?_
 refine oy rfl rfl (y_assign rfl) ?_
 refine ops_nil ?_
 refine goes_code ?_
 refine run_seq ?_
 refine run_region' ?_
 refine oy rfl rfl (y_move rfl) ?_
 refine oy rfl rfl (y_move rfl) ?_
 refine oy rfl rfl ((y_len 0 rfl Try.runUnderlying73 rfl rfl reads_row).to (v_len (eInt .i64) _)) ?_
 refine oy rfl rfl (y_sub rfl rfl) ?_
 obtain ⟨x1, hzx1, hlx1, hxx1, h⟩ := idx_some h
 refine oy rfl rfl (y_indexAddrI (kd := .i64) (i := (IntKind.i64.wrap ((h_0.length : Int) - 1))) 0 Try.runUnderlying73 Try.sizeOf3 rfl rfl rfl reads_row hzx1 (map_lt hlx1)) ?_
 refine oy rfl rfl (y_load_elem (i := ((IntKind.i64.wrap ((h_0.length : Int) - 1))).toNat) 0 Try.isAgg3 rfl rfl reads_row (map_get hxx1)) ?_
 refine oy rfl rfl (y_assign rfl) ?_
 refine ops_nil ?_
 refine goes_code ?_
 refine run_seq ?_
 refine run_weak [(0, boxP h_0b 0), (3, h_0v), (4, .int .i64 x1)] [0, 1] [row h_0v 1 (h_0.map (eInt .i64)), box h_0b [h_0v]] (qv3 rfl rfl rfl) (by decide) rfl ?_
 refine run_region' ?_
 refine oy rfl rfl (y_move rfl) ?_
 refine oy rfl rfl (y_move rfl) ?_
 refine oy rfl rfl (y_move rfl) ?_
 refine oy rfl rfl ((y_len 0 rfl Try.runUnderlying73 rfl rfl reads_row).to (v_len (eInt .i64) _)) ?_
 refine oy rfl rfl (y_sub rfl rfl) ?_
 obtain ⟨hb2, h⟩ := need_some h
 refine oy rfl rfl (y_slice (l := 0) (r := (IntKind.i64.wrap ((h_0.length : Int) - 1))) 0 Try.runUnderlying73 Try.sizeOf3 rfl rfl reads_row bi0 (bi1 (kd := .i64) rfl) hb2.1 hb2.2.1 (map_len_le hb2.2.2)) ?_
 refine oy rfl rfl (y_nilBox rfl) ?_
 refine ops_turn (turn_subrow (l := (0 : Int).toNat) (r := ((IntKind.i64.wrap ((h_0.length : Int) - 1))).toNat) 0 rfl (by omega) (map_toNat_le hb2.2.2)) ?_
 refine ops_turn (retell 0 (g := row (subS h_0v 1 ((0 : Int).toNat) (((IntKind.i64.wrap ((h_0.length : Int) - 1))).toNat)) 1 ((h_0.take (((IntKind.i64.wrap ((h_0.length : Int) - 1))).toNat)).map (eInt .i64))) rfl (congrArg (row _ _) (sub_hi _ _ _))) ?_
 refine ops_slc 0 rfl reads_row (fun hs3 hs3o => ?_)
 refine ot rfl rfl (t_store 1 Try.sizeOf73 rfl rfl rfl (by rw [hs3]; rfl) (by simp [Value.cells, boxP]) (by rw [hs3]; intro u hu; replace hu : u ∈ ([(subS h_0v 1 ((0 : Int).toNat) (((IntKind.i64.wrap ((h_0.length : Int) - 1))).toNat))] : List Value) := hu; simp only [List.mem_cons, List.not_mem_nil, or_false] at hu; rcases hu with rfl <;> first | rfl | assumption)) ?_
 rintro _ _ ⟨rfl, rfl⟩
 refine ops_turn (retell 1 (g := box h_0b [(subS h_0v 1 ((0 : Int).toNat) (((IntKind.i64.wrap ((h_0.length : Int) - 1))).toNat))]) rfl (by rw [hs3]; rfl)) ?_
 refine ops_nil ?_
 refine goes_code ?_
 refine run_seq ?_
 refine run_weak [(4, .int .i64 x1)] [0, 1] [row (subS h_0v 1 ((0 : Int).toNat) (((IntKind.i64.wrap ((h_0.length : Int) - 1))).toNat)) 1 ((h_0.take (((IntKind.i64.wrap ((h_0.length : Int) - 1))).toNat)).map (eInt .i64)), box h_0b [(subS h_0v 1 ((0 : Int).toNat) (((IntKind.i64.wrap ((h_0.length : Int) - 1))).toNat))]] (qv1 rfl) (by decide) rfl ?_
 refine run_region' ?_
 refine oy rfl rfl (y_move rfl) ?_
 refine oy rfl rfl (y_mkIface Try.runUnderlying3 rfl rfl) ?_
 refine oy rfl rfl (y_assign rfl) ?_
 refine ops_nil ?_
 refine goes_code ?_
 refine run_ret ?_
 obtain rfl := some_eq h
 refine fin_slots [2] [.iface 3 (.int .i64 x1)] [0, 1] [row (subS h_0v 1 ((0 : Int).toNat) (((IntKind.i64.wrap ((h_0.length : Int) - 1))).toNat)) 1 ((h_0.take (((IntKind.i64.wrap ((h_0.length : Int) - 1))).toNat)).map (eInt .i64)), box h_0b [(subS h_0v 1 ((0 : Int).toNat) (((IntKind.i64.wrap ((h_0.length : Int) - 1))).toNat))]] Try.results89 rfl (by decide) rfl ?_
 exact ⟨_, rfl, rfl⟩

def container_heap_Pop_38 (n : Nat) (h_0 : (List Int)) : Option (Int × (List Int)) :=
 obind (weirgate_graph_ints_Len_37 h_0) fun r1 =>
 obind (weirgate_graph_ints_Swap_91_v1 h_0 0 (IntKind.i64.wrap (r1 - 1))) fun r3 =>
 obind (container_heap_down_60 n r3 0 (IntKind.i64.wrap (r1 - 1))) fun r5 =>
 obind (weirgate_graph_ints_Pop_89 r5.2) fun r8 =>
 some (r8.1, r8.2)
theorem container_heap_Pop_38_ok (n : Nat) (h_0 : (List Int)) (h_0b : Nat) (h_0v : Value) {r : Int × (List Int)} (h : container_heap_Pop_38 n h_0 = some r) :
  Meets Try.prog 38 [.iface 72 (boxP h_0b 0)] [row h_0v 1 (h_0.map (eInt .i64)), box h_0b [h_0v]] (fun v G => ∃ v0, v = .iface 3 (.int .i64 r.1) ∧ G = [row v0 1 (r.2.map (eInt .i64)), box h_0b [v0]]) := by
 refine fn_of_run Try.func38 rfl Try.ntmps38 rfl (fun w0 o0 => ?_)
 refine run_seq ?_
 refine run_region' ?_
 refine oy rfl rfl (y_assign rfl) ?_
 refine ops_nil ?_
 refine goes_code ?_
 refine run_seq ?_
 refine run_region' ?_
 refine oy rfl rfl (y_move rfl) ?_
 obtain ⟨r1, hr2, h⟩ := obind_some h
 refine ot rfl rfl (t_invoke (vs := []) [(0, 1)] rfl (fun _ _ _ hs => method_val Try.typeInfo72 rfl rfl rfl Try.runUnderlying72 (load_box 1 Try.isAgg73 rfl rfl hs)) Try.call37 rfl (weirgate_graph_ints_Len_37_ok h_0 h_0v hr2) (showsX_look 0 rfl views_row showsX_nil) rfl (.inr (by rintro _ _ ⟨rfl, rfl⟩ g hg; first | (cases hg; done) | (simp only [List.mem_cons, List.not_mem_nil, or_false] at hg; first | (subst hg; first | exact strict_row | exact strict_box) | (rcases hg with rfl | rfl <;> first | exact strict_row | exact strict_box) | (rcases hg with rfl | rfl | rfl <;> first | exact strict_row | exact strict_box))))) ?_
 rintro _ _ ⟨_, ⟨rfl, rfl⟩, rfl⟩
 refine oy rfl rfl (y_sub rfl rfl) ?_
 refine oy rfl rfl (y_assign rfl) ?_
 refine ops_nil ?_
 refine goes_code ?_
 refine run_seq ?_
 refine run_region' ?_
 refine oy rfl rfl (y_move rfl) ?_
 refine oy rfl rfl (y_move rfl) ?_
 obtain ⟨r3, hr4, h⟩ := obind_some h
 refine ot rfl rfl (t_invoke (vs := [.int .i64 0, .int .i64 (IntKind.i64.wrap (r1 - 1))]) [(0, 2)] rfl (fun _ _ _ hs => method_val Try.typeInfo72 rfl rfl rfl Try.runUnderlying72 (load_box 1 Try.isAgg73 rfl rfl hs)) Try.call91 rfl (weirgate_graph_ints_Swap_91_v1_ok h_0 0 (IntKind.i64.wrap (r1 - 1)) h_0v hr4) (showsX_lend 0 rfl showsX_nil) rfl (.inl rfl)) ?_
 rintro _ _ ⟨_, ⟨rfl, rfl⟩, rfl⟩
 refine ops_nil ?_
 refine goes_code ?_
 refine run_seq ?_
 refine run_weak [(0, .iface 72 (boxP h_0b 0)), (3, .int .i64 (IntKind.i64.wrap (r1 - 1)))] [1, 2] [box h_0b [h_0v], row h_0v 1 (r3.map (eInt .i64))] (qv2 rfl rfl) (by decide) rfl ?_
 refine run_region' ?_
 refine oy rfl rfl (y_move rfl) ?_
 refine oy rfl rfl (y_move rfl) ?_
 obtain ⟨r5, hr6, h⟩ := obind_some h
 refine ot rfl rfl (t_callx (vs := [.iface 72 (boxP h_0b 0), .int .i64 0, .int .i64 (IntKind.i64.wrap (r1 - 1))]) (cs := []) [(1, 2), (0, 2)] rfl Try.call60 rfl (container_heap_down_60_ok n r3 0 (IntKind.i64.wrap (r1 - 1)) h_0b h_0v hr6) (showsX_lend 1 rfl (showsX_lend 0 rfl showsX_nil)) rfl (.inl rfl)) ?_
 rintro _ _ ⟨_, ⟨v7, rfl, rfl⟩, rfl⟩
 refine ops_nil ?_
 refine goes_code ?_
 refine run_seq ?_
 refine run_region' ?_
 refine oy rfl rfl (y_move rfl) ?_
 obtain ⟨r8, hr9, h⟩ := obind_some h
 refine ot rfl rfl (t_invoke (vs := []) [(2, 2), (3, 2)] rfl (fun _ _ _ _ => method_ptr Try.typeInfo72 rfl rfl rfl Try.runUnderlying72) Try.call89 rfl (weirgate_graph_ints_Pop_89_ok r5.2 h_0b v7 hr9) (showsX_lend 2 rfl (showsX_lend 3 rfl showsX_nil)) rfl (.inl rfl)) ?_
 rintro _ _ ⟨_, ⟨v10, rfl, rfl⟩, rfl⟩
 refine oy rfl rfl (y_assign rfl) ?_
 refine ops_nil ?_
 refine goes_code ?_
 refine run_ret ?_
 obtain rfl := some_eq h
 refine fin_slots [2] [.iface 3 (.int .i64 r8.1)] [4, 5] [row v10 1 (r8.2.map (eInt .i64)), box h_0b [v10]] Try.results38 rfl (by decide) rfl ?_
 exact ⟨_, rfl, rfl⟩

def graph_Order_1_42 (k_0 : Int) : Option (Bool) :=
 some (decide (0 < k_0))
theorem graph_Order_1_42_ok (k_0 : Int)  {r : Bool} (h : graph_Order_1_42 k_0 = some r) :
  Meets Try.prog 42 [.int .i64 k_0] [] (fun v G => v = .bool r ∧ G = []) := by
 refine fn_of_run Try.func42 rfl Try.ntmps42 rfl (fun w0 o0 => ?_)
 refine run_seq ?_
 refine run_region' ?_
 refine oy rfl rfl (y_assign rfl) ?_
 refine ops_nil ?_
 refine goes_code ?_
 refine run_seq ?_
 refine run_region' ?_
 refine oy rfl rfl (y_move rfl) ?_
 refine oy rfl rfl (y_gtr rfl rfl) ?_
 refine oy rfl rfl (y_assign rfl) ?_
 refine ops_nil ?_
 refine goes_code ?_
 refine run_ret ?_
 obtain rfl := some_eq h
 refine fin_slots [2] [.bool (decide (0 < k_0))] [] [] Try.results42 rfl (by decide) rfl ?_
 exact ⟨rfl, rfl⟩

def slices_IndexFunc_int_int_41_L1 (s_0 : (List Int)) : (Int) → Option (Lp (Int) (Lp (Unit) (Int))) :=
 fun s_5 =>
  cond (decide (s_5 < (s_0.length : Int)))
   (idx s_0 s_5 fun x11 =>
   obind (graph_Order_1_42 x11) fun r12 =>
   cond r12
    (some (.stop (.stop s_5)))
    (some (.go (IntKind.i64.wrap (s_5 + 1)))))
   (some (.stop (.go ())))
def slices_IndexFunc_int_int_41 (n : Nat) (s_0 : (List Int)) : Option (Int) :=
 bindJ (S := Unit)
  (iter (slices_IndexFunc_int_int_41_L1 s_0) n 0)
 (fun _ =>
  some (-1))
theorem slices_IndexFunc_int_int_41_ok (n : Nat) (s_0 : (List Int)) (s_0v : Value) {r : Int} (h : slices_IndexFunc_int_int_41 n s_0 = some r) :
  Meets Try.prog 41 [s_0v, .func (.func 42) #[] #[]] [ro s_0v 1 (s_0.map (eInt .i64))] (fun v G => v = .int .i64 r ∧ G = []) := by
 refine fn_of_run Try.func41 rfl Try.ntmps41 rfl (fun w0 o0 => ?_)
 refine run_seq ?_
 refine run_region' ?_
 refine oy rfl rfl (y_assign rfl) ?_
 refine ops_nil ?_
 refine goes_code ?_
 obtain ⟨o1, h, ho2⟩ := bindJ_some h
 refine run_cut ((Unit) × (Unit)) (fun σ => []) (fun σ => []) (fun σ => o1 = .go σ.1) (fun L4 hL3 => ?_) ?_
 ·
  refine run_seq ?_
  refine run_region' ?_
  refine oy rfl rfl (y_move rfl) ?_
  refine oy rfl rfl ((y_len 0 rfl Try.runUnderlying34 rfl rfl reads_ro).to (v_len (eInt .i64) _)) ?_
  refine oy rfl rfl (y_move rfl) ?_
  refine ops_nil ?_
  refine goes_code ?_
  refine run_block ?_
  refine run_iter (step := slices_IndexFunc_int_int_41_L1 s_0) (n := n) (s0 := 0) h (G := Unit) () (fun σ γ => [(0, s_0v), (1, .func (.func 42) #[] #[]), (7, .int .i64 (s_0.length : Int)), (8, .int .i64 σ)]) (fun σ γ => [ro s_0v 1 (s_0.map (eInt .i64))]) [0] (qv4 rfl rfl rfl rfl) (by decide) rfl ?_
  rintro s_5 _ o6 h L9 hgo7 hstop8
  change Run _ _ _ (VF.of [(0, s_0v), (1, .func (.func 42) #[] #[]), (7, .int .i64 (s_0.length : Int)), (8, .int .i64 s_5)]) [ro s_0v 1 (s_0.map (eInt .i64))]
  refine run_seq ?_
  refine run_region' ?_
  refine oy rfl rfl (y_lss rfl rfl) ?_
  refine ops_nil ?_
  refine goes_code ?_
  refine run_seq ?_
  refine run_cond (decide (s_5 < (s_0.length : Int))) rfl (fun hc10 => ?_) (fun hc10 => ?_)
  ·replace h := cond_t h hc10
   refine run_skip ?_
   refine goes_code ?_
   refine run_seq ?_
   refine run_block ?_
   refine run_seq ?_
   refine run_region' ?_
   refine oy rfl rfl (y_move rfl) ?_
   refine oy rfl rfl (y_assign rfl) ?_
   refine ops_nil ?_
   refine goes_code ?_
   refine run_seq ?_
   refine run_region' ?_
   refine oy rfl rfl (y_move rfl) ?_
   refine oy rfl rfl (y_move rfl) ?_
   refine oy rfl rfl (y_move rfl) ?_
   obtain ⟨x11, hzx11, hlx11, hxx11, h⟩ := idx_some h
   refine oy rfl rfl (y_indexAddrI (kd := .i64) (i := s_5) 0 Try.runUnderlying34 Try.sizeOf3 rfl rfl rfl reads_ro hzx11 (map_lt hlx11)) ?_
   refine oy rfl rfl (y_load_elem (i := s_5.toNat) 0 Try.isAgg3 rfl rfl reads_ro (map_get hxx11)) ?_
   obtain ⟨r12, hr13, h⟩ := obind_some h
   refine ot rfl rfl (t_callx (vs := [.int .i64 x11]) (cs := []) [] rfl Try.call42 rfl (graph_Order_1_42_ok x11  hr13) showsX_nil rfl (.inl rfl)) ?_
   rintro _ _ ⟨_, ⟨rfl, rfl⟩, rfl⟩
   refine ops_nil ?_
   refine goes_code ?_
   refine run_cond r12 rfl (fun hc14 => ?_) (fun hc14 => ?_)
   ·replace h := cond_t h hc14
    refine run_seq ?_
    refine run_weak [(5, .int .i64 s_5)] [] [] (qv1 rfl) (by decide) rfl ?_
    refine run_region' ?_
    refine oy rfl rfl (y_move rfl) ?_
    refine oy rfl rfl (y_assign rfl) ?_
    refine ops_nil ?_
    refine goes_code ?_
    refine run_ret ?_
    obtain rfl := some_eq h
    obtain rfl := hstop8 _ rfl
    skip
    obtain rfl := after_stop ho2
    refine fin_slots [4] [.int .i64 s_5] [] [] Try.results41 rfl (by decide) rfl ?_
    exact ⟨rfl, rfl⟩
   ·replace h := cond_f h hc14
    refine run_skip ?_
    refine goes_blk ?_
    refine goes_code ?_
    refine run_weak [(0, s_0v), (1, .func (.func 42) #[] #[]), (7, .int .i64 (s_0.length : Int)), (8, .int .i64 s_5)] [0] [ro s_0v 1 (s_0.map (eInt .i64))] (qv4 rfl rfl rfl rfl) (by decide) rfl ?_
    refine run_region' ?_
    refine oy rfl rfl (y_add rfl rfl) ?_
    refine oy rfl rfl (y_move rfl) ?_
    refine ops_nil ?_
    obtain rfl := some_eq h
    exact goes_iter hgo7 (IntKind.i64.wrap (s_5 + 1)) () [0] rfl (qv4 rfl rfl rfl rfl) (by decide) rfl
  ·replace h := cond_f h hc10
   refine run_exit _ rfl ?_
   obtain rfl := some_eq h
   obtain rfl := hstop8 _ rfl
   exact goes_cut hL3 ((), ()) [] vnil (by decide) rfl rfl
 rintro ⟨_, _⟩ hj
 obtain rfl : o1 = _ := hj
 replace h := after_go ho2
 clear ho2
 change Run _ _ _ (VF.of []) []
 refine run_seq ?_
 refine run_region' ?_
 refine oy rfl rfl (y_assign rfl) ?_
 refine ops_nil ?_
 refine goes_code ?_
 refine run_ret ?_
 obtain rfl := some_eq h
 refine fin_slots [4] [.int .i64 (-1)] [] [] Try.results41 rfl (by decide) rfl ?_
 exact ⟨rfl, rfl⟩

def slices_Reverse_int_int_62_v1_L1 : (Int × Int × (List Int)) → Option (Lp (Int × Int × (List Int)) (List Int)) :=
 fun (i_1, j_2, x_3) =>
  cond (decide (i_1 < j_2))
   (idx x_3 j_2 fun x9 =>
   idx x_3 i_1 fun x10 =>
   idx (x_3.set i_1.toNat x9) j_2 fun x11 =>
   some (.go ((IntKind.i64.wrap (i_1 + 1)), (IntKind.i64.wrap (j_2 - 1)), ((x_3.set i_1.toNat x9).set j_2.toNat x10))))
   (some (.stop x_3))
def slices_Reverse_int_int_62_v1 (n : Nat) (s_0 : (List Int)) : Option ((List Int)) :=
 iter (slices_Reverse_int_int_62_v1_L1) n (0, (IntKind.i64.wrap ((s_0.length : Int) - 1)), s_0)
theorem slices_Reverse_int_int_62_v1_ok (n : Nat) (s_0 : (List Int)) (s_0v : Value) {r : (List Int)} (h : slices_Reverse_int_int_62_v1 n s_0 = some r) :
  Meets Try.prog 62 [s_0v] [row s_0v 1 (s_0.map (eInt .i64))] (fun v G => v = .tuple #[] ∧ G = [row s_0v 1 (r.map (eInt .i64))]) := by
 refine fn_of_run Try.func62 rfl Try.ntmps62 rfl (fun w0 o0 => ?_)
 refine run_seq ?_
 refine run_region' ?_
 refine oy rfl rfl (y_move rfl) ?_
 refine oy rfl rfl ((y_len 0 rfl Try.runUnderlying34 rfl rfl reads_row).to (v_len (eInt .i64) _)) ?_
 refine oy rfl rfl (y_sub rfl rfl) ?_
 refine oy rfl rfl (y_assign rfl) ?_
 refine oy rfl rfl (y_assign rfl) ?_
 refine ops_nil ?_
 refine goes_code ?_
 refine run_block ?_
 refine run_iter (step := slices_Reverse_int_int_62_v1_L1) (n := n) (s0 := (0, (IntKind.i64.wrap ((s_0.length : Int) - 1)), s_0)) h (G := Unit) () (fun σ γ => [(0, s_0v), (2, .int .i64 σ.1), (3, .int .i64 σ.2.1)]) (fun σ γ => [row s_0v 1 (σ.2.2.map (eInt .i64))]) [0] (qv3 rfl rfl rfl) (by decide) rfl ?_
 rintro ⟨i_1, j_2, x_3⟩ _ o4 h L7 hgo5 hstop6
 change Run _ _ _ (VF.of [(0, s_0v), (2, .int .i64 i_1), (3, .int .i64 j_2)]) [row s_0v 1 (x_3.map (eInt .i64))]
 refine run_seq ?_
 refine run_seq ?_
 refine run_region' ?_
 refine oy rfl rfl (y_move rfl) ?_
 refine oy rfl rfl (y_move rfl) ?_
 refine oy rfl rfl (y_lss rfl rfl) ?_
 refine ops_nil ?_
 refine goes_code ?_
 refine run_cond (decide (i_1 < j_2)) rfl (fun hc8 => ?_) (fun hc8 => ?_)
 ·replace h := cond_t h hc8
  refine run_skip ?_
  refine goes_code ?_
  refine run_seq ?_
  refine run_block ?_
  obtain ⟨x9, hzx9, hlx9, hxx9, h⟩ := idx_some h
  obtain ⟨x10, hzx10, hlx10, hxx10, h⟩ := idx_some h
  obtain ⟨x11, hzx11, hlx11, hxx11, h⟩ := idx_some h
  refine run_drawany [HA.emp] (by kernel_rfl) ?_
  refine any_y 0 rfl (by kernel_rfl) (by kernel_rfl) (by kernel_rfl) (se (sn)) (wn rfl) rfl (y_move rfl) ?_
  refine any_y 1 rfl (by kernel_rfl) (by kernel_rfl) (by kernel_rfl) (se (sn)) (wn rfl) rfl (y_move rfl) ?_
  refine any_y 2 rfl (by kernel_rfl) (by kernel_rfl) (by kernel_rfl) (se (sn)) (wn rfl) rfl (y_move rfl) ?_
  refine any_y 3 rfl (by kernel_rfl) (by kernel_rfl) (by kernel_rfl) (se (sn)) (wn rfl) rfl (y_move rfl) ?_
  refine any_y 4 rfl (by kernel_rfl) (by kernel_rfl) (by kernel_rfl) (se (sn)) (wn rfl) rfl (y_move rfl) ?_
  refine any_y 5 rfl (by kernel_rfl) (by kernel_rfl) (by kernel_rfl) (se (sn)) (wn rfl) rfl (y_move rfl) ?_
  refine any_y 8 rfl (by kernel_rfl) (by kernel_rfl) (by kernel_rfl) (se (sn)) (wn rfl) rfl (y_move rfl) ?_
  refine any_y 9 rfl (by kernel_rfl) (by kernel_rfl) (by kernel_rfl) (se (sn)) (wn rfl) rfl (y_move rfl) ?_
  refine any_cut2 #[true, true, true, true, true, true, true, true, true, true, true, true, true, true, true, true] 0 (Unit) (fun σ => [(0, s_0v), (2, .int .i64 i_1), (3, .int .i64 j_2)]) (fun σ => [row s_0v 1 (((x_3.set i_1.toNat x9).set j_2.toNat x10).map (eInt .i64))]) ?_ (fun hK12 => ?_)
  ·rintro _
   change AnyL _ _ _ _ _ (VF.of [(0, s_0v), (2, .int .i64 i_1), (3, .int .i64 j_2)]) [row s_0v 1 (((x_3.set i_1.toNat x9).set j_2.toNat x10).map (eInt .i64))] _
   refine any_nil (by kernel_rfl) ?_
   refine goes_blk ?_
   refine goes_code ?_
   refine run_region' ?_
   refine oy rfl rfl (y_move rfl) ?_
   refine oy rfl rfl (y_add rfl rfl) ?_
   refine oy rfl rfl (y_move rfl) ?_
   refine oy rfl rfl (y_sub rfl rfl) ?_
   refine oy rfl rfl (y_assign rfl) ?_
   refine oy rfl rfl (y_assign rfl) ?_
   refine ops_nil ?_
   obtain rfl := some_eq h
   exact goes_iter hgo5 ((IntKind.i64.wrap (i_1 + 1)), (IntKind.i64.wrap (j_2 - 1)), ((x_3.set i_1.toNat x9).set j_2.toNat x10)) () [0] rfl (qv3 rfl rfl rfl) (by decide) rfl
  refine any_cut2 #[true, true, true, true, true, true, true, true, true, true, true, true, true, true, true, false] 1 (Unit) (fun σ => [(0, s_0v), (2, .int .i64 i_1), (3, .int .i64 j_2), (25, .int .i64 x10), (27, elemP s_0v (j_2.toNat * 1))]) (fun σ => [row s_0v 1 ((x_3.set i_1.toNat x9).map (eInt .i64))]) ?_ (fun hK13 => ?_)
  ·rintro _
   change AnyL _ _ _ _ _ (VF.of [(0, s_0v), (2, .int .i64 i_1), (3, .int .i64 j_2), (25, .int .i64 x10), (27, elemP s_0v (j_2.toNat * 1))]) [row s_0v 1 ((x_3.set i_1.toNat x9).map (eInt .i64))] _
   refine any_all [15] (by kernel_rfl) rfl ?_
   refine anyo_cons ?_ ?_
   ·
    refine any_t rfl (wn rfl) rfl (t_store_row (i := j_2.toNat) (j := 0) (c := (eInt .i64) x11) 0 Try.sizeOf3 rfl rfl rfl rfl (map_get hxx11) (by decide) (by simp [Value.cells, Value.oneCell', boxP])) ?_
    rintro _ _ ⟨rfl, rfl⟩
    refine ⟨(se (sn)), ?_⟩
    refine any_turn (retell 0 (g := row s_0v 1 (((x_3.set i_1.toNat x9).set j_2.toNat x10).map (eInt .i64))) rfl (congrArg (row _ _) (map_set_at rfl))) ?_
    exact any_weak2 (hK12 ()) [0] (by kernel_rfl) (qv3 rfl rfl rfl) (by decide) rfl
   exact anyo_nil
  refine any_cut2 #[true, true, true, true, true, true, true, true, true, true, true, true, true, true, false, false] 2 (Unit) (fun σ => [(0, s_0v), (2, .int .i64 i_1), (3, .int .i64 j_2), (16, s_0v), (17, .int .i64 j_2), (25, .int .i64 x10)]) (fun σ => [row s_0v 1 ((x_3.set i_1.toNat x9).map (eInt .i64))]) ?_ (fun hK14 => ?_)
  ·rintro _
   change AnyL _ _ _ _ _ (VF.of [(0, s_0v), (2, .int .i64 i_1), (3, .int .i64 j_2), (16, s_0v), (17, .int .i64 j_2), (25, .int .i64 x10)]) [row s_0v 1 ((x_3.set i_1.toNat x9).map (eInt .i64))] _
   refine any_all [14] (by kernel_rfl) rfl ?_
   refine anyo_cons ?_ ?_
   ·
    refine any_ty rfl (wn rfl) rfl (y_indexAddrI (kd := .i64) (i := j_2) 0 Try.runUnderlying34 Try.sizeOf3 rfl rfl rfl reads_row hzx11 (map_lt hlx11)) ⟨(se (sn)), ?_⟩
    exact any_weak2 (hK13 ()) [0] (by kernel_rfl) (qv5 rfl rfl rfl rfl rfl) (by decide) rfl
   exact anyo_nil
  refine any_cut2 #[true, true, true, true, true, true, true, true, true, true, true, true, true, false, false, false] 3 (Unit) (fun σ => [(0, s_0v), (2, .int .i64 i_1), (3, .int .i64 j_2), (16, s_0v), (17, .int .i64 j_2), (21, .int .i64 x9), (25, .int .i64 x10), (26, elemP s_0v (i_1.toNat * 1))]) (fun σ => [row s_0v 1 (x_3.map (eInt .i64))]) ?_ (fun hK15 => ?_)
  ·rintro _
   change AnyL _ _ _ _ _ (VF.of [(0, s_0v), (2, .int .i64 i_1), (3, .int .i64 j_2), (16, s_0v), (17, .int .i64 j_2), (21, .int .i64 x9), (25, .int .i64 x10), (26, elemP s_0v (i_1.toNat * 1))]) [row s_0v 1 (x_3.map (eInt .i64))] _
   refine any_all [13] (by kernel_rfl) rfl ?_
   refine anyo_cons ?_ ?_
   ·
    refine any_t rfl (wn rfl) rfl (t_store_row (i := i_1.toNat) (j := 0) (c := (eInt .i64) x10) 0 Try.sizeOf3 rfl rfl rfl rfl (map_get hxx10) (by decide) (by simp [Value.cells, Value.oneCell', boxP])) ?_
    rintro _ _ ⟨rfl, rfl⟩
    refine ⟨(se (sn)), ?_⟩
    refine any_turn (retell 0 (g := row s_0v 1 ((x_3.set i_1.toNat x9).map (eInt .i64))) rfl (congrArg (row _ _) (map_set_at rfl))) ?_
    exact any_weak2 (hK14 ()) [0] (by kernel_rfl) (qv6 rfl rfl rfl rfl rfl rfl) (by decide) rfl
   exact anyo_nil
  refine any_cut2 #[true, true, true, true, true, true, true, true, true, true, true, true, false, false, false, false] 4 (Unit) (fun σ => [(0, s_0v), (2, .int .i64 i_1), (3, .int .i64 j_2), (14, s_0v), (15, .int .i64 i_1), (16, s_0v), (17, .int .i64 j_2), (21, .int .i64 x9), (25, .int .i64 x10)]) (fun σ => [row s_0v 1 (x_3.map (eInt .i64))]) ?_ (fun hK16 => ?_)
  ·rintro _
   change AnyL _ _ _ _ _ (VF.of [(0, s_0v), (2, .int .i64 i_1), (3, .int .i64 j_2), (14, s_0v), (15, .int .i64 i_1), (16, s_0v), (17, .int .i64 j_2), (21, .int .i64 x9), (25, .int .i64 x10)]) [row s_0v 1 (x_3.map (eInt .i64))] _
   refine any_all [12] (by kernel_rfl) rfl ?_
   refine anyo_cons ?_ ?_
   ·
    refine any_ty rfl (wn rfl) rfl (y_indexAddrI (kd := .i64) (i := i_1) 0 Try.runUnderlying34 Try.sizeOf3 rfl rfl rfl reads_row hzx10 (map_lt hlx10)) ⟨(se (sn)), ?_⟩
    exact any_weak2 (hK15 ()) [0] (by kernel_rfl) (qv8 rfl rfl rfl rfl rfl rfl rfl rfl) (by decide) rfl
   exact anyo_nil
  refine any_cut2 #[true, true, true, true, true, true, true, true, true, true, true, false, false, false, false, false] 5 (Unit) (fun σ => [(0, s_0v), (2, .int .i64 i_1), (3, .int .i64 j_2), (14, s_0v), (15, .int .i64 i_1), (16, s_0v), (17, .int .i64 j_2), (21, .int .i64 x9), (24, elemP s_0v (i_1.toNat * 1))]) (fun σ => [row s_0v 1 (x_3.map (eInt .i64))]) ?_ (fun hK17 => ?_)
  ·rintro _
   change AnyL _ _ _ _ _ (VF.of [(0, s_0v), (2, .int .i64 i_1), (3, .int .i64 j_2), (14, s_0v), (15, .int .i64 i_1), (16, s_0v), (17, .int .i64 j_2), (21, .int .i64 x9), (24, elemP s_0v (i_1.toNat * 1))]) [row s_0v 1 (x_3.map (eInt .i64))] _
   refine any_all [11] (by kernel_rfl) rfl ?_
   refine anyo_cons ?_ ?_
   ·
    refine any_ty rfl (wn rfl) rfl (y_load_elem (i := i_1.toNat) 0 Try.isAgg3 rfl rfl reads_row (map_get hxx10)) ⟨(se (sn)), ?_⟩
    exact any_weak2 (hK16 ()) [0] (by kernel_rfl) (qv9 rfl rfl rfl rfl rfl rfl rfl rfl rfl) (by decide) rfl
   exact anyo_nil
  refine any_cut2 #[true, true, true, true, true, true, true, false, true, true, true, true, false, false, false, false] 5 (Unit) (fun σ => [(0, s_0v), (2, .int .i64 i_1), (3, .int .i64 j_2), (14, s_0v), (15, .int .i64 i_1), (16, s_0v), (17, .int .i64 j_2), (20, elemP s_0v (j_2.toNat * 1)), (25, .int .i64 x10)]) (fun σ => [row s_0v 1 (x_3.map (eInt .i64))]) ?_ (fun hK18 => ?_)
  ·rintro _
   change AnyL _ _ _ _ _ (VF.of [(0, s_0v), (2, .int .i64 i_1), (3, .int .i64 j_2), (14, s_0v), (15, .int .i64 i_1), (16, s_0v), (17, .int .i64 j_2), (20, elemP s_0v (j_2.toNat * 1)), (25, .int .i64 x10)]) [row s_0v 1 (x_3.map (eInt .i64))] _
   refine any_all [7] (by kernel_rfl) rfl ?_
   refine anyo_cons ?_ ?_
   ·
    refine any_ty rfl (wn rfl) rfl (y_load_elem (i := j_2.toNat) 0 Try.isAgg3 rfl rfl reads_row (map_get hxx9)) ⟨(se (sn)), ?_⟩
    exact any_weak2 (hK16 ()) [0] (by kernel_rfl) (qv9 rfl rfl rfl rfl rfl rfl rfl rfl rfl) (by decide) rfl
   exact anyo_nil
  refine any_cut2 #[true, true, true, true, true, true, true, true, true, true, false, false, false, false, false, false] 6 (Unit) (fun σ => [(0, s_0v), (2, .int .i64 i_1), (3, .int .i64 j_2), (14, s_0v), (15, .int .i64 i_1), (16, s_0v), (17, .int .i64 j_2), (22, s_0v), (23, .int .i64 i_1), (21, .int .i64 x9)]) (fun σ => [row s_0v 1 (x_3.map (eInt .i64))]) ?_ (fun hK19 => ?_)
  ·rintro _
   change AnyL _ _ _ _ _ (VF.of [(0, s_0v), (2, .int .i64 i_1), (3, .int .i64 j_2), (14, s_0v), (15, .int .i64 i_1), (16, s_0v), (17, .int .i64 j_2), (22, s_0v), (23, .int .i64 i_1), (21, .int .i64 x9)]) [row s_0v 1 (x_3.map (eInt .i64))] _
   refine any_all [10] (by kernel_rfl) rfl ?_
   refine anyo_cons ?_ ?_
   ·
    refine any_ty rfl (wn rfl) rfl (y_indexAddrI (kd := .i64) (i := i_1) 0 Try.runUnderlying34 Try.sizeOf3 rfl rfl rfl reads_row hzx10 (map_lt hlx10)) ⟨(se (sn)), ?_⟩
    exact any_weak2 (hK17 ()) [0] (by kernel_rfl) (qv9 rfl rfl rfl rfl rfl rfl rfl rfl rfl) (by decide) rfl
   exact anyo_nil
  refine any_cut2 #[true, true, true, true, true, true, true, false, true, true, true, false, false, false, false, false] 6 (Unit) (fun σ => [(0, s_0v), (2, .int .i64 i_1), (3, .int .i64 j_2), (14, s_0v), (15, .int .i64 i_1), (16, s_0v), (17, .int .i64 j_2), (20, elemP s_0v (j_2.toNat * 1)), (24, elemP s_0v (i_1.toNat * 1))]) (fun σ => [row s_0v 1 (x_3.map (eInt .i64))]) ?_ (fun hK20 => ?_)
  ·rintro _
   change AnyL _ _ _ _ _ (VF.of [(0, s_0v), (2, .int .i64 i_1), (3, .int .i64 j_2), (14, s_0v), (15, .int .i64 i_1), (16, s_0v), (17, .int .i64 j_2), (20, elemP s_0v (j_2.toNat * 1)), (24, elemP s_0v (i_1.toNat * 1))]) [row s_0v 1 (x_3.map (eInt .i64))] _
   refine any_all [7, 11] (by kernel_rfl) rfl ?_
   refine anyo_cons ?_ ?_
   ·
    refine any_ty rfl (wn rfl) rfl (y_load_elem (i := j_2.toNat) 0 Try.isAgg3 rfl rfl reads_row (map_get hxx9)) ⟨(se (sn)), ?_⟩
    exact any_weak2 (hK17 ()) [0] (by kernel_rfl) (qv9 rfl rfl rfl rfl rfl rfl rfl rfl rfl) (by decide) rfl
   refine anyo_cons ?_ ?_
   ·
    refine any_ty rfl (wn rfl) rfl (y_load_elem (i := i_1.toNat) 0 Try.isAgg3 rfl rfl reads_row (map_get hxx10)) ⟨(se (sn)), ?_⟩
    exact any_weak2 (hK18 ()) [0] (by kernel_rfl) (qv9 rfl rfl rfl rfl rfl rfl rfl rfl rfl) (by decide) rfl
   exact anyo_nil
  refine any_cut2 #[true, true, true, true, true, true, false, false, true, true, true, true, false, false, false, false] 6 (Unit) (fun σ => [(0, s_0v), (2, .int .i64 i_1), (3, .int .i64 j_2), (14, s_0v), (15, .int .i64 i_1), (16, s_0v), (17, .int .i64 j_2), (18, s_0v), (19, .int .i64 j_2), (25, .int .i64 x10)]) (fun σ => [row s_0v 1 (x_3.map (eInt .i64))]) ?_ (fun hK21 => ?_)
  ·rintro _
   change AnyL _ _ _ _ _ (VF.of [(0, s_0v), (2, .int .i64 i_1), (3, .int .i64 j_2), (14, s_0v), (15, .int .i64 i_1), (16, s_0v), (17, .int .i64 j_2), (18, s_0v), (19, .int .i64 j_2), (25, .int .i64 x10)]) [row s_0v 1 (x_3.map (eInt .i64))] _
   refine any_all [6] (by kernel_rfl) rfl ?_
   refine anyo_cons ?_ ?_
   ·
    refine any_ty rfl (wn rfl) rfl (y_indexAddrI (kd := .i64) (i := j_2) 0 Try.runUnderlying34 Try.sizeOf3 rfl rfl rfl reads_row hzx9 (map_lt hlx9)) ⟨(se (sn)), ?_⟩
    exact any_weak2 (hK18 ()) [0] (by kernel_rfl) (qv9 rfl rfl rfl rfl rfl rfl rfl rfl rfl) (by decide) rfl
   exact anyo_nil
  refine any_cut2 #[true, true, true, true, true, true, true, false, true, true, false, false, false, false, false, false] 7 (Unit) (fun σ => [(0, s_0v), (2, .int .i64 i_1), (3, .int .i64 j_2), (14, s_0v), (15, .int .i64 i_1), (16, s_0v), (17, .int .i64 j_2), (22, s_0v), (23, .int .i64 i_1), (20, elemP s_0v (j_2.toNat * 1))]) (fun σ => [row s_0v 1 (x_3.map (eInt .i64))]) ?_ (fun hK22 => ?_)
  ·rintro _
   change AnyL _ _ _ _ _ (VF.of [(0, s_0v), (2, .int .i64 i_1), (3, .int .i64 j_2), (14, s_0v), (15, .int .i64 i_1), (16, s_0v), (17, .int .i64 j_2), (22, s_0v), (23, .int .i64 i_1), (20, elemP s_0v (j_2.toNat * 1))]) [row s_0v 1 (x_3.map (eInt .i64))] _
   refine any_all [7, 10] (by kernel_rfl) rfl ?_
   refine anyo_cons ?_ ?_
   ·
    refine any_ty rfl (wn rfl) rfl (y_load_elem (i := j_2.toNat) 0 Try.isAgg3 rfl rfl reads_row (map_get hxx9)) ⟨(se (sn)), ?_⟩
    exact any_weak2 (hK19 ()) [0] (by kernel_rfl) (qv10 rfl rfl rfl rfl rfl rfl rfl rfl rfl rfl) (by decide) rfl
   refine anyo_cons ?_ ?_
   ·
    refine any_ty rfl (wn rfl) rfl (y_indexAddrI (kd := .i64) (i := i_1) 0 Try.runUnderlying34 Try.sizeOf3 rfl rfl rfl reads_row hzx10 (map_lt hlx10)) ⟨(se (sn)), ?_⟩
    exact any_weak2 (hK20 ()) [0] (by kernel_rfl) (qv9 rfl rfl rfl rfl rfl rfl rfl rfl rfl) (by decide) rfl
   exact anyo_nil
  refine any_cut2 #[true, true, true, true, true, true, false, false, true, true, true, false, false, false, false, false] 7 (Unit) (fun σ => [(0, s_0v), (2, .int .i64 i_1), (3, .int .i64 j_2), (14, s_0v), (15, .int .i64 i_1), (16, s_0v), (17, .int .i64 j_2), (18, s_0v), (19, .int .i64 j_2), (24, elemP s_0v (i_1.toNat * 1))]) (fun σ => [row s_0v 1 (x_3.map (eInt .i64))]) ?_ (fun hK23 => ?_)
  ·rintro _
   change AnyL _ _ _ _ _ (VF.of [(0, s_0v), (2, .int .i64 i_1), (3, .int .i64 j_2), (14, s_0v), (15, .int .i64 i_1), (16, s_0v), (17, .int .i64 j_2), (18, s_0v), (19, .int .i64 j_2), (24, elemP s_0v (i_1.toNat * 1))]) [row s_0v 1 (x_3.map (eInt .i64))] _
   refine any_all [6, 11] (by kernel_rfl) rfl ?_
   refine anyo_cons ?_ ?_
   ·
    refine any_ty rfl (wn rfl) rfl (y_indexAddrI (kd := .i64) (i := j_2) 0 Try.runUnderlying34 Try.sizeOf3 rfl rfl rfl reads_row hzx9 (map_lt hlx9)) ⟨(se (sn)), ?_⟩
    exact any_weak2 (hK20 ()) [0] (by kernel_rfl) (qv9 rfl rfl rfl rfl rfl rfl rfl rfl rfl) (by decide) rfl
   refine anyo_cons ?_ ?_
   ·
    refine any_ty rfl (wn rfl) rfl (y_load_elem (i := i_1.toNat) 0 Try.isAgg3 rfl rfl reads_row (map_get hxx10)) ⟨(se (sn)), ?_⟩
    exact any_weak2 (hK21 ()) [0] (by kernel_rfl) (qv10 rfl rfl rfl rfl rfl rfl rfl rfl rfl rfl) (by decide) rfl
   exact anyo_nil
  refine any_all [6, 10] (by kernel_rfl) rfl ?_
  refine anyo_cons ?_ ?_
  ·
   refine any_ty rfl (wn rfl) rfl (y_indexAddrI (kd := .i64) (i := j_2) 0 Try.runUnderlying34 Try.sizeOf3 rfl rfl rfl reads_row hzx9 (map_lt hlx9)) ⟨(se (sn)), ?_⟩
   exact any_weak2 (hK22 ()) [0] (by kernel_rfl) (qv10 rfl rfl rfl rfl rfl rfl rfl rfl rfl rfl) (by decide) rfl
  refine anyo_cons ?_ ?_
  ·
   refine any_ty rfl (wn rfl) rfl (y_indexAddrI (kd := .i64) (i := i_1) 0 Try.runUnderlying34 Try.sizeOf3 rfl rfl rfl reads_row hzx10 (map_lt hlx10)) ⟨(se (sn)), ?_⟩
   exact any_weak2 (hK23 ()) [0] (by kernel_rfl) (qv10 rfl rfl rfl rfl rfl rfl rfl rfl rfl rfl) (by decide) rfl
  exact anyo_nil
 ·replace h := cond_f h hc8
  refine run_exit _ rfl ?_
  refine goes_nil ?_
  obtain rfl := some_eq h
  obtain rfl := hstop6 _ rfl
  refine fin_slots [] [] [0] [row s_0v 1 (x_3.map (eInt .i64))] Try.results62 rfl (by decide) rfl ?_
  exact ⟨rfl, rfl⟩

def graph_around_L1 (n_0 : S_api_Net) (via_1 : (List Int)) : (Int × Int) → Option (Lp (Int × Int) (Lp (Int) ((List Int)))) :=
 fun (v_7, s_8) =>
  cond (decide (s_8 < n_0.Nodes))
   (idx via_1 v_7 fun x14 =>
   idx n_0.Arcs x14 fun x15 =>
   some (.go (x15.From, (IntKind.i64.wrap (s_8 + 1)))))
   (some (.stop (.go v_7)))
def graph_around_L2 (n_0 : S_api_Net) (via_1 : (List Int)) (v_2 : Int) (v_2 : Int) : ((List Int) × Int) → Option (Lp ((List Int) × Int) (Lp ((List Int)) ((List Int)))) :=
 fun (cycle_25, w_26) =>
  cond (decide (w_26 ≠ v_2))
   (idx via_1 w_26 fun x33 =>
   need (cycle_25.length + ([x33] : List Int).length ≤ 4294967296) (
   idx n_0.Arcs x33 fun x37 =>
   some (.go ((cycle_25 ++ ([x33] : List Int)), x37.From))))
   (some (.stop (.go cycle_25)))
def graph_around (n : Nat) (n_0 : S_api_Net) (via_1 : (List Int)) (v_2 : Int) : Option ((List Int)) :=
 bindJ (S := Int)
  (iter (graph_around_L1 n_0 via_1) n (v_2, 0))
 (fun v_2 =>
  idx via_1 v_2 fun x16 =>
  bindJ (S := (List Int))
   (idx n_0.Arcs x16 fun x24 =>
   iter (graph_around_L2 n_0 via_1 v_2 v_2) n (([x16] : List Int), x24.From))
  (fun cycle_18 =>
   obind (slices_Reverse_int_int_62_v1 n cycle_18) fun r38 =>
   some r38))
theorem graph_around_ok (n : Nat) (n_0 : S_api_Net) (via_1 : (List Int)) (v_2 : Int) (n_0_Arcsv : Value) (via_1v : Value) {r : (List Int)} (h : graph_around n n_0 via_1 v_2 = some r) :
  Meets Try.prog 40 [.agg #[.int .i64 n_0.Nodes, n_0_Arcsv], via_1v, .int .i64 v_2] [ro n_0_Arcsv 4 (n_0.Arcs.map S_api_Arc.enc), ro via_1v 1 (via_1.map (eInt .i64))] (fun v G => ∃ v0, v = v0 ∧ G = [row v0 1 (r.map (eInt .i64))]) := by
 refine fn_of_run Try.func40 rfl Try.ntmps40 rfl (fun w0 o0 => ?_)
 refine run_seq ?_
 refine run_region' ?_
 refine ot rfl rfl (t_box rfl) ?_
 rintro _ _ ⟨b1, rfl, rfl⟩
 refine oy rfl rfl (y_assign rfl) ?_
 refine ops_nil ?_
 refine goes_code ?_
 obtain ⟨o3, h, ho4⟩ := bindJ_some h
 refine run_cut ((Int) × (Unit)) (fun σ => [(1, via_1v), (2, .int .i64 σ.1), (3, boxP b1 0)]) (fun σ => [ro via_1v 1 (via_1.map (eInt .i64)), box b1 [.int .i64 n_0.Nodes, n_0_Arcsv], ro n_0_Arcsv 4 (n_0.Arcs.map S_api_Arc.enc)]) (fun σ => o3 = .go σ.1) (fun L6 hL5 => ?_) ?_
 ·
  refine run_seq ?_
  refine run_region' ?_
  refine oy rfl rfl (y_fieldAddr_box (sz := 0) Try.runUnderlying24 rfl Try.sizeOf3 rfl) ?_
  refine oy rfl rfl (y_load_box 2 Try.isAgg3 rfl rfl rfl) ?_
  refine oy rfl rfl (y_move rfl) ?_
  refine ops_nil ?_
  refine goes_code ?_
  refine run_block ?_
  refine run_iter (step := graph_around_L1 n_0 via_1) (n := n) (s0 := (v_2, 0)) h (G := Unit) () (fun σ γ => [(1, via_1v), (2, .int .i64 σ.1), (3, boxP b1 0), (10, .int .i64 n_0.Nodes), (11, .int .i64 σ.2)]) (fun σ γ => [ro via_1v 1 (via_1.map (eInt .i64)), box b1 [.int .i64 n_0.Nodes, n_0_Arcsv], ro n_0_Arcsv 4 (n_0.Arcs.map S_api_Arc.enc)]) [1, 2, 0] (qv5 rfl rfl rfl rfl rfl) (by decide) rfl ?_
  rintro ⟨v_7, s_8⟩ _ o9 h L12 hgo10 hstop11
  change Run _ _ _ (VF.of [(1, via_1v), (2, .int .i64 v_7), (3, boxP b1 0), (10, .int .i64 n_0.Nodes), (11, .int .i64 s_8)]) [ro via_1v 1 (via_1.map (eInt .i64)), box b1 [.int .i64 n_0.Nodes, n_0_Arcsv], ro n_0_Arcsv 4 (n_0.Arcs.map S_api_Arc.enc)]
  refine run_seq ?_
  refine run_region' ?_
  refine oy rfl rfl (y_lss rfl rfl) ?_
  refine ops_nil ?_
  refine goes_code ?_
  refine run_seq ?_
  refine run_cond (decide (s_8 < n_0.Nodes)) rfl (fun hc13 => ?_) (fun hc13 => ?_)
  ·replace h := cond_t h hc13
   refine run_skip ?_
   refine goes_code ?_
   refine run_seq ?_
   refine run_block ?_
   refine run_draw (by kernel_rfl) (by kernel_rfl) ?_
   refine sy rfl rfl (y_fieldAddr_box (sz := 0) Try.runUnderlying24 rfl Try.sizeOf22 rfl) ?_
   refine sy rfl rfl (y_load_box 1 Try.isAgg22 rfl rfl rfl) ?_
   refine sy rfl rfl (y_move rfl) ?_
   refine sy rfl rfl (y_move rfl) ?_
   obtain ⟨x14, hzx14, hlx14, hxx14, h⟩ := idx_some h
   refine sy rfl rfl (y_indexAddrI (kd := .i64) (i := v_7) 0 Try.runUnderlying34 Try.sizeOf3 rfl rfl rfl reads_ro hzx14 (map_lt hlx14)) ?_
   refine sy rfl rfl (y_load_elem (i := v_7.toNat) 0 Try.isAgg3 rfl rfl reads_ro (map_get hxx14)) ?_
   obtain ⟨x15, hzx15, hlx15, hxx15, h⟩ := idx_some h
   refine sy rfl rfl (y_indexAddrI (kd := .i64) (i := x14) 2 Try.runUnderlying22 Try.sizeOf67 rfl rfl rfl reads_ro hzx15 (map_lt hlx15)) ?_
   refine sy rfl rfl (y_fieldAddr_elem (sz := 0) Try.runUnderlying67 rfl Try.sizeOf3 rfl) ?_
   refine sy rfl rfl (y_load_field (i := x14.toNat) (j := 0) 2 Try.isAgg3 rfl rfl reads_ro (map_get hxx15) rfl) ?_
   refine sy rfl rfl (y_assign rfl) ?_
   refine still_nil ?_
   refine goes_blk ?_
   refine goes_code ?_
   refine run_weak [(1, via_1v), (2, .int .i64 x15.From), (3, boxP b1 0), (10, .int .i64 n_0.Nodes), (11, .int .i64 s_8)] [0, 1, 2] [ro via_1v 1 (via_1.map (eInt .i64)), box b1 [.int .i64 n_0.Nodes, n_0_Arcsv], ro n_0_Arcsv 4 (n_0.Arcs.map S_api_Arc.enc)] (qv5 rfl rfl rfl rfl rfl) (by decide) rfl ?_
   refine run_region' ?_
   refine oy rfl rfl (y_add rfl rfl) ?_
   refine oy rfl rfl (y_move rfl) ?_
   refine ops_nil ?_
   obtain rfl := some_eq h
   exact goes_iter hgo10 (x15.From, (IntKind.i64.wrap (s_8 + 1))) () [0, 1, 2] rfl (qv5 rfl rfl rfl rfl rfl) (by decide) rfl
  ·replace h := cond_f h hc13
   refine run_exit _ rfl ?_
   obtain rfl := some_eq h
   obtain rfl := hstop11 _ rfl
   exact goes_cut hL5 (v_7, ()) [0, 1, 2] (qv3 rfl rfl rfl) (by decide) rfl rfl
 rintro ⟨v_2, _⟩ hj
 obtain rfl : o3 = _ := hj
 replace h := after_go ho4
 clear ho4
 change Run _ _ _ (VF.of [(1, via_1v), (2, .int .i64 v_2), (3, boxP b1 0)]) [ro via_1v 1 (via_1.map (eInt .i64)), box b1 [.int .i64 n_0.Nodes, n_0_Arcsv], ro n_0_Arcsv 4 (n_0.Arcs.map S_api_Arc.enc)]
 refine run_seq ?_
 refine run_region' ?_
 refine oy rfl rfl (y_move rfl) ?_
 refine oy rfl rfl (y_move rfl) ?_
 obtain ⟨x16, hzx16, hlx16, hxx16, h⟩ := idx_some h
 refine oy rfl rfl (y_indexAddrI (kd := .i64) (i := v_2) 0 Try.runUnderlying34 Try.sizeOf3 rfl rfl rfl reads_ro hzx16 (map_lt hlx16)) ?_
 refine oy rfl rfl (y_load_elem (i := v_2.toNat) 0 Try.isAgg3 rfl rfl reads_ro (map_get hxx16)) ?_
 refine ot rfl rfl (t_lit [.int .i64 x16] Try.runUnderlying34 Try.sizeOf3 Try.zeroValue3 rfl (by decide) (by decide) rfl (by simp [Value.cells, boxP])) ?_
 rintro v17 _ ⟨rfl, _⟩
 refine ops_turn (retell 3 (g := row v17 1 (([x16] : List Int).map (eInt .i64))) rfl rfl) ?_
 refine oy rfl rfl (y_assign rfl) ?_
 refine ops_nil ?_
 refine goes_code ?_
 obtain ⟨o20, h, ho21⟩ := bindJ_some h
 refine run_cut (((List Int)) × (Value)) (fun σ => [(7, σ.2)]) (fun σ => [row σ.2 1 (σ.1.map (eInt .i64))]) (fun σ => o20 = .go σ.1) (fun L23 hL22 => ?_) ?_
 ·
  refine run_seq ?_
  refine run_draw (by kernel_rfl) (by kernel_rfl) ?_
  refine sy rfl rfl (y_fieldAddr_box (sz := 0) Try.runUnderlying24 rfl Try.sizeOf22 rfl) ?_
  refine sy rfl rfl (y_load_box 1 Try.isAgg22 rfl rfl rfl) ?_
  refine sy rfl rfl (y_move rfl) ?_
  refine sy rfl rfl (y_move rfl) ?_
  refine sy rfl rfl (y_indexAddrI (kd := .i64) (i := v_2) 0 Try.runUnderlying34 Try.sizeOf3 rfl rfl rfl reads_ro hzx16 (map_lt hlx16)) ?_
  refine sy rfl rfl (y_load_elem (i := v_2.toNat) 0 Try.isAgg3 rfl rfl reads_ro (map_get hxx16)) ?_
  obtain ⟨x24, hzx24, hlx24, hxx24, h⟩ := idx_some h
  refine sy rfl rfl (y_indexAddrI (kd := .i64) (i := x16) 2 Try.runUnderlying22 Try.sizeOf67 rfl rfl rfl reads_ro hzx24 (map_lt hlx24)) ?_
  refine sy rfl rfl (y_fieldAddr_elem (sz := 0) Try.runUnderlying67 rfl Try.sizeOf3 rfl) ?_
  refine sy rfl rfl (y_load_field (i := x16.toNat) (j := 0) 2 Try.isAgg3 rfl rfl reads_ro (map_get hxx24) rfl) ?_
  refine sy rfl rfl (y_assign rfl) ?_
  refine still_nil ?_
  refine goes_code ?_
  refine run_block ?_
  refine run_iter (step := graph_around_L2 n_0 via_1 v_2 v_2) (n := n) (s0 := (([x16] : List Int), x24.From)) h (G := Value) v17 (fun σ γ => [(1, via_1v), (2, .int .i64 v_2), (3, boxP b1 0), (7, γ), (8, .int .i64 σ.2)]) (fun σ γ => [ro via_1v 1 (via_1.map (eInt .i64)), box b1 [.int .i64 n_0.Nodes, n_0_Arcsv], ro n_0_Arcsv 4 (n_0.Arcs.map S_api_Arc.enc), row γ 1 (σ.1.map (eInt .i64))]) [0, 1, 2, 3] (qv5 rfl rfl rfl rfl rfl) (by decide) rfl ?_
  rintro ⟨cycle_25, w_26⟩ v27 o28 h L31 hgo29 hstop30
  change Run _ _ _ (VF.of [(1, via_1v), (2, .int .i64 v_2), (3, boxP b1 0), (7, v27), (8, .int .i64 w_26)]) [ro via_1v 1 (via_1.map (eInt .i64)), box b1 [.int .i64 n_0.Nodes, n_0_Arcsv], ro n_0_Arcsv 4 (n_0.Arcs.map S_api_Arc.enc), row v27 1 (cycle_25.map (eInt .i64))]
  refine run_seq ?_
  refine run_seq ?_
  refine run_region' ?_
  refine oy rfl rfl (y_move rfl) ?_
  refine oy rfl rfl (y_move rfl) ?_
  refine oy rfl rfl (y_neq rfl rfl) ?_
  refine ops_nil ?_
  refine goes_code ?_
  refine run_cond (decide (w_26 ≠ v_2)) rfl (fun hc32 => ?_) (fun hc32 => ?_)
  ·replace h := cond_t h hc32
   refine run_skip ?_
   refine goes_code ?_
   refine run_seq ?_
   refine run_block ?_
   refine run_region' ?_
   refine oy rfl rfl (y_move rfl) ?_
   refine oy rfl rfl (y_move rfl) ?_
   refine oy rfl rfl (y_move rfl) ?_
   obtain ⟨x33, hzx33, hlx33, hxx33, h⟩ := idx_some h
   refine oy rfl rfl (y_indexAddrI (kd := .i64) (i := w_26) 0 Try.runUnderlying34 Try.sizeOf3 rfl rfl rfl reads_ro hzx33 (map_lt hlx33)) ?_
   refine oy rfl rfl (y_load_elem (i := w_26.toNat) 0 Try.isAgg3 rfl rfl reads_ro (map_get hxx33)) ?_
   refine ot rfl rfl (t_lit [.int .i64 x33] Try.runUnderlying34 Try.sizeOf3 Try.zeroValue3 rfl (by decide) (by decide) rfl (by simp [Value.cells, boxP])) ?_
   rintro v34 _ ⟨rfl, _⟩
   refine ops_turn (retell 4 (g := row v34 1 (([x33] : List Int).map (eInt .i64))) rfl rfl) ?_
   obtain ⟨hr36, h⟩ := need_some h
   refine ot rfl rfl (t_append (es := 1) 3 rfl Try.runUnderlying34 rfl Try.runUnderlying34 (.inr ⟨_, rfl⟩) Try.typeInfo3 rfl (by decide) Try.zeroValue3 rfl rfl rfl rfl (src_reads 4 rfl reads_row (map_ok (eInt_ok _) _)) (map_room hr36 (by decide)) (map_fit hr36)) ?_
   rintro v35 _ rfl
   refine ops_turn (retell 3 (g := row v35 1 ((cycle_25 ++ ([x33] : List Int)).map (eInt .i64))) rfl (congrArg (row _ _) List.map_append.symm)) ?_
   refine oy rfl rfl (y_assign rfl) ?_
   refine ops_nil ?_
   refine goes_blk ?_
   refine goes_code ?_
   refine run_weak [(1, via_1v), (2, .int .i64 v_2), (3, boxP b1 0), (7, v35), (8, .int .i64 w_26)] [0, 1, 2, 3] [ro via_1v 1 (via_1.map (eInt .i64)), box b1 [.int .i64 n_0.Nodes, n_0_Arcsv], ro n_0_Arcsv 4 (n_0.Arcs.map S_api_Arc.enc), row v35 1 ((cycle_25 ++ ([x33] : List Int)).map (eInt .i64))] (qv5 rfl rfl rfl rfl rfl) (by decide) rfl ?_
   refine run_draw (by kernel_rfl) (by kernel_rfl) ?_
   refine sy rfl rfl (y_fieldAddr_box (sz := 0) Try.runUnderlying24 rfl Try.sizeOf22 rfl) ?_
   refine sy rfl rfl (y_load_box 1 Try.isAgg22 rfl rfl rfl) ?_
   refine sy rfl rfl (y_move rfl) ?_
   refine sy rfl rfl (y_move rfl) ?_
   refine sy rfl rfl (y_indexAddrI (kd := .i64) (i := w_26) 0 Try.runUnderlying34 Try.sizeOf3 rfl rfl rfl reads_ro hzx33 (map_lt hlx33)) ?_
   refine sy rfl rfl (y_load_elem (i := w_26.toNat) 0 Try.isAgg3 rfl rfl reads_ro (map_get hxx33)) ?_
   obtain ⟨x37, hzx37, hlx37, hxx37, h⟩ := idx_some h
   refine sy rfl rfl (y_indexAddrI (kd := .i64) (i := x33) 2 Try.runUnderlying22 Try.sizeOf67 rfl rfl rfl reads_ro hzx37 (map_lt hlx37)) ?_
   refine sy rfl rfl (y_fieldAddr_elem (sz := 0) Try.runUnderlying67 rfl Try.sizeOf3 rfl) ?_
   refine sy rfl rfl (y_load_field (i := x33.toNat) (j := 0) 2 Try.isAgg3 rfl rfl reads_ro (map_get hxx37) rfl) ?_
   refine sy rfl rfl (y_assign rfl) ?_
   refine still_nil ?_
   obtain rfl := some_eq h
   exact goes_iter hgo29 ((cycle_25 ++ ([x33] : List Int)), x37.From) v35 [0, 1, 2, 3] rfl (qv5 rfl rfl rfl rfl rfl) (by decide) rfl
  ·replace h := cond_f h hc32
   refine run_exit _ rfl ?_
   obtain rfl := some_eq h
   obtain rfl := hstop30 _ rfl
   exact goes_cut hL22 (cycle_25, v27) [3] (qv1 rfl) (by decide) rfl rfl
 rintro ⟨cycle_18, v19⟩ hj
 obtain rfl : o20 = _ := hj
 replace h := after_go ho21
 clear ho21
 change Run _ _ _ (VF.of [(7, v19)]) [row v19 1 (cycle_18.map (eInt .i64))]
 refine run_seq ?_
 refine run_region' ?_
 refine oy rfl rfl (y_move rfl) ?_
 obtain ⟨r38, hr39, h⟩ := obind_some h
 refine ot rfl rfl (t_callx (vs := [v19]) (cs := []) [(0, 2)] rfl Try.call62 rfl (slices_Reverse_int_int_62_v1_ok n cycle_18 v19 hr39) (showsX_lend 0 rfl showsX_nil) rfl (.inl rfl)) ?_
 rintro _ _ ⟨_, ⟨rfl, rfl⟩, rfl⟩
 refine ops_nil ?_
 refine goes_code ?_
 refine run_seq ?_
 refine run_region' ?_
 refine oy rfl rfl (y_move rfl) ?_
 refine oy rfl rfl (y_assign rfl) ?_
 refine ops_nil ?_
 refine goes_code ?_
 refine run_ret ?_
 obtain rfl := some_eq h
 refine fin_slots [6] [v19] [1] [row v19 1 (r38.map (eInt .i64))] Try.results40 rfl (by decide) rfl ?_
 exact ⟨_, rfl, rfl⟩

end Go.Proofs.Ytgelifcckhemiaa
