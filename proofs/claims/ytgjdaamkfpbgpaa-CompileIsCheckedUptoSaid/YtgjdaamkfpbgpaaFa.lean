/-
  Functions of the program, lifted: part 1.
-/
import Derived.Test.YtgjdaamkfpbgpaaChecked
import Derived.Test.YtgjdaamkfpbgpaaM1
import Derived.Test.YtgjdaamkfpbgpaaM0
namespace Go.Proofs.Ytgjdaamkfpbgpaa
open Go.Abs
set_option linter.unusedVariables false
set_option linter.unusedSimpArgs false
set_option maxRecDepth 20000
set_option maxHeartbeats 4000000

structure S_api_TExpr where
  Op : Int
  Type_ : Int
  N : Int
  Slot : Int
  S : (List UInt8)
  Args : (List S_api_TExpr)
structure S_api_TStmt where
  Kind : Int
  Slot : Int
  N : Int
  Name : (List UInt8)
  X : S_api_TExpr
  Body : (List S_api_TStmt)
  Else : (List S_api_TStmt)
structure S_api_Program where
  Name : (List UInt8)
  Effects : (List Int)
  Code : (List S_api_TStmt)
structure S_api_Instr where
  Op : Int
  A : Int
  S : (List UInt8)
  deriving DecidableEq, Repr
def S_api_Instr.enc (x : S_api_Instr) : List Value := [.int .i64 x.Op, .int .i64 x.A, .string (bs x.S)]
theorem S_api_Instr.enc_ok (x : S_api_Instr) : (S_api_Instr.enc x).length = 3 ∧ ∀ u ∈ S_api_Instr.enc x, u.oneCell' = true := by
  constructor
  · rfl
  · intro u hu; simp only [S_api_Instr.enc, List.mem_cons, List.not_mem_nil, or_false] at hu; rcases hu with rfl | rfl | rfl <;> rfl
structure S_api_Module where
  Name : (List UInt8)
  Effects : (List Int)
  Code : (List S_api_Instr)
  deriving DecidableEq, Repr
structure S_compile_maker where
  l_ : (List S_api_Instr)
  deriving DecidableEq, Repr
structure S_compile_types where
  stack_ : (List Int)
  slots_ : (List Int)
  loops_ : (List Int)
  deriving DecidableEq, Repr
def T_api_TExpr_48 : TC S_api_TExpr where
  G := Value
  es := 6
  F := fun x g => [.int .i64 x.Op, .int .i64 x.Type_, .int .i64 x.N, .int .i64 x.Slot, .string (bs x.S), g]
  fixed := fun x g => []
  kids := fun x g => [(g, x.Args)]
  free := by
    intro x g h hh
    cases hh
  ok := by
    intro x g w o k hf hk
    refine ⟨rfl, ?_⟩
    intro u hu
    simp only [List.mem_cons, List.not_mem_nil, or_false] at hu
    rcases hu with rfl | rfl | rfl | rfl | rfl | rfl <;> first | rfl | exact one_slice (hk _ (.head _))
abbrev NC_api_TExpr_48 : NC S_api_TExpr := T_api_TExpr_48.nc

def T_api_TStmt_50 : TC S_api_TStmt where
  G := Value × Value × Value
  es := 12
  F := fun x g => [.int .i64 x.Kind, .int .i64 x.Slot, .int .i64 x.N, .string (bs x.Name), .int .i64 x.X.Op, .int .i64 x.X.Type_, .int .i64 x.X.N, .int .i64 x.X.Slot, .string (bs x.X.S), g.1, g.2.1, g.2.2]
  fixed := fun x g => [nro g.1 NC_api_TExpr_48 x.X.Args]
  kids := fun x g => [(g.2.1, x.Body), (g.2.2, x.Else)]
  free := by
    intro x g h hh
    simp only [List.mem_cons, List.not_mem_nil, or_false] at hh
    rcases hh with rfl <;> first | exact free_ro | exact free_nro
  ok := by
    intro x g w o k hf hk
    refine ⟨rfl, ?_⟩
    intro u hu
    simp only [List.mem_cons, List.not_mem_nil, or_false] at hu
    rcases hu with rfl | rfl | rfl | rfl | rfl | rfl | rfl | rfl | rfl | rfl | rfl | rfl <;> first | rfl | exact ro_one (hf _ (.head _)) | exact nro_one (hf _ (.head _)) | exact one_slice (hk _ (.head _)) | exact one_slice (hk _ (.tail _ (.head _)))
abbrev NC_api_TStmt_50 : NC S_api_TStmt := T_api_TStmt_50.nc

def NC_compile_types_71 : NC S_compile_types where
  G := Value × Value × Value
  es := 3
  F := fun x g => [g.1, g.2.1, g.2.2]
  S := fun x g => [ro g.1 1 (x.stack_.map (eInt .i64)), ro g.2.1 1 (x.slots_.map (eInt .i64)), ro g.2.2 1 (x.loops_.map (eInt .i64))]
  free := by
    intro x g h hh
    simp only [List.mem_cons, List.not_mem_nil, or_false] at hh
    rcases hh with rfl | rfl | rfl <;> first | exact free_ro | exact free_nro
  ok := by
    intro x g w o k hh
    refine ⟨rfl, ?_⟩
    intro u hu
    simp only [List.mem_cons, List.not_mem_nil, or_false] at hu
    rcases hu with rfl | rfl | rfl <;> first | rfl | exact ro_one (hh _ (.head _)) | exact nro_one (hh _ (.head _)) | exact ro_one (hh _ (.tail _ (.head _))) | exact nro_one (hh _ (.tail _ (.head _))) | exact ro_one (hh _ (.tail _ (.tail _ (.head _)))) | exact nro_one (hh _ (.tail _ (.tail _ (.head _))))

def NC_L_uint8_40 : NC (List UInt8) where
  G := Value
  es := 1
  F := fun x g => [g]
  S := fun x g => [ro g 1 (x.map eB8)]
  free := by
    intro x g h hh
    simp only [List.mem_cons, List.not_mem_nil, or_false] at hh
    rcases hh with rfl <;> first | exact free_ro | exact free_nro
  ok := by
    intro x g w o k hh
    refine ⟨rfl, ?_⟩
    intro u hu
    simp only [List.mem_cons, List.not_mem_nil, or_false] at hu
    rcases hu with rfl <;> first | rfl | exact ro_one (hh _ (.head _)) | exact nro_one (hh _ (.head _))

def law28_example  : Option (S_api_Program) :=
 some (S_api_Program.mk [112] ([] : List Int) ([(S_api_TStmt.mk 1 0 0 [] (S_api_TExpr.mk 1 1 1 0 [] []) [] []), (S_api_TStmt.mk 5 0 0 [] (S_api_TExpr.mk 15 3 0 0 [] ([(S_api_TExpr.mk 3 1 0 0 [] []), (S_api_TExpr.mk 1 1 2 0 [] [])] : List S_api_TExpr)) ([(S_api_TStmt.mk 7 0 0 [] (S_api_TExpr.mk 2 2 0 0 [97] []) [] [])] : List S_api_TStmt) [])] : List S_api_TStmt))
theorem law28_example_ok   {r : S_api_Program} (h : law28_example = some r) :
  Meets Try.prog 18 [] [] (fun v G => ∃ v0 v1, v = .agg #[.string (bs r.Name), v0, v1] ∧ G = [row v0 1 (r.Effects.map (eInt .i64)), nrow v1 NC_api_TStmt_50 r.Code]) := by
 refine fn_of_run Try.func18 rfl Try.ntmps18 rfl (fun w0 o0 => ?_)
 refine run_seq ?_
 refine run_region' ?_
 refine ot rfl rfl (t_alloc Try.zeroValue25) ?_
 rintro _ _ ⟨b1, rfl, rfl⟩
 refine ops_nil ?_
 refine goes_code ?_
 refine run_seq ?_
 refine run_region' ?_
 refine oy rfl rfl (y_build_struct (cells := #[.int .i64 1, .int .i64 1, .int .i64 1, .int .i64 0, .string (bs []), .slice none 0 0]) [(0, .int .i64 1), (1, .int .i64 1), (2, .int .i64 1)] [(0, [.int .i64 1]), (1, [.int .i64 1]), (2, [.int .i64 1])] Try.zeroValue48 Try.runUnderlying48 (fs_cons Try.sizeOf3 (fs_cons Try.sizeOf3 (fs_cons Try.sizeOf3 (fs_cons Try.sizeOf3 (fs_cons Try.sizeOf9 (fs_cons Try.sizeOf46 fs_nil)))))) rfl rfl rfl) ?_
 refine ot rfl rfl (t_alloc Try.zeroValue48) ?_
 rintro _ _ ⟨b2, rfl, rfl⟩
 refine ot rfl rfl (t_store 1 Try.sizeOf48 rfl rfl rfl rfl (by simp [Value.cells, boxP]) (by simp [Value.cells, Value.oneCell', boxP])) ?_
 rintro _ _ ⟨rfl, rfl⟩
 refine ops_turn (retell 1 (g := box b2 [.int .i64 1, .int .i64 1, .int .i64 1, .int .i64 0, .string (bs []), .slice none 0 0]) rfl rfl) ?_
 refine ops_nil ?_
 refine goes_code ?_
 refine run_seq ?_
 refine run_region' ?_
 refine oy rfl rfl (y_build_struct (cells := #[.int .i64 3, .int .i64 1, .int .i64 0, .int .i64 0, .string (bs []), .slice none 0 0]) [(0, .int .i64 3), (1, .int .i64 1)] [(0, [.int .i64 3]), (1, [.int .i64 1])] Try.zeroValue48 Try.runUnderlying48 (fs_cons Try.sizeOf3 (fs_cons Try.sizeOf3 (fs_cons Try.sizeOf3 (fs_cons Try.sizeOf3 (fs_cons Try.sizeOf9 (fs_cons Try.sizeOf46 fs_nil)))))) rfl rfl rfl) ?_
 refine oy rfl rfl (y_build_struct (cells := #[.int .i64 1, .int .i64 1, .int .i64 2, .int .i64 0, .string (bs []), .slice none 0 0]) [(0, .int .i64 1), (1, .int .i64 1), (2, .int .i64 2)] [(0, [.int .i64 1]), (1, [.int .i64 1]), (2, [.int .i64 2])] Try.zeroValue48 Try.runUnderlying48 (fs_cons Try.sizeOf3 (fs_cons Try.sizeOf3 (fs_cons Try.sizeOf3 (fs_cons Try.sizeOf3 (fs_cons Try.sizeOf9 (fs_cons Try.sizeOf46 fs_nil)))))) rfl rfl rfl) ?_
 refine ot rfl rfl (t_lit [.agg #[.int .i64 3, .int .i64 1, .int .i64 0, .int .i64 0, .string (bs []), .slice none 0 0], .agg #[.int .i64 1, .int .i64 1, .int .i64 2, .int .i64 0, .string (bs []), .slice none 0 0]] Try.runUnderlying46 Try.sizeOf48 Try.zeroValue48 rfl (by decide) (by decide) rfl (by intro q hq; simp only [List.mem_cons, List.not_mem_nil, or_false] at hq; rcases hq with rfl | rfl <;> first | rfl)) ?_
 rintro v3 _ ⟨rfl, _⟩
 refine ops_turn (turn_closeR (C := NC_api_TExpr_48) (l := ([(S_api_TExpr.mk 3 1 0 0 [] []), (S_api_TExpr.mk 1 1 2 0 [] [])] : List S_api_TExpr)) 2 [((S_api_TExpr.mk 3 1 0 0 [] []), (.slice none 0 0)), ((S_api_TExpr.mk 1 1 2 0 [] []), (.slice none 0 0))] rfl rfl rfl (hasall_cons (has_tree (T := T_api_TExpr_48) (has_true nil_nro_any has_nil)) (hasall_cons (has_tree (T := T_api_TExpr_48) (has_true nil_nro_any has_nil)) hasall_nil))) ?_
 refine ops_slcN 2 rfl readsN_row (fun hs4 hs4o => ?_)
 refine oy rfl rfl (y_build_struct (cells := #[.int .i64 15, .int .i64 3, .int .i64 0, .int .i64 0, .string (bs []), v3]) [(0, .int .i64 15), (1, .int .i64 3), (5, v3)] [(0, [.int .i64 15]), (1, [.int .i64 3]), (5, [v3])] Try.zeroValue48 Try.runUnderlying48 (fs_cons Try.sizeOf3 (fs_cons Try.sizeOf3 (fs_cons Try.sizeOf3 (fs_cons Try.sizeOf3 (fs_cons Try.sizeOf9 (fs_cons Try.sizeOf46 fs_nil)))))) rfl (by first | (simp only [List.map_cons, List.map_nil, hs4]; done) | (simp only [List.map_cons, List.map_nil, hs4]; rfl)) rfl) ?_
 refine ot rfl rfl (t_alloc Try.zeroValue48) ?_
 rintro _ _ ⟨b5, rfl, rfl⟩
 refine ops_slcN 2 rfl readsN_row (fun hs6 hs6o => ?_)
 refine ot rfl rfl (t_store 3 Try.sizeOf48 rfl rfl rfl rfl (by simp [Value.cells, boxP]) (allL_cons rfl (allL_cons rfl (allL_cons rfl (allL_cons rfl (allL_cons rfl (allL_cons hs6o (allL_nil)))))))) ?_
 rintro _ _ ⟨rfl, rfl⟩
 refine ops_turn (retell 3 (g := box b5 [.int .i64 15, .int .i64 3, .int .i64 0, .int .i64 0, .string (bs []), v3]) rfl rfl) ?_
 refine ops_nil ?_
 refine goes_code ?_
 refine run_seq ?_
 refine run_weak [(0, boxP b1 0), (1, boxP b2 0), (2, boxP b5 0)] [0, 1, 2, 3] [box b1 [.string (bs []), .slice none 0 0, .slice none 0 0], box b2 [.int .i64 1, .int .i64 1, .int .i64 1, .int .i64 0, .string (bs []), .slice none 0 0], nrow v3 NC_api_TExpr_48 ([(S_api_TExpr.mk 3 1 0 0 [] []), (S_api_TExpr.mk 1 1 2 0 [] [])] : List S_api_TExpr), box b5 [.int .i64 15, .int .i64 3, .int .i64 0, .int .i64 0, .string (bs []), v3]] (qv3 rfl rfl rfl) (by decide) rfl ?_
 refine run_region' ?_
 refine oy rfl rfl (y_build_struct (cells := #[.int .i64 2, .int .i64 2, .int .i64 0, .int .i64 0, .string (bs [97]), .slice none 0 0]) [(0, .int .i64 2), (1, .int .i64 2), (4, .string (bs [97]))] [(0, [.int .i64 2]), (1, [.int .i64 2]), (4, [.string (bs [97])])] Try.zeroValue48 Try.runUnderlying48 (fs_cons Try.sizeOf3 (fs_cons Try.sizeOf3 (fs_cons Try.sizeOf3 (fs_cons Try.sizeOf3 (fs_cons Try.sizeOf9 (fs_cons Try.sizeOf46 fs_nil)))))) rfl rfl rfl) ?_
 refine oy rfl rfl (y_build_struct (cells := #[.int .i64 7, .int .i64 0, .int .i64 0, .string (bs []), .int .i64 2, .int .i64 2, .int .i64 0, .int .i64 0, .string (bs [97]), .slice none 0 0, .slice none 0 0, .slice none 0 0]) [(0, .int .i64 7), (4, .agg #[.int .i64 2, .int .i64 2, .int .i64 0, .int .i64 0, .string (bs [97]), .slice none 0 0])] [(0, [.int .i64 7]), (4, [.int .i64 2, .int .i64 2, .int .i64 0, .int .i64 0, .string (bs [97]), .slice none 0 0])] Try.zeroValue50 Try.runUnderlying50 (fs_cons Try.sizeOf3 (fs_cons Try.sizeOf3 (fs_cons Try.sizeOf3 (fs_cons Try.sizeOf9 (fs_cons Try.sizeOf48 (fs_cons Try.sizeOf23 (fs_cons Try.sizeOf23 fs_nil))))))) rfl (by kernel_rfl) (by kernel_rfl)) ?_
 refine ot rfl rfl (t_alloc Try.zeroValue50) ?_
 rintro _ _ ⟨b7, rfl, rfl⟩
 refine ot rfl rfl (t_store 4 Try.sizeOf50 rfl rfl rfl rfl (by simp [Value.cells, boxP]) (by simp [Value.cells, Value.oneCell', boxP])) ?_
 rintro _ _ ⟨rfl, rfl⟩
 refine ops_turn (retell 4 (g := box b7 [.int .i64 7, .int .i64 0, .int .i64 0, .string (bs []), .int .i64 2, .int .i64 2, .int .i64 0, .int .i64 0, .string (bs [97]), .slice none 0 0, .slice none 0 0, .slice none 0 0]) rfl (by kernel_rfl)) ?_
 refine ops_nil ?_
 refine goes_code ?_
 refine run_seq ?_
 refine run_region' ?_
 refine oy rfl rfl (y_load_boxagg (c := [.int .i64 1, .int .i64 1, .int .i64 1, .int .i64 0, .string (bs []), .slice none 0 0]) 1 Try.isAgg48 Try.sizeOf48 rfl rfl rfl) ?_
 refine oy rfl rfl (y_build_struct (cells := #[.int .i64 1, .int .i64 0, .int .i64 0, .string (bs []), .int .i64 1, .int .i64 1, .int .i64 1, .int .i64 0, .string (bs []), .slice none 0 0, .slice none 0 0, .slice none 0 0]) [(0, .int .i64 1), (4, .agg #[.int .i64 1, .int .i64 1, .int .i64 1, .int .i64 0, .string (bs []), .slice none 0 0])] [(0, [.int .i64 1]), (4, [.int .i64 1, .int .i64 1, .int .i64 1, .int .i64 0, .string (bs []), .slice none 0 0])] Try.zeroValue50 Try.runUnderlying50 (fs_cons Try.sizeOf3 (fs_cons Try.sizeOf3 (fs_cons Try.sizeOf3 (fs_cons Try.sizeOf9 (fs_cons Try.sizeOf48 (fs_cons Try.sizeOf23 (fs_cons Try.sizeOf23 fs_nil))))))) rfl (by kernel_rfl) (by kernel_rfl)) ?_
 refine oy rfl rfl (y_load_boxagg (c := [.int .i64 15, .int .i64 3, .int .i64 0, .int .i64 0, .string (bs []), v3]) 3 Try.isAgg48 Try.sizeOf48 rfl rfl rfl) ?_
 refine oy rfl rfl (y_load_boxagg (c := [.int .i64 7, .int .i64 0, .int .i64 0, .string (bs []), .int .i64 2, .int .i64 2, .int .i64 0, .int .i64 0, .string (bs [97]), .slice none 0 0, .slice none 0 0, .slice none 0 0]) 4 Try.isAgg50 Try.sizeOf50 rfl rfl rfl) ?_
 refine ot rfl rfl (t_lit [.agg #[.int .i64 7, .int .i64 0, .int .i64 0, .string (bs []), .int .i64 2, .int .i64 2, .int .i64 0, .int .i64 0, .string (bs [97]), .slice none 0 0, .slice none 0 0, .slice none 0 0]] Try.runUnderlying23 Try.sizeOf50 Try.zeroValue50 rfl (by decide) (by decide) rfl (by intro q hq; simp only [List.mem_cons, List.not_mem_nil, or_false] at hq; rcases hq with rfl <;> first | rfl)) ?_
 rintro v8 _ ⟨rfl, _⟩
 refine ops_turn (turn_closeR (C := NC_api_TStmt_50) (l := ([(S_api_TStmt.mk 7 0 0 [] (S_api_TExpr.mk 2 2 0 0 [97] []) [] [])] : List S_api_TStmt)) 5 [((S_api_TStmt.mk 7 0 0 [] (S_api_TExpr.mk 2 2 0 0 [97] []) [] []), ((.slice none 0 0), (.slice none 0 0), (.slice none 0 0)))] rfl rfl rfl (hasall_cons (has_tree (T := T_api_TStmt_50) (has_true nil_nro_any (has_true nil_nro_any (has_true nil_nro_any has_nil)))) hasall_nil)) ?_
 refine ops_slcN 2 rfl readsN_row (fun hs9 hs9o => ?_)
 refine ops_slcN 5 rfl readsN_row (fun hs10 hs10o => ?_)
 refine oy rfl rfl (y_build_struct (cells := #[.int .i64 5, .int .i64 0, .int .i64 0, .string (bs []), .int .i64 15, .int .i64 3, .int .i64 0, .int .i64 0, .string (bs []), v3, v8, .slice none 0 0]) [(0, .int .i64 5), (4, .agg #[.int .i64 15, .int .i64 3, .int .i64 0, .int .i64 0, .string (bs []), v3]), (5, v8)] [(0, [.int .i64 5]), (4, [.int .i64 15, .int .i64 3, .int .i64 0, .int .i64 0, .string (bs []), v3]), (5, [v8])] Try.zeroValue50 Try.runUnderlying50 (fs_cons Try.sizeOf3 (fs_cons Try.sizeOf3 (fs_cons Try.sizeOf3 (fs_cons Try.sizeOf9 (fs_cons Try.sizeOf48 (fs_cons Try.sizeOf23 (fs_cons Try.sizeOf23 fs_nil))))))) rfl (by first | (simp only [List.map_cons, List.map_nil, hs9, hs10]; done) | (simp only [List.map_cons, List.map_nil, hs9, hs10]; rfl)) rfl) ?_
 refine ops_turn (freezeN 2 rfl) ?_
 refine ops_turn (freezeN 5 rfl) ?_
 refine ops_slcN 2 rfl readsN_ro (fun hs12 hs12o => ?_)
 refine ops_slcN 5 rfl readsN_ro (fun hs13 hs13o => ?_)
 refine ot rfl rfl (t_lit [.agg #[.int .i64 1, .int .i64 0, .int .i64 0, .string (bs []), .int .i64 1, .int .i64 1, .int .i64 1, .int .i64 0, .string (bs []), .slice none 0 0, .slice none 0 0, .slice none 0 0], .agg #[.int .i64 5, .int .i64 0, .int .i64 0, .string (bs []), .int .i64 15, .int .i64 3, .int .i64 0, .int .i64 0, .string (bs []), v3, v8, .slice none 0 0]] Try.runUnderlying23 Try.sizeOf50 Try.zeroValue50 rfl (by decide) (by decide) rfl (by intro q hq; simp only [List.mem_cons, List.not_mem_nil, or_false] at hq; rcases hq with rfl | rfl <;> first | rfl | (rw [hs12]; rfl) | (rw [hs13]; rfl))) ?_
 rintro v11 _ ⟨rfl, _⟩
 refine ops_turn (turn_closeR (C := NC_api_TStmt_50) (l := ([(S_api_TStmt.mk 1 0 0 [] (S_api_TExpr.mk 1 1 1 0 [] []) [] []), (S_api_TStmt.mk 5 0 0 [] (S_api_TExpr.mk 15 3 0 0 [] ([(S_api_TExpr.mk 3 1 0 0 [] []), (S_api_TExpr.mk 1 1 2 0 [] [])] : List S_api_TExpr)) ([(S_api_TStmt.mk 7 0 0 [] (S_api_TExpr.mk 2 2 0 0 [97] []) [] [])] : List S_api_TStmt) [])] : List S_api_TStmt)) 6 [((S_api_TStmt.mk 1 0 0 [] (S_api_TExpr.mk 1 1 1 0 [] []) [] []), ((.slice none 0 0), (.slice none 0 0), (.slice none 0 0))), ((S_api_TStmt.mk 5 0 0 [] (S_api_TExpr.mk 15 3 0 0 [] ([(S_api_TExpr.mk 3 1 0 0 [] []), (S_api_TExpr.mk 1 1 2 0 [] [])] : List S_api_TExpr)) ([(S_api_TStmt.mk 7 0 0 [] (S_api_TExpr.mk 2 2 0 0 [97] []) [] [])] : List S_api_TStmt) []), (v3, v8, (.slice none 0 0)))] rfl (by simp only [List.map_cons, List.map_nil, hs12, hs13]; rfl) rfl (hasall_cons (has_tree (T := T_api_TStmt_50) (has_true nil_nro_any (has_true nil_nro_any (has_true nil_nro_any has_nil)))) (hasall_cons (has_tree (T := T_api_TStmt_50) (has_cons 2 rfl (has_cons 5 rfl (has_true nil_nro_any has_nil)))) hasall_nil))) ?_
 refine ops_slcN 6 rfl readsN_row (fun hs14 hs14o => ?_)
 refine oy rfl rfl (y_build_struct (cells := #[.string (bs [112]), .slice none 0 0, v11]) [(0, .string (bs [112])), (2, v11)] [(0, [.string (bs [112])]), (2, [v11])] Try.zeroValue25 Try.runUnderlying25 (fs_cons Try.sizeOf9 (fs_cons Try.sizeOf22 (fs_cons Try.sizeOf23 fs_nil))) rfl (by first | (simp only [List.map_cons, List.map_nil, hs14]; done) | (simp only [List.map_cons, List.map_nil, hs14]; rfl)) rfl) ?_
 refine ops_slcN 6 rfl readsN_row (fun hs15 hs15o => ?_)
 refine ot rfl rfl (t_store 0 Try.sizeOf25 rfl rfl rfl rfl (by simp [Value.cells, boxP]) (allL_cons rfl (allL_cons rfl (allL_cons hs15o (allL_nil))))) ?_
 rintro _ _ ⟨rfl, rfl⟩
 refine ops_turn (retell 0 (g := box b1 [.string (bs [112]), .slice none 0 0, v11]) rfl rfl) ?_
 refine ops_nil ?_
 refine goes_code ?_
 refine run_ret ?_
 refine fin_turn (nilrow 1) ?_
 refine fin_turn (retell 7 (g := row (.slice none 0 0) 1 (([] : List Int).map (eInt .i64))) rfl rfl) ?_
 obtain rfl := some_eq h
 refine fin_res [.cell 0 25] [.agg #[.string (bs [112]), (.slice none 0 0), v11]] [7, 6] [row (.slice none 0 0) 1 (([] : List Int).map (eInt .i64)), nrow v11 NC_api_TStmt_50 ([(S_api_TStmt.mk 1 0 0 [] (S_api_TExpr.mk 1 1 1 0 [] []) [] []), (S_api_TStmt.mk 5 0 0 [] (S_api_TExpr.mk 15 3 0 0 [] ([(S_api_TExpr.mk 3 1 0 0 [] []), (S_api_TExpr.mk 1 1 2 0 [] [])] : List S_api_TExpr)) ([(S_api_TStmt.mk 7 0 0 [] (S_api_TExpr.mk 2 2 0 0 [97] []) [] [])] : List S_api_TStmt) [])] : List S_api_TStmt)] Try.results18 rfl (rescons (res_box 0 Try.isAgg25 Try.sizeOf25 rfl rfl rfl) resnil) (by decide) rfl ?_
 exact ⟨_, _, rfl, rfl⟩

def weirgate_compile_maker_put_41 (m_0 : S_compile_maker) (op_1 : Int) (a_2 : Int) (s_3 : (List UInt8)) : Option (Int × S_compile_maker) :=
 need (m_0.l_.length + ([(S_api_Instr.mk op_1 a_2 s_3)] : List S_api_Instr).length ≤ 4294967296) (
 some ((IntKind.i64.wrap (((m_0.l_ ++ ([(S_api_Instr.mk op_1 a_2 s_3)] : List S_api_Instr)).length : Int) - 1)), (S_compile_maker.mk (m_0.l_ ++ ([(S_api_Instr.mk op_1 a_2 s_3)] : List S_api_Instr)))))
theorem weirgate_compile_maker_put_41_ok (m_0 : S_compile_maker) (op_1 : Int) (a_2 : Int) (s_3 : (List UInt8)) (m_0b : Nat) (m_0_l_v : Value) {r : Int × S_compile_maker} (h : weirgate_compile_maker_put_41 m_0 op_1 a_2 s_3 = some r) :
  Meets Try.prog 41 [boxP m_0b 0, .int .i64 op_1, .int .i64 a_2, .string (bs s_3)] [row m_0_l_v 3 (m_0.l_.map S_api_Instr.enc), box m_0b [m_0_l_v]] (fun v G => ∃ v0, v = .int .i64 r.1 ∧ G = [row v0 3 (r.2.l_.map S_api_Instr.enc), box m_0b [v0]]) := by
 refine fn_of_run Try.func41 rfl Try.ntmps41 rfl (fun w0 o0 => ?_)
 refine run_seq ?_
 refine run_region' ?_
 refine oy rfl rfl (y_assign rfl) ?_
 refine ops_nil ?_
 refine goes_code ?_
 refine run_seq ?_
 refine run_region' ?_
 refine oy rfl rfl (y_move rfl) ?_
 refine oy rfl rfl (y_move rfl) ?_
 refine oy rfl rfl (y_nilBox rfl) ?_
 refine oy rfl rfl (y_fieldAddr_box (sz := 0) Try.runUnderlying58 rfl Try.sizeOf29 rfl) ?_
 refine oy rfl rfl (y_load_box 1 Try.isAgg29 rfl rfl rfl) ?_
 refine oy rfl rfl (y_move rfl) ?_
 refine oy rfl rfl (y_move rfl) ?_
 refine oy rfl rfl (y_move rfl) ?_
 refine oy rfl rfl (y_build_struct (cells := #[.int .i64 op_1, .int .i64 a_2, .string (bs s_3)]) [(0, .int .i64 op_1), (1, .int .i64 a_2), (2, .string (bs s_3))] [(0, [.int .i64 op_1]), (1, [.int .i64 a_2]), (2, [.string (bs s_3)])] Try.zeroValue55 Try.runUnderlying55 (fs_cons Try.sizeOf3 (fs_cons Try.sizeOf3 (fs_cons Try.sizeOf9 fs_nil))) rfl rfl rfl) ?_
 refine ot rfl rfl (t_lit [.agg #[.int .i64 op_1, .int .i64 a_2, .string (bs s_3)]] Try.runUnderlying29 Try.sizeOf55 Try.zeroValue55 rfl (by decide) (by decide) rfl (by simp [Value.cells, boxP])) ?_
 rintro v1 _ ⟨rfl, _⟩
 refine ops_turn (retell 2 (g := row v1 3 (([(S_api_Instr.mk op_1 a_2 s_3)] : List S_api_Instr).map S_api_Instr.enc)) rfl rfl) ?_
 obtain ⟨hr3, h⟩ := need_some h
 refine ot rfl rfl (t_append (es := 3) 0 rfl Try.runUnderlying29 rfl Try.runUnderlying29 (.inr ⟨_, rfl⟩) Try.typeInfo55 rfl (by decide) Try.zeroValue55 rfl rfl rfl rfl (src_reads 2 rfl reads_row (map_ok S_api_Instr.enc_ok _)) (map_room hr3 (by decide)) (map_fit hr3)) ?_
 rintro v2 _ rfl
 refine ops_turn (retell 0 (g := row v2 3 ((m_0.l_ ++ ([(S_api_Instr.mk op_1 a_2 s_3)] : List S_api_Instr)).map S_api_Instr.enc)) rfl (congrArg (row _ _) List.map_append.symm)) ?_
 refine oy rfl rfl (y_nilBox rfl) ?_
 refine oy rfl rfl (y_fieldAddr_box (sz := 0) Try.runUnderlying58 rfl Try.sizeOf29 rfl) ?_
 refine ops_slc 0 rfl reads_row (fun hs4 hs4o => ?_)
 refine ot rfl rfl (t_store 1 Try.sizeOf29 rfl rfl rfl (by rw [hs4]; rfl) (by simp [Value.cells, boxP]) (by rw [hs4]; exact allL_cons hs4o (allL_nil))) ?_
 rintro _ _ ⟨rfl, rfl⟩
 refine ops_turn (retell 1 (g := box m_0b [v2]) rfl (by rw [hs4]; rfl)) ?_
 refine ops_nil ?_
 refine goes_code ?_
 refine run_seq ?_
 refine run_weak [(0, boxP m_0b 0)] [0, 1] [row v2 3 ((m_0.l_ ++ ([(S_api_Instr.mk op_1 a_2 s_3)] : List S_api_Instr)).map S_api_Instr.enc), box m_0b [v2]] (qv1 rfl) (by decide) rfl ?_
 refine run_region' ?_
 refine oy rfl rfl (y_move rfl) ?_
 refine oy rfl rfl (y_nilBox rfl) ?_
 refine oy rfl rfl (y_fieldAddr_box (sz := 0) Try.runUnderlying58 rfl Try.sizeOf29 rfl) ?_
 refine oy rfl rfl (y_load_box 1 Try.isAgg29 rfl rfl rfl) ?_
 refine oy rfl rfl ((y_len 0 rfl Try.runUnderlying29 rfl rfl reads_row).to (v_len S_api_Instr.enc _)) ?_
 refine oy rfl rfl (y_sub rfl rfl) ?_
 refine oy rfl rfl (y_assign rfl) ?_
 refine ops_nil ?_
 refine goes_code ?_
 refine run_ret ?_
 obtain rfl := some_eq h
 refine fin_slots [8] [.int .i64 (IntKind.i64.wrap (((m_0.l_ ++ ([(S_api_Instr.mk op_1 a_2 s_3)] : List S_api_Instr)).length : Int) - 1))] [0, 1] [row v2 3 ((m_0.l_ ++ ([(S_api_Instr.mk op_1 a_2 s_3)] : List S_api_Instr)).map S_api_Instr.enc), box m_0b [v2]] Try.results41 rfl (by decide) rfl ?_
 exact ⟨_, rfl, rfl⟩

def weirgate_compile_maker_expr_42_L1 (x_1 : S_api_TExpr) (rec_weirgate_compile_maker_expr_42 : S_compile_maker → S_api_TExpr → Option (S_compile_maker)) : (Int × (List S_api_Instr)) → Option (Lp (Int × (List S_api_Instr)) (Lp ((List S_api_Instr)) (S_compile_maker))) :=
 fun (s_8, x_9) =>
  cond (decide (s_8 < (x_1.Args.length : Int)))
   (idx x_1.Args s_8 fun x16 =>
   obind (rec_weirgate_compile_maker_expr_42 (S_compile_maker.mk x_9) x16) fun r20 =>
   some (.go ((IntKind.i64.wrap (s_8 + 1)), r20.l_)))
   (some (.stop (.go x_9)))
def weirgate_compile_maker_expr_42_body (n : Nat) (rec_weirgate_compile_maker_expr_42 : S_compile_maker → S_api_TExpr → Option (S_compile_maker)) (m_0 : S_compile_maker) (x_1 : S_api_TExpr) : Option (S_compile_maker) :=
 bindJ (S := (List S_api_Instr))
  (iter (weirgate_compile_maker_expr_42_L1 x_1 rec_weirgate_compile_maker_expr_42) n (0, m_0.l_))
 (fun x_2 =>
  cond (decide (x_1.Op = 1))
   (obind (weirgate_compile_maker_put_41 (S_compile_maker.mk x_2) x_1.Op x_1.N []) fun r24 =>
   some r24.2)
   (cond (decide (x_1.Op = 3))
    (obind (weirgate_compile_maker_put_41 (S_compile_maker.mk x_2) x_1.Op x_1.Slot []) fun r28 =>
    some r28.2)
    (bindJ (S := Bool)
     (cond (decide (x_1.Op = 2))
      (some (.go (decide (x_1.Op = 2))))
      (some (.go (decide (x_1.Op = 6)))))
    (fun s_31 =>
     cond s_31
      (obind (weirgate_compile_maker_put_41 (S_compile_maker.mk x_2) x_1.Op 0 x_1.S) fun r38 =>
      some r38.2)
      (cond (decide (x_1.Op = 23))
       (obind (weirgate_compile_maker_put_41 (S_compile_maker.mk x_2) x_1.Op (x_1.Args.length : Int) []) fun r42 =>
       some r42.2)
       (obind (weirgate_compile_maker_put_41 (S_compile_maker.mk x_2) x_1.Op 0 []) fun r45 =>
       some r45.2))))))
theorem weirgate_compile_maker_expr_42_body_ok (n : Nat) (rec_weirgate_compile_maker_expr_42 : S_compile_maker → S_api_TExpr → Option (S_compile_maker)) (hrec_weirgate_compile_maker_expr_42 : ∀ (m_0 : S_compile_maker) (x_1 : S_api_TExpr) (m_0b : Nat) (m_0_l_v : Value) (x_1_Argsv : Value) {r : S_compile_maker}, rec_weirgate_compile_maker_expr_42 m_0 x_1 = some r → Meets Try.prog 42 [boxP m_0b 0, .agg #[.int .i64 x_1.Op, .int .i64 x_1.Type_, .int .i64 x_1.N, .int .i64 x_1.Slot, .string (bs x_1.S), x_1_Argsv]] [row m_0_l_v 3 (m_0.l_.map S_api_Instr.enc), box m_0b [m_0_l_v], nro x_1_Argsv NC_api_TExpr_48 x_1.Args] (fun v G => ∃ v0, v = .tuple #[] ∧ G = [row v0 3 (r.l_.map S_api_Instr.enc), box m_0b [v0]])) (m_0 : S_compile_maker) (x_1 : S_api_TExpr) (m_0b : Nat) (m_0_l_v : Value) (x_1_Argsv : Value) {r : S_compile_maker} (h : weirgate_compile_maker_expr_42_body n rec_weirgate_compile_maker_expr_42 m_0 x_1 = some r) :
  Meets Try.prog 42 [boxP m_0b 0, .agg #[.int .i64 x_1.Op, .int .i64 x_1.Type_, .int .i64 x_1.N, .int .i64 x_1.Slot, .string (bs x_1.S), x_1_Argsv]] [row m_0_l_v 3 (m_0.l_.map S_api_Instr.enc), box m_0b [m_0_l_v], nro x_1_Argsv NC_api_TExpr_48 x_1.Args] (fun v G => ∃ v0, v = .tuple #[] ∧ G = [row v0 3 (r.l_.map S_api_Instr.enc), box m_0b [v0]]) := by
 refine fn_of_run Try.func42 rfl Try.ntmps42 rfl (fun w0 o0 => ?_)
 refine run_seq ?_
 refine run_region' ?_
 refine ot rfl rfl (t_box rfl) ?_
 rintro _ _ ⟨b1, rfl, rfl⟩
 refine ops_nil ?_
 refine goes_code ?_
 obtain ⟨o4, h, ho5⟩ := bindJ_some h
 refine run_cut (((List S_api_Instr)) × (Value)) (fun σ => [(0, boxP m_0b 0), (3, boxP b1 0)]) (fun σ => [box m_0b [σ.2], row σ.2 3 (σ.1.map S_api_Instr.enc), box b1 [.int .i64 x_1.Op, .int .i64 x_1.Type_, .int .i64 x_1.N, .int .i64 x_1.Slot, .string (bs x_1.S), x_1_Argsv], nro x_1_Argsv NC_api_TExpr_48 x_1.Args]) (fun σ => o4 = .go σ.1) (fun L7 hL6 => ?_) ?_
 ·
  refine run_seq ?_
  refine run_region' ?_
  refine oy rfl rfl (y_fieldAddr_box (sz := 0) Try.runUnderlying48 rfl Try.sizeOf46 rfl) ?_
  refine oy rfl rfl (y_load_box 3 Try.isAgg46 rfl rfl rfl) ?_
  refine oy rfl rfl (y_lenN 2 rfl Try.runUnderlying46 rfl rfl readsN_ro) ?_
  refine oy rfl rfl (y_move rfl) ?_
  refine ops_nil ?_
  refine goes_code ?_
  refine run_block ?_
  refine run_iter (step := weirgate_compile_maker_expr_42_L1 x_1 rec_weirgate_compile_maker_expr_42) (n := n) (s0 := (0, m_0.l_)) h (G := Value) m_0_l_v (fun σ γ => [(9, .int .i64 σ.1), (0, boxP m_0b 0), (3, boxP b1 0), (7, x_1_Argsv), (8, .int .i64 (x_1.Args.length : Int))]) (fun σ γ => [box m_0b [γ], row γ 3 (σ.2.map S_api_Instr.enc), box b1 [.int .i64 x_1.Op, .int .i64 x_1.Type_, .int .i64 x_1.N, .int .i64 x_1.Slot, .string (bs x_1.S), x_1_Argsv], nro x_1_Argsv NC_api_TExpr_48 x_1.Args]) [1, 0, 3, 2] (qv5 rfl rfl rfl rfl rfl) (by decide) rfl ?_
  rintro ⟨s_8, x_9⟩ v10 o11 h L14 hgo12 hstop13
  change Run _ _ _ (VF.of [(9, .int .i64 s_8), (0, boxP m_0b 0), (3, boxP b1 0), (7, x_1_Argsv), (8, .int .i64 (x_1.Args.length : Int))]) [box m_0b [v10], row v10 3 (x_9.map S_api_Instr.enc), box b1 [.int .i64 x_1.Op, .int .i64 x_1.Type_, .int .i64 x_1.N, .int .i64 x_1.Slot, .string (bs x_1.S), x_1_Argsv], nro x_1_Argsv NC_api_TExpr_48 x_1.Args]
  refine run_seq ?_
  refine run_region' ?_
  refine oy rfl rfl (y_lss rfl rfl) ?_
  refine ops_nil ?_
  refine goes_code ?_
  refine run_seq ?_
  refine run_cond (decide (s_8 < (x_1.Args.length : Int))) rfl (fun hc15 => ?_) (fun hc15 => ?_)
  ·replace h := cond_t h hc15
   refine run_skip ?_
   refine goes_code ?_
   refine run_seq ?_
   refine run_block ?_
   refine run_seq ?_
   refine run_region' ?_
   obtain ⟨x16, hzx16, hlx16, hxx16, h⟩ := idx_some h
   refine oy rfl rfl (y_indexAddrN (kd := .i64) (i := s_8) 3 Try.runUnderlying46 Try.sizeOf48 rfl rfl rfl readsN_ro hzx16 hlx16) ?_
   refine ops_ex (exAtT (T := T_api_TExpr_48) (i := s_8.toNat) 3 rfl hxx16) ?_
   rintro g17
   refine oy rfl rfl (y_load_atagg (n := s_8.toNat * 6) (j := 0) (c := [.int .i64 x16.Op, .int .i64 x16.Type_, .int .i64 x16.N, .int .i64 x16.Slot, .string (bs x16.S), g17]) 4 Try.isAgg48 Try.sizeOf48 rfl rfl rfl) ?_
   refine ot rfl rfl (t_alloc Try.zeroValue48) ?_
   rintro _ _ ⟨b18, rfl, rfl⟩
   refine ops_slcN 5 rfl readsN_ro (fun hs19 hs19o => ?_)
   refine ot rfl rfl (t_store 6 Try.sizeOf48 rfl rfl rfl rfl (by simp [Value.cells, boxP]) (allL_cons rfl (allL_cons rfl (allL_cons rfl (allL_cons rfl (allL_cons rfl (allL_cons hs19o (allL_nil)))))))) ?_
   rintro _ _ ⟨rfl, rfl⟩
   refine ops_turn (retell 6 (g := box b18 [.int .i64 x16.Op, .int .i64 x16.Type_, .int .i64 x16.N, .int .i64 x16.Slot, .string (bs x16.S), g17]) rfl rfl) ?_
   refine ops_nil ?_
   refine goes_code ?_
   refine run_region' ?_
   refine oy rfl rfl (y_move rfl) ?_
   refine oy rfl rfl (y_load_boxagg (c := [.int .i64 x16.Op, .int .i64 x16.Type_, .int .i64 x16.N, .int .i64 x16.Slot, .string (bs x16.S), g17]) 6 Try.isAgg48 Try.sizeOf48 rfl rfl rfl) ?_
   obtain ⟨r20, hr21, h⟩ := obind_some h
   refine ot rfl rfl (t_callx (vs := [boxP m_0b 0, .agg #[.int .i64 x16.Op, .int .i64 x16.Type_, .int .i64 x16.N, .int .i64 x16.Slot, .string (bs x16.S), g17]]) (cs := []) [(1, 2), (0, 2), (5, 0)] rfl Try.call42 rfl (hrec_weirgate_compile_maker_expr_42  (S_compile_maker.mk x_9) x16 m_0b v10 g17 hr21) (showsX_lend 1 rfl (showsX_lend 0 rfl (showsX_view 5 rfl views_nro showsX_nil))) rfl (.inl rfl)) ?_
   rintro _ _ ⟨_, ⟨v22, rfl, rfl⟩, rfl⟩
   refine ops_nil ?_
   refine goes_blk ?_
   refine goes_code ?_
   refine run_weak [(9, .int .i64 s_8), (0, boxP m_0b 0), (3, boxP b1 0), (7, x_1_Argsv), (8, .int .i64 (x_1.Args.length : Int))] [2, 3, 7, 8] [box b1 [.int .i64 x_1.Op, .int .i64 x_1.Type_, .int .i64 x_1.N, .int .i64 x_1.Slot, .string (bs x_1.S), x_1_Argsv], nro x_1_Argsv NC_api_TExpr_48 x_1.Args, row v22 3 (r20.l_.map S_api_Instr.enc), box m_0b [v22]] (qv5 rfl rfl rfl rfl rfl) (by decide) rfl ?_
   refine run_region' ?_
   refine oy rfl rfl (y_add rfl rfl) ?_
   refine oy rfl rfl (y_move rfl) ?_
   refine ops_nil ?_
   obtain rfl := some_eq h
   exact goes_iter hgo12 ((IntKind.i64.wrap (s_8 + 1)), r20.l_) v22 [3, 2, 0, 1] rfl (qv5 rfl rfl rfl rfl rfl) (by decide) rfl
  ·replace h := cond_f h hc15
   refine run_exit _ rfl ?_
   obtain rfl := some_eq h
   obtain rfl := hstop13 _ rfl
   exact goes_cut hL6 (x_9, v10) [0, 1, 2, 3] (qv2 rfl rfl) (by decide) rfl rfl
 rintro ⟨x_2, v3⟩ hj
 obtain rfl : o4 = _ := hj
 replace h := after_go ho5
 clear ho5
 change Run _ _ _ (VF.of [(0, boxP m_0b 0), (3, boxP b1 0)]) [box m_0b [v3], row v3 3 (x_2.map S_api_Instr.enc), box b1 [.int .i64 x_1.Op, .int .i64 x_1.Type_, .int .i64 x_1.N, .int .i64 x_1.Slot, .string (bs x_1.S), x_1_Argsv], nro x_1_Argsv NC_api_TExpr_48 x_1.Args]
 refine run_seq ?_
 refine run_region' ?_
 refine oy rfl rfl (y_fieldAddr_box (sz := 0) Try.runUnderlying48 rfl Try.sizeOf3 rfl) ?_
 refine oy rfl rfl (y_load_box 2 Try.isAgg3 rfl rfl rfl) ?_
 refine ops_nil ?_
 refine goes_code ?_
 refine run_block ?_
 refine run_seq ?_
 refine run_region' ?_
 refine oy rfl rfl (y_eql rfl rfl) ?_
 refine oy rfl rfl (y_assign rfl) ?_
 refine ops_nil ?_
 refine goes_code ?_
 refine run_cond (decide (x_1.Op = 1)) rfl (fun hc23 => ?_) (fun hc23 => ?_)
 ·replace h := cond_t h hc23
  refine run_region' ?_
  refine oy rfl rfl (y_move rfl) ?_
  refine oy rfl rfl (y_fieldAddr_box (sz := 0) Try.runUnderlying48 rfl Try.sizeOf3 rfl) ?_
  refine oy rfl rfl (y_load_box 2 Try.isAgg3 rfl rfl rfl) ?_
  refine oy rfl rfl (y_fieldAddr_box (sz := 0) Try.runUnderlying48 rfl Try.sizeOf3 rfl) ?_
  refine oy rfl rfl (y_load_box 2 Try.isAgg3 rfl rfl rfl) ?_
  obtain ⟨r24, hr25, h⟩ := obind_some h
  refine ot rfl rfl (t_callx (vs := [boxP m_0b 0, .int .i64 x_1.Op, .int .i64 x_1.N, .string (bs [])]) (cs := []) [(1, 2), (0, 2)] rfl Try.call41 rfl (weirgate_compile_maker_put_41_ok  (S_compile_maker.mk x_2) x_1.Op x_1.N [] m_0b v3 hr25) (showsX_lend 1 rfl (showsX_lend 0 rfl showsX_nil)) rfl (.inl rfl)) ?_
  rintro _ _ ⟨_, ⟨v26, rfl, rfl⟩, rfl⟩
  refine ops_nil ?_
  refine goes_blk ?_
  refine goes_nil ?_
  obtain rfl := some_eq h
  refine fin_slots [] [] [4, 5] [row v26 3 (r24.2.l_.map S_api_Instr.enc), box m_0b [v26]] Try.results42 rfl (by decide) rfl ?_
  exact ⟨_, rfl, rfl⟩
 ·replace h := cond_f h hc23
  refine run_seq ?_
  refine run_region' ?_
  refine oy rfl rfl (y_eql rfl rfl) ?_
  refine oy rfl rfl (y_assign rfl) ?_
  refine ops_nil ?_
  refine goes_code ?_
  refine run_cond (decide (x_1.Op = 3)) rfl (fun hc27 => ?_) (fun hc27 => ?_)
  ·replace h := cond_t h hc27
   refine run_region' ?_
   refine oy rfl rfl (y_move rfl) ?_
   refine oy rfl rfl (y_fieldAddr_box (sz := 0) Try.runUnderlying48 rfl Try.sizeOf3 rfl) ?_
   refine oy rfl rfl (y_load_box 2 Try.isAgg3 rfl rfl rfl) ?_
   refine oy rfl rfl (y_fieldAddr_box (sz := 0) Try.runUnderlying48 rfl Try.sizeOf3 rfl) ?_
   refine oy rfl rfl (y_load_box 2 Try.isAgg3 rfl rfl rfl) ?_
   obtain ⟨r28, hr29, h⟩ := obind_some h
   refine ot rfl rfl (t_callx (vs := [boxP m_0b 0, .int .i64 x_1.Op, .int .i64 x_1.Slot, .string (bs [])]) (cs := []) [(1, 2), (0, 2)] rfl Try.call41 rfl (weirgate_compile_maker_put_41_ok  (S_compile_maker.mk x_2) x_1.Op x_1.Slot [] m_0b v3 hr29) (showsX_lend 1 rfl (showsX_lend 0 rfl showsX_nil)) rfl (.inl rfl)) ?_
   rintro _ _ ⟨_, ⟨v30, rfl, rfl⟩, rfl⟩
   refine ops_nil ?_
   refine goes_blk ?_
   refine goes_nil ?_
   obtain rfl := some_eq h
   refine fin_slots [] [] [4, 5] [row v30 3 (r28.2.l_.map S_api_Instr.enc), box m_0b [v30]] Try.results42 rfl (by decide) rfl ?_
   exact ⟨_, rfl, rfl⟩
  ·replace h := cond_f h hc27
   obtain ⟨o32, h, ho33⟩ := bindJ_some h
   refine run_cut ((Bool) × (Unit)) (fun σ => [(39, .bool σ.1), (0, boxP m_0b 0), (3, boxP b1 0), (18, .int .i64 x_1.Op)]) (fun σ => [box m_0b [v3], row v3 3 (x_2.map S_api_Instr.enc), box b1 [.int .i64 x_1.Op, .int .i64 x_1.Type_, .int .i64 x_1.N, .int .i64 x_1.Slot, .string (bs x_1.S), x_1_Argsv], nro x_1_Argsv NC_api_TExpr_48 x_1.Args]) (fun σ => o32 = .go σ.1) (fun L35 hL34 => ?_) ?_
   ·
    refine run_seq ?_
    refine run_region' ?_
    refine oy rfl rfl (y_eql rfl rfl) ?_
    refine oy rfl rfl (y_assign rfl) ?_
    refine ops_nil ?_
    refine goes_code ?_
    refine run_cond (decide (x_1.Op = 2)) rfl (fun hc36 => ?_) (fun hc36 => ?_)
    ·replace h := cond_t h hc36
     refine run_skip ?_
     obtain rfl := some_eq h
     exact goes_cut hL34 (decide (x_1.Op = 2), ()) [0, 1, 2, 3] (qv4 rfl rfl rfl rfl) (by decide) rfl rfl
    ·replace h := cond_f h hc36
     refine run_weak [(0, boxP m_0b 0), (3, boxP b1 0), (18, .int .i64 x_1.Op)] [0, 1, 2, 3] [box m_0b [v3], row v3 3 (x_2.map S_api_Instr.enc), box b1 [.int .i64 x_1.Op, .int .i64 x_1.Type_, .int .i64 x_1.N, .int .i64 x_1.Slot, .string (bs x_1.S), x_1_Argsv], nro x_1_Argsv NC_api_TExpr_48 x_1.Args] (qv3 rfl rfl rfl) (by decide) rfl ?_
     refine run_region' ?_
     refine oy rfl rfl (y_eql rfl rfl) ?_
     refine oy rfl rfl (y_assign rfl) ?_
     refine ops_nil ?_
     obtain rfl := some_eq h
     exact goes_cut hL34 (decide (x_1.Op = 6), ()) [0, 1, 2, 3] (qv4 rfl rfl rfl rfl) (by decide) rfl rfl
   rintro ⟨s_31, _⟩ hj
   obtain rfl : o32 = _ := hj
   replace h := after_go ho33
   clear ho33
   change Run _ _ _ (VF.of [(39, .bool s_31), (0, boxP m_0b 0), (3, boxP b1 0), (18, .int .i64 x_1.Op)]) [box m_0b [v3], row v3 3 (x_2.map S_api_Instr.enc), box b1 [.int .i64 x_1.Op, .int .i64 x_1.Type_, .int .i64 x_1.N, .int .i64 x_1.Slot, .string (bs x_1.S), x_1_Argsv], nro x_1_Argsv NC_api_TExpr_48 x_1.Args]
   refine run_cond s_31 rfl (fun hc37 => ?_) (fun hc37 => ?_)
   ·replace h := cond_t h hc37
    refine run_region' ?_
    refine oy rfl rfl (y_move rfl) ?_
    refine oy rfl rfl (y_fieldAddr_box (sz := 0) Try.runUnderlying48 rfl Try.sizeOf3 rfl) ?_
    refine oy rfl rfl (y_load_box 2 Try.isAgg3 rfl rfl rfl) ?_
    refine oy rfl rfl (y_fieldAddr_box (sz := 0) Try.runUnderlying48 rfl Try.sizeOf9 rfl) ?_
    refine oy rfl rfl (y_load_box 2 Try.isAgg9 rfl rfl rfl) ?_
    obtain ⟨r38, hr39, h⟩ := obind_some h
    refine ot rfl rfl (t_callx (vs := [boxP m_0b 0, .int .i64 x_1.Op, .int .i64 0, .string (bs x_1.S)]) (cs := []) [(1, 2), (0, 2)] rfl Try.call41 rfl (weirgate_compile_maker_put_41_ok  (S_compile_maker.mk x_2) x_1.Op 0 x_1.S m_0b v3 hr39) (showsX_lend 1 rfl (showsX_lend 0 rfl showsX_nil)) rfl (.inl rfl)) ?_
    rintro _ _ ⟨_, ⟨v40, rfl, rfl⟩, rfl⟩
    refine ops_nil ?_
    refine goes_blk ?_
    refine goes_nil ?_
    obtain rfl := some_eq h
    refine fin_slots [] [] [4, 5] [row v40 3 (r38.2.l_.map S_api_Instr.enc), box m_0b [v40]] Try.results42 rfl (by decide) rfl ?_
    exact ⟨_, rfl, rfl⟩
   ·replace h := cond_f h hc37
    refine run_seq ?_
    refine run_region' ?_
    refine oy rfl rfl (y_eql rfl rfl) ?_
    refine oy rfl rfl (y_assign rfl) ?_
    refine ops_nil ?_
    refine goes_code ?_
    refine run_cond (decide (x_1.Op = 23)) rfl (fun hc41 => ?_) (fun hc41 => ?_)
    ·replace h := cond_t h hc41
     refine run_region' ?_
     refine oy rfl rfl (y_move rfl) ?_
     refine oy rfl rfl (y_fieldAddr_box (sz := 0) Try.runUnderlying48 rfl Try.sizeOf3 rfl) ?_
     refine oy rfl rfl (y_load_box 2 Try.isAgg3 rfl rfl rfl) ?_
     refine oy rfl rfl (y_fieldAddr_box (sz := 0) Try.runUnderlying48 rfl Try.sizeOf46 rfl) ?_
     refine oy rfl rfl (y_load_box 2 Try.isAgg46 rfl rfl rfl) ?_
     refine oy rfl rfl (y_lenN 3 rfl Try.runUnderlying46 rfl rfl readsN_ro) ?_
     obtain ⟨r42, hr43, h⟩ := obind_some h
     refine ot rfl rfl (t_callx (vs := [boxP m_0b 0, .int .i64 x_1.Op, .int .i64 (x_1.Args.length : Int), .string (bs [])]) (cs := []) [(1, 2), (0, 2)] rfl Try.call41 rfl (weirgate_compile_maker_put_41_ok  (S_compile_maker.mk x_2) x_1.Op (x_1.Args.length : Int) [] m_0b v3 hr43) (showsX_lend 1 rfl (showsX_lend 0 rfl showsX_nil)) rfl (.inl rfl)) ?_
     rintro _ _ ⟨_, ⟨v44, rfl, rfl⟩, rfl⟩
     refine ops_nil ?_
     refine goes_blk ?_
     refine goes_nil ?_
     obtain rfl := some_eq h
     refine fin_slots [] [] [4, 5] [row v44 3 (r42.2.l_.map S_api_Instr.enc), box m_0b [v44]] Try.results42 rfl (by decide) rfl ?_
     exact ⟨_, rfl, rfl⟩
    ·replace h := cond_f h hc41
     refine run_region' ?_
     refine oy rfl rfl (y_move rfl) ?_
     refine oy rfl rfl (y_fieldAddr_box (sz := 0) Try.runUnderlying48 rfl Try.sizeOf3 rfl) ?_
     refine oy rfl rfl (y_load_box 2 Try.isAgg3 rfl rfl rfl) ?_
     obtain ⟨r45, hr46, h⟩ := obind_some h
     refine ot rfl rfl (t_callx (vs := [boxP m_0b 0, .int .i64 x_1.Op, .int .i64 0, .string (bs [])]) (cs := []) [(1, 2), (0, 2)] rfl Try.call41 rfl (weirgate_compile_maker_put_41_ok  (S_compile_maker.mk x_2) x_1.Op 0 [] m_0b v3 hr46) (showsX_lend 1 rfl (showsX_lend 0 rfl showsX_nil)) rfl (.inl rfl)) ?_
     rintro _ _ ⟨_, ⟨v47, rfl, rfl⟩, rfl⟩
     refine ops_nil ?_
     refine goes_blk ?_
     refine goes_nil ?_
     obtain rfl := some_eq h
     refine fin_slots [] [] [4, 5] [row v47 3 (r45.2.l_.map S_api_Instr.enc), box m_0b [v47]] Try.results42 rfl (by decide) rfl ?_
     exact ⟨_, rfl, rfl⟩
def weirgate_compile_maker_expr_42 : Nat → S_compile_maker → S_api_TExpr → Option (S_compile_maker)
 | 0 => fun _ _ => none
 | n + 1 => weirgate_compile_maker_expr_42_body n  (weirgate_compile_maker_expr_42 n )
theorem weirgate_compile_maker_expr_42_ok (n : Nat)  : ∀ (m_0 : S_compile_maker) (x_1 : S_api_TExpr) (m_0b : Nat) (m_0_l_v : Value) (x_1_Argsv : Value) {r : S_compile_maker}, weirgate_compile_maker_expr_42 n  m_0 x_1 = some r → Meets Try.prog 42 [boxP m_0b 0, .agg #[.int .i64 x_1.Op, .int .i64 x_1.Type_, .int .i64 x_1.N, .int .i64 x_1.Slot, .string (bs x_1.S), x_1_Argsv]] [row m_0_l_v 3 (m_0.l_.map S_api_Instr.enc), box m_0b [m_0_l_v], nro x_1_Argsv NC_api_TExpr_48 x_1.Args] (fun v G => ∃ v0, v = .tuple #[] ∧ G = [row v0 3 (r.l_.map S_api_Instr.enc), box m_0b [v0]]) := by
 induction n with
 | zero => intro m_0 x_1 m_0b m_0_l_v x_1_Argsv r h; cases h
 | succ n ih => intro m_0 x_1 m_0b m_0_l_v x_1_Argsv r h; exact weirgate_compile_maker_expr_42_body_ok n   (weirgate_compile_maker_expr_42 n ) (fun m_0 x_1 m_0b m_0_l_v x_1_Argsv r h => ih m_0 x_1 m_0b m_0_l_v x_1_Argsv h) m_0 x_1 m_0b m_0_l_v x_1_Argsv h

def weirgate_compile_maker_store_36 (m_0 : S_compile_maker) (s_1 : S_api_TStmt) (a_2 : Int) : Option (S_compile_maker) :=
 obind (weirgate_compile_maker_put_41 m_0 31 s_1.Slot []) fun r2 =>
 some r2.2
theorem weirgate_compile_maker_store_36_ok (m_0 : S_compile_maker) (s_1 : S_api_TStmt) (a_2 : Int) (m_0b : Nat) (m_0_l_v : Value) (s_1_X_Argsv : Value) (s_1_Bodyv : Value) (s_1_Elsev : Value) {r : S_compile_maker} (h : weirgate_compile_maker_store_36 m_0 s_1 a_2 = some r) :
  Meets Try.prog 36 [boxP m_0b 0, .agg #[.int .i64 s_1.Kind, .int .i64 s_1.Slot, .int .i64 s_1.N, .string (bs s_1.Name), .int .i64 s_1.X.Op, .int .i64 s_1.X.Type_, .int .i64 s_1.X.N, .int .i64 s_1.X.Slot, .string (bs s_1.X.S), s_1_X_Argsv, s_1_Bodyv, s_1_Elsev], .int .i64 a_2] [row m_0_l_v 3 (m_0.l_.map S_api_Instr.enc), box m_0b [m_0_l_v], nro s_1_X_Argsv NC_api_TExpr_48 s_1.X.Args, nro s_1_Bodyv NC_api_TStmt_50 s_1.Body, nro s_1_Elsev NC_api_TStmt_50 s_1.Else] (fun v G => ∃ v0, v = .tuple #[] ∧ G = [row v0 3 (r.l_.map S_api_Instr.enc), box m_0b [v0]]) := by
 refine fn_of_run Try.func36 rfl Try.ntmps36 rfl (fun w0 o0 => ?_)
 refine run_seq ?_
 refine run_region' ?_
 refine ot rfl rfl (t_box rfl) ?_
 rintro _ _ ⟨b1, rfl, rfl⟩
 refine ops_nil ?_
 refine goes_code ?_
 refine run_region' ?_
 refine oy rfl rfl (y_move rfl) ?_
 refine oy rfl rfl (y_fieldAddr_box (sz := 0) Try.runUnderlying50 rfl Try.sizeOf3 rfl) ?_
 refine oy rfl rfl (y_load_box 5 Try.isAgg3 rfl rfl rfl) ?_
 obtain ⟨r2, hr3, h⟩ := obind_some h
 refine ot rfl rfl (t_callx (vs := [boxP m_0b 0, .int .i64 31, .int .i64 s_1.Slot, .string (bs [])]) (cs := []) [(0, 2), (1, 2)] rfl Try.call41 rfl (weirgate_compile_maker_put_41_ok  m_0 31 s_1.Slot [] m_0b m_0_l_v hr3) (showsX_lend 0 rfl (showsX_lend 1 rfl showsX_nil)) rfl (.inl rfl)) ?_
 rintro _ _ ⟨_, ⟨v4, rfl, rfl⟩, rfl⟩
 refine ops_nil ?_
 refine goes_nil ?_
 obtain rfl := some_eq h
 refine fin_slots [] [] [6, 7] [row v4 3 (r2.2.l_.map S_api_Instr.enc), box m_0b [v4]] Try.results36 rfl (by decide) rfl ?_
 exact ⟨_, rfl, rfl⟩

def weirgate_compile_maker_header_37 (m_0 : S_compile_maker) (s_1 : S_api_TStmt) (a_2 : Int) : Option (S_compile_maker) :=
 obind (weirgate_compile_maker_put_41 m_0 32 0 s_1.Name) fun r2 =>
 some r2.2
theorem weirgate_compile_maker_header_37_ok (m_0 : S_compile_maker) (s_1 : S_api_TStmt) (a_2 : Int) (m_0b : Nat) (m_0_l_v : Value) (s_1_X_Argsv : Value) (s_1_Bodyv : Value) (s_1_Elsev : Value) {r : S_compile_maker} (h : weirgate_compile_maker_header_37 m_0 s_1 a_2 = some r) :
  Meets Try.prog 37 [boxP m_0b 0, .agg #[.int .i64 s_1.Kind, .int .i64 s_1.Slot, .int .i64 s_1.N, .string (bs s_1.Name), .int .i64 s_1.X.Op, .int .i64 s_1.X.Type_, .int .i64 s_1.X.N, .int .i64 s_1.X.Slot, .string (bs s_1.X.S), s_1_X_Argsv, s_1_Bodyv, s_1_Elsev], .int .i64 a_2] [row m_0_l_v 3 (m_0.l_.map S_api_Instr.enc), box m_0b [m_0_l_v], nro s_1_X_Argsv NC_api_TExpr_48 s_1.X.Args, nro s_1_Bodyv NC_api_TStmt_50 s_1.Body, nro s_1_Elsev NC_api_TStmt_50 s_1.Else] (fun v G => ∃ v0, v = .tuple #[] ∧ G = [row v0 3 (r.l_.map S_api_Instr.enc), box m_0b [v0]]) := by
 refine fn_of_run Try.func37 rfl Try.ntmps37 rfl (fun w0 o0 => ?_)
 refine run_seq ?_
 refine run_region' ?_
 refine ot rfl rfl (t_box rfl) ?_
 rintro _ _ ⟨b1, rfl, rfl⟩
 refine ops_nil ?_
 refine goes_code ?_
 refine run_region' ?_
 refine oy rfl rfl (y_move rfl) ?_
 refine oy rfl rfl (y_fieldAddr_box (sz := 0) Try.runUnderlying50 rfl Try.sizeOf9 rfl) ?_
 refine oy rfl rfl (y_load_box 5 Try.isAgg9 rfl rfl rfl) ?_
 obtain ⟨r2, hr3, h⟩ := obind_some h
 refine ot rfl rfl (t_callx (vs := [boxP m_0b 0, .int .i64 32, .int .i64 0, .string (bs s_1.Name)]) (cs := []) [(0, 2), (1, 2)] rfl Try.call41 rfl (weirgate_compile_maker_put_41_ok  m_0 32 0 s_1.Name m_0b m_0_l_v hr3) (showsX_lend 0 rfl (showsX_lend 1 rfl showsX_nil)) rfl (.inl rfl)) ?_
 rintro _ _ ⟨_, ⟨v4, rfl, rfl⟩, rfl⟩
 refine ops_nil ?_
 refine goes_nil ?_
 obtain rfl := some_eq h
 refine fin_slots [] [] [6, 7] [row v4 3 (r2.2.l_.map S_api_Instr.enc), box m_0b [v4]] Try.results37 rfl (by decide) rfl ?_
 exact ⟨_, rfl, rfl⟩

def weirgate_compile_maker_plain_38 (m_0 : S_compile_maker) (s_1 : S_api_TStmt) (a_2 : Int) : Option (S_compile_maker) :=
 obind (weirgate_compile_maker_put_41 m_0 ((mget (mput (mput (mput (mput ([] : (List (Int × Int))) (4 : Int) (33 : Int)) (7 : Int) (34 : Int)) (8 : Int) (35 : Int)) (9 : Int) (36 : Int)) s_1.Kind).getD 0) 0 []) fun r3 =>
 some r3.2
theorem weirgate_compile_maker_plain_38_ok (m_0 : S_compile_maker) (s_1 : S_api_TStmt) (a_2 : Int) (m_0b : Nat) (m_0_l_v : Value) (s_1_X_Argsv : Value) (s_1_Bodyv : Value) (s_1_Elsev : Value) {r : S_compile_maker} (h : weirgate_compile_maker_plain_38 m_0 s_1 a_2 = some r) :
  Meets Try.prog 38 [boxP m_0b 0, .agg #[.int .i64 s_1.Kind, .int .i64 s_1.Slot, .int .i64 s_1.N, .string (bs s_1.Name), .int .i64 s_1.X.Op, .int .i64 s_1.X.Type_, .int .i64 s_1.X.N, .int .i64 s_1.X.Slot, .string (bs s_1.X.S), s_1_X_Argsv, s_1_Bodyv, s_1_Elsev], .int .i64 a_2] [row m_0_l_v 3 (m_0.l_.map S_api_Instr.enc), box m_0b [m_0_l_v], nro s_1_X_Argsv NC_api_TExpr_48 s_1.X.Args, nro s_1_Bodyv NC_api_TStmt_50 s_1.Body, nro s_1_Elsev NC_api_TStmt_50 s_1.Else] (fun v G => ∃ v0, v = .tuple #[] ∧ G = [row v0 3 (r.l_.map S_api_Instr.enc), box m_0b [v0]]) := by
 refine fn_of_run Try.func38 rfl Try.ntmps38 rfl (fun w0 o0 => ?_)
 refine run_seq ?_
 refine run_region' ?_
 refine ot rfl rfl (t_box rfl) ?_
 rintro _ _ ⟨b1, rfl, rfl⟩
 refine ops_nil ?_
 refine goes_code ?_
 refine run_region' ?_
 refine oy rfl rfl (y_move rfl) ?_
 refine ot rfl rfl (t_makeMap) ?_
 rintro _ _ ⟨b2, rfl, rfl⟩
 refine ops_turn (retell 6 (g := mapis b2 (mcells (fun n : Int => Value.int .i64 n) (fun n : Int => Value.int .i64 n) ([] : (List (Int × Int))))) rfl rfl) ?_
 refine ot rfl rfl (t_mapUpdate (k := (4 : Int)) (v := (33 : Int)) 6 (key_int .i64) Try.runUnderlying109 Try.runUnderlying3 rfl rfl rfl rfl true) ?_
 rintro _ _ ⟨rfl, rfl⟩
 refine ot rfl rfl (t_mapUpdate (k := (7 : Int)) (v := (34 : Int)) 6 (key_int .i64) Try.runUnderlying109 Try.runUnderlying3 rfl rfl rfl rfl true) ?_
 rintro _ _ ⟨rfl, rfl⟩
 refine ot rfl rfl (t_mapUpdate (k := (8 : Int)) (v := (35 : Int)) 6 (key_int .i64) Try.runUnderlying109 Try.runUnderlying3 rfl rfl rfl rfl true) ?_
 rintro _ _ ⟨rfl, rfl⟩
 refine ot rfl rfl (t_mapUpdate (k := (9 : Int)) (v := (36 : Int)) 6 (key_int .i64) Try.runUnderlying109 Try.runUnderlying3 rfl rfl rfl rfl true) ?_
 rintro _ _ ⟨rfl, rfl⟩
 refine oy rfl rfl (y_move rfl) ?_
 refine oy rfl rfl (y_fieldAddr_box (sz := 0) Try.runUnderlying50 rfl Try.sizeOf3 rfl) ?_
 refine oy rfl rfl (y_load_box 5 Try.isAgg3 rfl rfl rfl) ?_
 refine oy rfl rfl (y_lookup (k := s_1.Kind) (d0 := 0) 6 (key_int .i64) Try.runUnderlying109 Try.runUnderlying3 Try.zeroValue3 rfl rfl rfl) ?_
 obtain ⟨r3, hr4, h⟩ := obind_some h
 refine ot rfl rfl (t_callx (vs := [boxP m_0b 0, .int .i64 ((mget (mput (mput (mput (mput ([] : (List (Int × Int))) (4 : Int) (33 : Int)) (7 : Int) (34 : Int)) (8 : Int) (35 : Int)) (9 : Int) (36 : Int)) s_1.Kind).getD 0), .int .i64 0, .string (bs [])]) (cs := []) [(0, 2), (1, 2)] rfl Try.call41 rfl (weirgate_compile_maker_put_41_ok  m_0 ((mget (mput (mput (mput (mput ([] : (List (Int × Int))) (4 : Int) (33 : Int)) (7 : Int) (34 : Int)) (8 : Int) (35 : Int)) (9 : Int) (36 : Int)) s_1.Kind).getD 0) 0 [] m_0b m_0_l_v hr4) (showsX_lend 0 rfl (showsX_lend 1 rfl showsX_nil)) rfl (.inl rfl)) ?_
 rintro _ _ ⟨_, ⟨v5, rfl, rfl⟩, rfl⟩
 refine ops_nil ?_
 refine goes_nil ?_
 obtain rfl := some_eq h
 refine fin_slots [] [] [7, 8] [row v5 3 (r3.2.l_.map S_api_Instr.enc), box m_0b [v5]] Try.results38 rfl (by decide) rfl ?_
 exact ⟨_, rfl, rfl⟩

def weirgate_compile_maker_block_60 (rec_weirgate_compile_maker_code_21 : S_compile_maker → (List S_api_TStmt) → Int → Option (S_compile_maker)) (m_0 : S_compile_maker) (l_1 : (List S_api_TStmt)) (known_2 : Int) : Option (S_compile_maker) :=
 obind (rec_weirgate_compile_maker_code_21 m_0 l_1 known_2) fun r1 =>
 obind (weirgate_compile_maker_put_41 r1 41 known_2 []) fun r4 =>
 some r4.2
theorem weirgate_compile_maker_block_60_ok (rec_weirgate_compile_maker_code_21 : S_compile_maker → (List S_api_TStmt) → Int → Option (S_compile_maker)) (hrec_weirgate_compile_maker_code_21 : ∀ (m_0 : S_compile_maker) (l_1 : (List S_api_TStmt)) (known_2 : Int) (m_0b : Nat) (m_0_l_v : Value) (l_1v : Value) {r : S_compile_maker}, rec_weirgate_compile_maker_code_21 m_0 l_1 known_2 = some r → Meets Try.prog 21 [boxP m_0b 0, l_1v, .int .i64 known_2] [row m_0_l_v 3 (m_0.l_.map S_api_Instr.enc), box m_0b [m_0_l_v], nro l_1v NC_api_TStmt_50 l_1] (fun v G => ∃ v0, v = .tuple #[] ∧ G = [row v0 3 (r.l_.map S_api_Instr.enc), box m_0b [v0]])) (m_0 : S_compile_maker) (l_1 : (List S_api_TStmt)) (known_2 : Int) (m_0b : Nat) (m_0_l_v : Value) (l_1v : Value) {r : S_compile_maker} (h : weirgate_compile_maker_block_60 rec_weirgate_compile_maker_code_21 m_0 l_1 known_2 = some r) :
  Meets Try.prog 60 [boxP m_0b 0, l_1v, .int .i64 known_2] [row m_0_l_v 3 (m_0.l_.map S_api_Instr.enc), box m_0b [m_0_l_v], nro l_1v NC_api_TStmt_50 l_1] (fun v G => ∃ v0, v = .tuple #[] ∧ G = [row v0 3 (r.l_.map S_api_Instr.enc), box m_0b [v0]]) := by
 refine fn_of_run Try.func60 rfl Try.ntmps60 rfl (fun w0 o0 => ?_)
 refine run_seq ?_
 refine run_region' ?_
 refine oy rfl rfl (y_move rfl) ?_
 refine oy rfl rfl (y_move rfl) ?_
 refine oy rfl rfl (y_move rfl) ?_
 obtain ⟨r1, hr2, h⟩ := obind_some h
 refine ot rfl rfl (t_callx (vs := [boxP m_0b 0, l_1v, .int .i64 known_2]) (cs := []) [(0, 2), (1, 2), (2, 0)] rfl Try.call21 rfl (hrec_weirgate_compile_maker_code_21  m_0 l_1 known_2 m_0b m_0_l_v l_1v hr2) (showsX_lend 0 rfl (showsX_lend 1 rfl (showsX_view 2 rfl views_nro showsX_nil))) rfl (.inl rfl)) ?_
 rintro _ _ ⟨_, ⟨v3, rfl, rfl⟩, rfl⟩
 refine ops_nil ?_
 refine goes_code ?_
 refine run_region' ?_
 refine oy rfl rfl (y_move rfl) ?_
 refine oy rfl rfl (y_move rfl) ?_
 obtain ⟨r4, hr5, h⟩ := obind_some h
 refine ot rfl rfl (t_callx (vs := [boxP m_0b 0, .int .i64 41, .int .i64 known_2, .string (bs [])]) (cs := []) [(3, 2), (4, 2)] rfl Try.call41 rfl (weirgate_compile_maker_put_41_ok  r1 41 known_2 [] m_0b v3 hr5) (showsX_lend 3 rfl (showsX_lend 4 rfl showsX_nil)) rfl (.inl rfl)) ?_
 rintro _ _ ⟨_, ⟨v6, rfl, rfl⟩, rfl⟩
 refine ops_nil ?_
 refine goes_nil ?_
 obtain rfl := some_eq h
 refine fin_slots [] [] [5, 6] [row v6 3 (r4.2.l_.map S_api_Instr.enc), box m_0b [v6]] Try.results60 rfl (by decide) rfl ?_
 exact ⟨_, rfl, rfl⟩

def weirgate_compile_maker_branch_39 (rec_weirgate_compile_maker_code_21 : S_compile_maker → (List S_api_TStmt) → Int → Option (S_compile_maker)) (m_0 : S_compile_maker) (s_1 : S_api_TStmt) (known_2 : Int) : Option (S_compile_maker) :=
 obind (weirgate_compile_maker_put_41 m_0 38 0 []) fun r2 =>
 obind (weirgate_compile_maker_block_60 rec_weirgate_compile_maker_code_21 r2.2 s_1.Body known_2) fun r5 =>
 obind (weirgate_compile_maker_put_41 r5 37 0 []) fun r8 =>
 idx r8.2.l_ r2.1 fun x11 =>
 obind (weirgate_compile_maker_block_60 rec_weirgate_compile_maker_code_21 (S_compile_maker.mk (r8.2.l_.set ((r2.1).toNat) (S_api_Instr.mk x11.Op (r8.2.l_.length : Int) x11.S))) s_1.Else known_2) fun r13 =>
 idx r13.l_ r8.1 fun x16 =>
 some (S_compile_maker.mk (r13.l_.set ((r8.1).toNat) (S_api_Instr.mk x16.Op (r13.l_.length : Int) x16.S)))
theorem weirgate_compile_maker_branch_39_ok (rec_weirgate_compile_maker_code_21 : S_compile_maker → (List S_api_TStmt) → Int → Option (S_compile_maker)) (hrec_weirgate_compile_maker_code_21 : ∀ (m_0 : S_compile_maker) (l_1 : (List S_api_TStmt)) (known_2 : Int) (m_0b : Nat) (m_0_l_v : Value) (l_1v : Value) {r : S_compile_maker}, rec_weirgate_compile_maker_code_21 m_0 l_1 known_2 = some r → Meets Try.prog 21 [boxP m_0b 0, l_1v, .int .i64 known_2] [row m_0_l_v 3 (m_0.l_.map S_api_Instr.enc), box m_0b [m_0_l_v], nro l_1v NC_api_TStmt_50 l_1] (fun v G => ∃ v0, v = .tuple #[] ∧ G = [row v0 3 (r.l_.map S_api_Instr.enc), box m_0b [v0]])) (m_0 : S_compile_maker) (s_1 : S_api_TStmt) (known_2 : Int) (m_0b : Nat) (m_0_l_v : Value) (s_1_X_Argsv : Value) (s_1_Bodyv : Value) (s_1_Elsev : Value) {r : S_compile_maker} (h : weirgate_compile_maker_branch_39 rec_weirgate_compile_maker_code_21 m_0 s_1 known_2 = some r) :
  Meets Try.prog 39 [boxP m_0b 0, .agg #[.int .i64 s_1.Kind, .int .i64 s_1.Slot, .int .i64 s_1.N, .string (bs s_1.Name), .int .i64 s_1.X.Op, .int .i64 s_1.X.Type_, .int .i64 s_1.X.N, .int .i64 s_1.X.Slot, .string (bs s_1.X.S), s_1_X_Argsv, s_1_Bodyv, s_1_Elsev], .int .i64 known_2] [row m_0_l_v 3 (m_0.l_.map S_api_Instr.enc), box m_0b [m_0_l_v], nro s_1_X_Argsv NC_api_TExpr_48 s_1.X.Args, nro s_1_Bodyv NC_api_TStmt_50 s_1.Body, nro s_1_Elsev NC_api_TStmt_50 s_1.Else] (fun v G => ∃ v0, v = .tuple #[] ∧ G = [row v0 3 (r.l_.map S_api_Instr.enc), box m_0b [v0]]) := by
 refine fn_of_run Try.func39 rfl Try.ntmps39 rfl (fun w0 o0 => ?_)
 refine run_seq ?_
 refine run_region' ?_
 refine ot rfl rfl (t_box rfl) ?_
 rintro _ _ ⟨b1, rfl, rfl⟩
 refine ops_nil ?_
 refine goes_code ?_
 refine run_seq ?_
 refine run_region' ?_
 refine oy rfl rfl (y_move rfl) ?_
 obtain ⟨r2, hr3, h⟩ := obind_some h
 refine ot rfl rfl (t_callx (vs := [boxP m_0b 0, .int .i64 38, .int .i64 0, .string (bs [])]) (cs := []) [(0, 2), (1, 2)] rfl Try.call41 rfl (weirgate_compile_maker_put_41_ok  m_0 38 0 [] m_0b m_0_l_v hr3) (showsX_lend 0 rfl (showsX_lend 1 rfl showsX_nil)) rfl (.inl rfl)) ?_
 rintro _ _ ⟨_, ⟨v4, rfl, rfl⟩, rfl⟩
 refine oy rfl rfl (y_assign rfl) ?_
 refine ops_nil ?_
 refine goes_code ?_
 refine run_seq ?_
 refine run_region' ?_
 refine oy rfl rfl (y_move rfl) ?_
 refine oy rfl rfl (y_fieldAddr_box (sz := 0) Try.runUnderlying50 rfl Try.sizeOf23 rfl) ?_
 refine oy rfl rfl (y_load_box 5 Try.isAgg23 rfl rfl rfl) ?_
 refine oy rfl rfl (y_move rfl) ?_
 obtain ⟨r5, hr6, h⟩ := obind_some h
 refine ot rfl rfl (t_callx (vs := [boxP m_0b 0, s_1_Bodyv, .int .i64 known_2]) (cs := []) [(6, 2), (7, 2), (3, 0)] rfl Try.call60 rfl (weirgate_compile_maker_block_60_ok rec_weirgate_compile_maker_code_21 hrec_weirgate_compile_maker_code_21 r2.2 s_1.Body known_2 m_0b v4 s_1_Bodyv hr6) (showsX_lend 6 rfl (showsX_lend 7 rfl (showsX_view 3 rfl views_nro showsX_nil))) rfl (.inl rfl)) ?_
 rintro _ _ ⟨_, ⟨v7, rfl, rfl⟩, rfl⟩
 refine ops_nil ?_
 refine goes_code ?_
 refine run_seq ?_
 refine run_weak [(0, boxP m_0b 0), (2, .int .i64 known_2), (4, boxP b1 0), (6, .int .i64 r2.1)] [2, 3, 4, 5, 8, 9] [nro s_1_X_Argsv NC_api_TExpr_48 s_1.X.Args, nro s_1_Bodyv NC_api_TStmt_50 s_1.Body, nro s_1_Elsev NC_api_TStmt_50 s_1.Else, box b1 [.int .i64 s_1.Kind, .int .i64 s_1.Slot, .int .i64 s_1.N, .string (bs s_1.Name), .int .i64 s_1.X.Op, .int .i64 s_1.X.Type_, .int .i64 s_1.X.N, .int .i64 s_1.X.Slot, .string (bs s_1.X.S), s_1_X_Argsv, s_1_Bodyv, s_1_Elsev], row v7 3 (r5.l_.map S_api_Instr.enc), box m_0b [v7]] (qv4 rfl rfl rfl rfl) (by decide) rfl ?_
 refine run_region' ?_
 refine oy rfl rfl (y_move rfl) ?_
 obtain ⟨r8, hr9, h⟩ := obind_some h
 refine ot rfl rfl (t_callx (vs := [boxP m_0b 0, .int .i64 37, .int .i64 0, .string (bs [])]) (cs := []) [(4, 2), (5, 2)] rfl Try.call41 rfl (weirgate_compile_maker_put_41_ok  r5 37 0 [] m_0b v7 hr9) (showsX_lend 4 rfl (showsX_lend 5 rfl showsX_nil)) rfl (.inl rfl)) ?_
 rintro _ _ ⟨_, ⟨v10, rfl, rfl⟩, rfl⟩
 refine oy rfl rfl (y_assign rfl) ?_
 refine ops_nil ?_
 refine goes_code ?_
 refine run_seq ?_
 refine run_drawany [nro s_1_X_Argsv NC_api_TExpr_48 s_1.X.Args, nro s_1_Bodyv NC_api_TStmt_50 s_1.Body, nro s_1_Elsev NC_api_TStmt_50 s_1.Else, box b1 [.int .i64 s_1.Kind, .int .i64 s_1.Slot, .int .i64 s_1.N, .string (bs s_1.Name), .int .i64 s_1.X.Op, .int .i64 s_1.X.Type_, .int .i64 s_1.X.N, .int .i64 s_1.X.Slot, .string (bs s_1.X.S), s_1_X_Argsv, s_1_Bodyv, s_1_Elsev], HA.emp, HA.emp, HA.emp, box m_0b [v10]] (by kernel_rfl) ?_
 refine any_y 0 rfl (by kernel_rfl) (by kernel_rfl) (by kernel_rfl) (ss (ss (ss (ss (ss (ss (se (ss (sn))))))))) (wn rfl) rfl (y_move rfl) ?_
 refine any_y 1 rfl (by kernel_rfl) (by kernel_rfl) (by kernel_rfl) (ss (ss (ss (ss (ss (ss (se (ss (sn))))))))) (wn rfl) rfl (y_nilBox rfl) ?_
 refine any_y 2 rfl (by kernel_rfl) (by kernel_rfl) (by kernel_rfl) (ss (ss (ss (ss (ss (ss (se (ss (sn))))))))) (wn rfl) rfl (y_fieldAddr_box (sz := 0) Try.runUnderlying58 rfl Try.sizeOf29 rfl) ?_
 refine any_y 3 rfl (by kernel_rfl) (by kernel_rfl) (by kernel_rfl) (ss (ss (ss (ss (ss (ss (se (ss (sn))))))))) (wn rfl) rfl (y_load_box 7 Try.isAgg29 rfl rfl rfl) ?_
 refine any_y 4 rfl (by kernel_rfl) (by kernel_rfl) (by kernel_rfl) (ss (ss (ss (ss (ss (ss (se (ss (sn))))))))) (wn rfl) rfl (y_move rfl) ?_
 refine any_y 5 rfl (by kernel_rfl) (by kernel_rfl) (by kernel_rfl) (ss (ss (ss (ss (ss (ss (se (ss (sn))))))))) (wn rfl) rfl (y_move rfl) ?_
 refine any_y 6 rfl (by kernel_rfl) (by kernel_rfl) (by kernel_rfl) (ss (ss (ss (ss (ss (ss (se (ss (sn))))))))) (wn rfl) rfl (y_nilBox rfl) ?_
 refine any_y 7 rfl (by kernel_rfl) (by kernel_rfl) (by kernel_rfl) (ss (ss (ss (ss (ss (ss (se (ss (sn))))))))) (wn rfl) rfl (y_fieldAddr_box (sz := 0) Try.runUnderlying58 rfl Try.sizeOf29 rfl) ?_
 refine any_y 8 rfl (by kernel_rfl) (by kernel_rfl) (by kernel_rfl) (ss (ss (ss (ss (ss (ss (se (ss (sn))))))))) (wn rfl) rfl (y_load_box 7 Try.isAgg29 rfl rfl rfl) ?_
 refine any_all [9] (by kernel_rfl) rfl (anyo_cons ?_ anyo_nil)
 refine any_ty rfl (wn rfl) rfl ((y_len 6 rfl Try.runUnderlying29 rfl rfl reads_row).to (v_len S_api_Instr.enc _)) ⟨(ss (ss (ss (ss (ss (ss (se (ss (sn))))))))), ?_⟩
 refine any_all [10] (by kernel_rfl) rfl (anyo_cons ?_ anyo_nil)
 obtain ⟨x11, hzx11, hlx11, hxx11, h⟩ := idx_some h
 refine any_ty rfl (wn rfl) rfl (y_indexAddrI (kd := .i64) (i := r2.1) 6 Try.runUnderlying29 Try.sizeOf55 rfl rfl rfl reads_row hzx11 (map_lt hlx11)) ⟨(ss (ss (ss (ss (ss (ss (se (ss (sn))))))))), ?_⟩
 refine any_y 11 rfl (by kernel_rfl) (by kernel_rfl) (by kernel_rfl) (ss (ss (ss (ss (ss (ss (se (ss (sn))))))))) (wn rfl) rfl (y_fieldAddr_elem (sz := 0) Try.runUnderlying55 rfl Try.sizeOf3 rfl) ?_
 refine any_all [12] (by kernel_rfl) rfl (anyo_cons ?_ anyo_nil)
 refine any_t rfl (wn rfl) rfl (t_store_row (i := (r2.1).toNat) (j := 1) (c := S_api_Instr.enc x11) 6 Try.sizeOf3 rfl rfl rfl rfl (map_get hxx11) (by decide) (by simp [Value.cells, Value.oneCell', boxP])) ?_
 rintro _ _ ⟨rfl, rfl⟩
 refine ⟨(ss (ss (ss (ss (ss (ss (se (ss (sn))))))))), ?_⟩
 obtain hxx12 : ((r8.2.l_.set ((r2.1).toNat) (S_api_Instr.mk x11.Op (r8.2.l_.length : Int) x11.S)) : List S_api_Instr)[(r2.1).toNat]? = some (S_api_Instr.mk x11.Op (r8.2.l_.length : Int) x11.S) := set_at hlx11
 obtain hlx12 : (r2.1).toNat < ((r8.2.l_.set ((r2.1).toNat) (S_api_Instr.mk x11.Op (r8.2.l_.length : Int) x11.S)) : List S_api_Instr).length := set_lt hlx11
 obtain hzx12 : (0 : Int) ≤ r2.1 := id hzx11
 refine any_turn (retell 6 (g := row v10 3 ((r8.2.l_.set ((r2.1).toNat) (S_api_Instr.mk x11.Op (r8.2.l_.length : Int) x11.S)).map S_api_Instr.enc)) rfl (congrArg (row _ _) (map_set_at rfl))) ?_
 refine any_nil (by kernel_rfl) ?_
 refine goes_code ?_
 refine run_seq ?_
 refine run_weak [(0, boxP m_0b 0), (2, .int .i64 known_2), (4, boxP b1 0), (7, .int .i64 r8.1)] [0, 1, 2, 3, 6, 7] [nro s_1_X_Argsv NC_api_TExpr_48 s_1.X.Args, nro s_1_Bodyv NC_api_TStmt_50 s_1.Body, nro s_1_Elsev NC_api_TStmt_50 s_1.Else, box b1 [.int .i64 s_1.Kind, .int .i64 s_1.Slot, .int .i64 s_1.N, .string (bs s_1.Name), .int .i64 s_1.X.Op, .int .i64 s_1.X.Type_, .int .i64 s_1.X.N, .int .i64 s_1.X.Slot, .string (bs s_1.X.S), s_1_X_Argsv, s_1_Bodyv, s_1_Elsev], row v10 3 ((r8.2.l_.set ((r2.1).toNat) (S_api_Instr.mk x11.Op (r8.2.l_.length : Int) x11.S)).map S_api_Instr.enc), box m_0b [v10]] (qv4 rfl rfl rfl rfl) (by decide) rfl ?_
 refine run_region' ?_
 refine oy rfl rfl (y_move rfl) ?_
 refine oy rfl rfl (y_fieldAddr_box (sz := 0) Try.runUnderlying50 rfl Try.sizeOf23 rfl) ?_
 refine oy rfl rfl (y_load_box 3 Try.isAgg23 rfl rfl rfl) ?_
 refine oy rfl rfl (y_move rfl) ?_
 obtain ⟨r13, hr14, h⟩ := obind_some h
 refine ot rfl rfl (t_callx (vs := [boxP m_0b 0, s_1_Elsev, .int .i64 known_2]) (cs := []) [(4, 2), (5, 2), (2, 0)] rfl Try.call60 rfl (weirgate_compile_maker_block_60_ok rec_weirgate_compile_maker_code_21 hrec_weirgate_compile_maker_code_21 (S_compile_maker.mk (r8.2.l_.set ((r2.1).toNat) (S_api_Instr.mk x11.Op (r8.2.l_.length : Int) x11.S))) s_1.Else known_2 m_0b v10 s_1_Elsev hr14) (showsX_lend 4 rfl (showsX_lend 5 rfl (showsX_view 2 rfl views_nro showsX_nil))) rfl (.inl rfl)) ?_
 rintro _ _ ⟨_, ⟨v15, rfl, rfl⟩, rfl⟩
 refine ops_nil ?_
 refine goes_code ?_
 refine run_drawany [nro s_1_X_Argsv NC_api_TExpr_48 s_1.X.Args, nro s_1_Bodyv NC_api_TStmt_50 s_1.Body, nro s_1_Elsev NC_api_TStmt_50 s_1.Else, box b1 [.int .i64 s_1.Kind, .int .i64 s_1.Slot, .int .i64 s_1.N, .string (bs s_1.Name), .int .i64 s_1.X.Op, .int .i64 s_1.X.Type_, .int .i64 s_1.X.N, .int .i64 s_1.X.Slot, .string (bs s_1.X.S), s_1_X_Argsv, s_1_Bodyv, s_1_Elsev], HA.emp, HA.emp, HA.emp, box m_0b [v15]] (by kernel_rfl) ?_
 refine any_y 0 rfl (by kernel_rfl) (by kernel_rfl) (by kernel_rfl) (ss (ss (ss (ss (ss (ss (se (ss (sn))))))))) (wn rfl) rfl (y_move rfl) ?_
 refine any_y 1 rfl (by kernel_rfl) (by kernel_rfl) (by kernel_rfl) (ss (ss (ss (ss (ss (ss (se (ss (sn))))))))) (wn rfl) rfl (y_nilBox rfl) ?_
 refine any_y 2 rfl (by kernel_rfl) (by kernel_rfl) (by kernel_rfl) (ss (ss (ss (ss (ss (ss (se (ss (sn))))))))) (wn rfl) rfl (y_fieldAddr_box (sz := 0) Try.runUnderlying58 rfl Try.sizeOf29 rfl) ?_
 refine any_y 3 rfl (by kernel_rfl) (by kernel_rfl) (by kernel_rfl) (ss (ss (ss (ss (ss (ss (se (ss (sn))))))))) (wn rfl) rfl (y_load_box 7 Try.isAgg29 rfl rfl rfl) ?_
 refine any_y 4 rfl (by kernel_rfl) (by kernel_rfl) (by kernel_rfl) (ss (ss (ss (ss (ss (ss (se (ss (sn))))))))) (wn rfl) rfl (y_move rfl) ?_
 refine any_y 5 rfl (by kernel_rfl) (by kernel_rfl) (by kernel_rfl) (ss (ss (ss (ss (ss (ss (se (ss (sn))))))))) (wn rfl) rfl (y_move rfl) ?_
 refine any_y 6 rfl (by kernel_rfl) (by kernel_rfl) (by kernel_rfl) (ss (ss (ss (ss (ss (ss (se (ss (sn))))))))) (wn rfl) rfl (y_nilBox rfl) ?_
 refine any_y 7 rfl (by kernel_rfl) (by kernel_rfl) (by kernel_rfl) (ss (ss (ss (ss (ss (ss (se (ss (sn))))))))) (wn rfl) rfl (y_fieldAddr_box (sz := 0) Try.runUnderlying58 rfl Try.sizeOf29 rfl) ?_
 refine any_y 8 rfl (by kernel_rfl) (by kernel_rfl) (by kernel_rfl) (ss (ss (ss (ss (ss (ss (se (ss (sn))))))))) (wn rfl) rfl (y_load_box 7 Try.isAgg29 rfl rfl rfl) ?_
 refine any_all [9] (by kernel_rfl) rfl (anyo_cons ?_ anyo_nil)
 refine any_ty rfl (wn rfl) rfl ((y_len 6 rfl Try.runUnderlying29 rfl rfl reads_row).to (v_len S_api_Instr.enc _)) ⟨(ss (ss (ss (ss (ss (ss (se (ss (sn))))))))), ?_⟩
 refine any_all [10] (by kernel_rfl) rfl (anyo_cons ?_ anyo_nil)
 obtain ⟨x16, hzx16, hlx16, hxx16, h⟩ := idx_some h
 refine any_ty rfl (wn rfl) rfl (y_indexAddrI (kd := .i64) (i := r8.1) 6 Try.runUnderlying29 Try.sizeOf55 rfl rfl rfl reads_row hzx16 (map_lt hlx16)) ⟨(ss (ss (ss (ss (ss (ss (se (ss (sn))))))))), ?_⟩
 refine any_y 11 rfl (by kernel_rfl) (by kernel_rfl) (by kernel_rfl) (ss (ss (ss (ss (ss (ss (se (ss (sn))))))))) (wn rfl) rfl (y_fieldAddr_elem (sz := 0) Try.runUnderlying55 rfl Try.sizeOf3 rfl) ?_
 refine any_all [12] (by kernel_rfl) rfl (anyo_cons ?_ anyo_nil)
 refine any_t rfl (wn rfl) rfl (t_store_row (i := (r8.1).toNat) (j := 1) (c := S_api_Instr.enc x16) 6 Try.sizeOf3 rfl rfl rfl rfl (map_get hxx16) (by decide) (by simp [Value.cells, Value.oneCell', boxP])) ?_
 rintro _ _ ⟨rfl, rfl⟩
 refine ⟨(ss (ss (ss (ss (ss (ss (se (ss (sn))))))))), ?_⟩
 obtain hxx17 : ((r13.l_.set ((r8.1).toNat) (S_api_Instr.mk x16.Op (r13.l_.length : Int) x16.S)) : List S_api_Instr)[(r8.1).toNat]? = some (S_api_Instr.mk x16.Op (r13.l_.length : Int) x16.S) := set_at hlx16
 obtain hlx17 : (r8.1).toNat < ((r13.l_.set ((r8.1).toNat) (S_api_Instr.mk x16.Op (r13.l_.length : Int) x16.S)) : List S_api_Instr).length := set_lt hlx16
 obtain hzx17 : (0 : Int) ≤ r8.1 := id hzx16
 refine any_turn (retell 6 (g := row v15 3 ((r13.l_.set ((r8.1).toNat) (S_api_Instr.mk x16.Op (r13.l_.length : Int) x16.S)).map S_api_Instr.enc)) rfl (congrArg (row _ _) (map_set_at rfl))) ?_
 refine any_nil (by kernel_rfl) ?_
 refine goes_nil ?_
 obtain rfl := some_eq h
 refine fin_slots [] [] [6, 7] [row v15 3 ((r13.l_.set ((r8.1).toNat) (S_api_Instr.mk x16.Op (r13.l_.length : Int) x16.S)).map S_api_Instr.enc), box m_0b [v15]] Try.results39 rfl (by decide) rfl ?_
 exact ⟨_, rfl, rfl⟩

def weirgate_compile_maker_repeat_40 (rec_weirgate_compile_maker_code_21 : S_compile_maker → (List S_api_TStmt) → Int → Option (S_compile_maker)) (m_0 : S_compile_maker) (s_1 : S_api_TStmt) (known_2 : Int) : Option (S_compile_maker) :=
 obind (weirgate_compile_maker_put_41 m_0 39 s_1.N []) fun r2 =>
 obind (weirgate_compile_maker_put_41 r2.2 40 0 []) fun r5 =>
 obind (weirgate_compile_maker_block_60 rec_weirgate_compile_maker_code_21 r5.2 s_1.Body known_2) fun r8 =>
 obind (weirgate_compile_maker_put_41 r8 37 r5.1 []) fun r11 =>
 idx r11.2.l_ r5.1 fun x14 =>
 some (S_compile_maker.mk (r11.2.l_.set ((r5.1).toNat) (S_api_Instr.mk x14.Op (r11.2.l_.length : Int) x14.S)))
theorem weirgate_compile_maker_repeat_40_ok (rec_weirgate_compile_maker_code_21 : S_compile_maker → (List S_api_TStmt) → Int → Option (S_compile_maker)) (hrec_weirgate_compile_maker_code_21 : ∀ (m_0 : S_compile_maker) (l_1 : (List S_api_TStmt)) (known_2 : Int) (m_0b : Nat) (m_0_l_v : Value) (l_1v : Value) {r : S_compile_maker}, rec_weirgate_compile_maker_code_21 m_0 l_1 known_2 = some r → Meets Try.prog 21 [boxP m_0b 0, l_1v, .int .i64 known_2] [row m_0_l_v 3 (m_0.l_.map S_api_Instr.enc), box m_0b [m_0_l_v], nro l_1v NC_api_TStmt_50 l_1] (fun v G => ∃ v0, v = .tuple #[] ∧ G = [row v0 3 (r.l_.map S_api_Instr.enc), box m_0b [v0]])) (m_0 : S_compile_maker) (s_1 : S_api_TStmt) (known_2 : Int) (m_0b : Nat) (m_0_l_v : Value) (s_1_X_Argsv : Value) (s_1_Bodyv : Value) (s_1_Elsev : Value) {r : S_compile_maker} (h : weirgate_compile_maker_repeat_40 rec_weirgate_compile_maker_code_21 m_0 s_1 known_2 = some r) :
  Meets Try.prog 40 [boxP m_0b 0, .agg #[.int .i64 s_1.Kind, .int .i64 s_1.Slot, .int .i64 s_1.N, .string (bs s_1.Name), .int .i64 s_1.X.Op, .int .i64 s_1.X.Type_, .int .i64 s_1.X.N, .int .i64 s_1.X.Slot, .string (bs s_1.X.S), s_1_X_Argsv, s_1_Bodyv, s_1_Elsev], .int .i64 known_2] [row m_0_l_v 3 (m_0.l_.map S_api_Instr.enc), box m_0b [m_0_l_v], nro s_1_X_Argsv NC_api_TExpr_48 s_1.X.Args, nro s_1_Bodyv NC_api_TStmt_50 s_1.Body, nro s_1_Elsev NC_api_TStmt_50 s_1.Else] (fun v G => ∃ v0, v = .tuple #[] ∧ G = [row v0 3 (r.l_.map S_api_Instr.enc), box m_0b [v0]]) := by
 refine fn_of_run Try.func40 rfl Try.ntmps40 rfl (fun w0 o0 => ?_)
 refine run_seq ?_
 refine run_region' ?_
 refine ot rfl rfl (t_box rfl) ?_
 rintro _ _ ⟨b1, rfl, rfl⟩
 refine ops_nil ?_
 refine goes_code ?_
 refine run_seq ?_
 refine run_region' ?_
 refine oy rfl rfl (y_move rfl) ?_
 refine oy rfl rfl (y_fieldAddr_box (sz := 0) Try.runUnderlying50 rfl Try.sizeOf3 rfl) ?_
 refine oy rfl rfl (y_load_box 5 Try.isAgg3 rfl rfl rfl) ?_
 obtain ⟨r2, hr3, h⟩ := obind_some h
 refine ot rfl rfl (t_callx (vs := [boxP m_0b 0, .int .i64 39, .int .i64 s_1.N, .string (bs [])]) (cs := []) [(0, 2), (1, 2)] rfl Try.call41 rfl (weirgate_compile_maker_put_41_ok  m_0 39 s_1.N [] m_0b m_0_l_v hr3) (showsX_lend 0 rfl (showsX_lend 1 rfl showsX_nil)) rfl (.inl rfl)) ?_
 rintro _ _ ⟨_, ⟨v4, rfl, rfl⟩, rfl⟩
 refine ops_nil ?_
 refine goes_code ?_
 refine run_seq ?_
 refine run_region' ?_
 refine oy rfl rfl (y_move rfl) ?_
 obtain ⟨r5, hr6, h⟩ := obind_some h
 refine ot rfl rfl (t_callx (vs := [boxP m_0b 0, .int .i64 40, .int .i64 0, .string (bs [])]) (cs := []) [(6, 2), (7, 2)] rfl Try.call41 rfl (weirgate_compile_maker_put_41_ok  r2.2 40 0 [] m_0b v4 hr6) (showsX_lend 6 rfl (showsX_lend 7 rfl showsX_nil)) rfl (.inl rfl)) ?_
 rintro _ _ ⟨_, ⟨v7, rfl, rfl⟩, rfl⟩
 refine oy rfl rfl (y_assign rfl) ?_
 refine ops_nil ?_
 refine goes_code ?_
 refine run_seq ?_
 refine run_weak [(0, boxP m_0b 0), (2, .int .i64 known_2), (4, boxP b1 0), (6, .int .i64 r5.1)] [2, 3, 4, 5, 8, 9] [nro s_1_X_Argsv NC_api_TExpr_48 s_1.X.Args, nro s_1_Bodyv NC_api_TStmt_50 s_1.Body, nro s_1_Elsev NC_api_TStmt_50 s_1.Else, box b1 [.int .i64 s_1.Kind, .int .i64 s_1.Slot, .int .i64 s_1.N, .string (bs s_1.Name), .int .i64 s_1.X.Op, .int .i64 s_1.X.Type_, .int .i64 s_1.X.N, .int .i64 s_1.X.Slot, .string (bs s_1.X.S), s_1_X_Argsv, s_1_Bodyv, s_1_Elsev], row v7 3 (r5.2.l_.map S_api_Instr.enc), box m_0b [v7]] (qv4 rfl rfl rfl rfl) (by decide) rfl ?_
 refine run_region' ?_
 refine oy rfl rfl (y_move rfl) ?_
 refine oy rfl rfl (y_fieldAddr_box (sz := 0) Try.runUnderlying50 rfl Try.sizeOf23 rfl) ?_
 refine oy rfl rfl (y_load_box 3 Try.isAgg23 rfl rfl rfl) ?_
 refine oy rfl rfl (y_move rfl) ?_
 obtain ⟨r8, hr9, h⟩ := obind_some h
 refine ot rfl rfl (t_callx (vs := [boxP m_0b 0, s_1_Bodyv, .int .i64 known_2]) (cs := []) [(4, 2), (5, 2), (1, 0)] rfl Try.call60 rfl (weirgate_compile_maker_block_60_ok rec_weirgate_compile_maker_code_21 hrec_weirgate_compile_maker_code_21 r5.2 s_1.Body known_2 m_0b v7 s_1_Bodyv hr9) (showsX_lend 4 rfl (showsX_lend 5 rfl (showsX_view 1 rfl views_nro showsX_nil))) rfl (.inl rfl)) ?_
 rintro _ _ ⟨_, ⟨v10, rfl, rfl⟩, rfl⟩
 refine ops_nil ?_
 refine goes_code ?_
 refine run_seq ?_
 refine run_region' ?_
 refine oy rfl rfl (y_move rfl) ?_
 refine oy rfl rfl (y_move rfl) ?_
 obtain ⟨r11, hr12, h⟩ := obind_some h
 refine ot rfl rfl (t_callx (vs := [boxP m_0b 0, .int .i64 37, .int .i64 r5.1, .string (bs [])]) (cs := []) [(6, 2), (7, 2)] rfl Try.call41 rfl (weirgate_compile_maker_put_41_ok  r8 37 r5.1 [] m_0b v10 hr12) (showsX_lend 6 rfl (showsX_lend 7 rfl showsX_nil)) rfl (.inl rfl)) ?_
 rintro _ _ ⟨_, ⟨v13, rfl, rfl⟩, rfl⟩
 refine ops_nil ?_
 refine goes_code ?_
 refine run_weak [(0, boxP m_0b 0), (6, .int .i64 r5.1)] [8, 9] [row v13 3 (r11.2.l_.map S_api_Instr.enc), box m_0b [v13]] (qv2 rfl rfl) (by decide) rfl ?_
 refine run_drawany [HA.emp, box m_0b [v13]] (by kernel_rfl) ?_
 refine any_y 0 rfl (by kernel_rfl) (by kernel_rfl) (by kernel_rfl) (se (ss (sn))) (wn rfl) rfl (y_move rfl) ?_
 refine any_y 1 rfl (by kernel_rfl) (by kernel_rfl) (by kernel_rfl) (se (ss (sn))) (wn rfl) rfl (y_nilBox rfl) ?_
 refine any_y 2 rfl (by kernel_rfl) (by kernel_rfl) (by kernel_rfl) (se (ss (sn))) (wn rfl) rfl (y_fieldAddr_box (sz := 0) Try.runUnderlying58 rfl Try.sizeOf29 rfl) ?_
 refine any_y 3 rfl (by kernel_rfl) (by kernel_rfl) (by kernel_rfl) (se (ss (sn))) (wn rfl) rfl (y_load_box 1 Try.isAgg29 rfl rfl rfl) ?_
 refine any_y 4 rfl (by kernel_rfl) (by kernel_rfl) (by kernel_rfl) (se (ss (sn))) (wn rfl) rfl (y_move rfl) ?_
 refine any_y 5 rfl (by kernel_rfl) (by kernel_rfl) (by kernel_rfl) (se (ss (sn))) (wn rfl) rfl (y_move rfl) ?_
 refine any_y 6 rfl (by kernel_rfl) (by kernel_rfl) (by kernel_rfl) (se (ss (sn))) (wn rfl) rfl (y_nilBox rfl) ?_
 refine any_y 7 rfl (by kernel_rfl) (by kernel_rfl) (by kernel_rfl) (se (ss (sn))) (wn rfl) rfl (y_fieldAddr_box (sz := 0) Try.runUnderlying58 rfl Try.sizeOf29 rfl) ?_
 refine any_y 8 rfl (by kernel_rfl) (by kernel_rfl) (by kernel_rfl) (se (ss (sn))) (wn rfl) rfl (y_load_box 1 Try.isAgg29 rfl rfl rfl) ?_
 refine any_all [9] (by kernel_rfl) rfl (anyo_cons ?_ anyo_nil)
 refine any_ty rfl (wn rfl) rfl ((y_len 0 rfl Try.runUnderlying29 rfl rfl reads_row).to (v_len S_api_Instr.enc _)) ⟨(se (ss (sn))), ?_⟩
 refine any_all [10] (by kernel_rfl) rfl (anyo_cons ?_ anyo_nil)
 obtain ⟨x14, hzx14, hlx14, hxx14, h⟩ := idx_some h
 refine any_ty rfl (wn rfl) rfl (y_indexAddrI (kd := .i64) (i := r5.1) 0 Try.runUnderlying29 Try.sizeOf55 rfl rfl rfl reads_row hzx14 (map_lt hlx14)) ⟨(se (ss (sn))), ?_⟩
 refine any_y 11 rfl (by kernel_rfl) (by kernel_rfl) (by kernel_rfl) (se (ss (sn))) (wn rfl) rfl (y_fieldAddr_elem (sz := 0) Try.runUnderlying55 rfl Try.sizeOf3 rfl) ?_
 refine any_all [12] (by kernel_rfl) rfl (anyo_cons ?_ anyo_nil)
 refine any_t rfl (wn rfl) rfl (t_store_row (i := (r5.1).toNat) (j := 1) (c := S_api_Instr.enc x14) 0 Try.sizeOf3 rfl rfl rfl rfl (map_get hxx14) (by decide) (by simp [Value.cells, Value.oneCell', boxP])) ?_
 rintro _ _ ⟨rfl, rfl⟩
 refine ⟨(se (ss (sn))), ?_⟩
 obtain hxx15 : ((r11.2.l_.set ((r5.1).toNat) (S_api_Instr.mk x14.Op (r11.2.l_.length : Int) x14.S)) : List S_api_Instr)[(r5.1).toNat]? = some (S_api_Instr.mk x14.Op (r11.2.l_.length : Int) x14.S) := set_at hlx14
 obtain hlx15 : (r5.1).toNat < ((r11.2.l_.set ((r5.1).toNat) (S_api_Instr.mk x14.Op (r11.2.l_.length : Int) x14.S)) : List S_api_Instr).length := set_lt hlx14
 obtain hzx15 : (0 : Int) ≤ r5.1 := id hzx14
 refine any_turn (retell 0 (g := row v13 3 ((r11.2.l_.set ((r5.1).toNat) (S_api_Instr.mk x14.Op (r11.2.l_.length : Int) x14.S)).map S_api_Instr.enc)) rfl (congrArg (row _ _) (map_set_at rfl))) ?_
 refine any_nil (by kernel_rfl) ?_
 refine goes_nil ?_
 obtain rfl := some_eq h
 refine fin_slots [] [] [0, 1] [row v13 3 ((r11.2.l_.set ((r5.1).toNat) (S_api_Instr.mk x14.Op (r11.2.l_.length : Int) x14.S)).map S_api_Instr.enc), box m_0b [v13]] Try.results40 rfl (by decide) rfl ?_
 exact ⟨_, rfl, rfl⟩

end Go.Proofs.Ytgjdaamkfpbgpaa
