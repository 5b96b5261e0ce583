/-
  Functions of the program, lifted: part 1.
-/
import Derived.Test.YtgibkdldfnlglaaGreatDoorChecked
import Derived.Test.YtgibkdldfnlglaaGreatDoorM1
import Derived.Test.YtgibkdldfnlglaaGreatDoorM0
import Derived.Test.YtgibkdldfnlglaaGreatDoorM2
namespace Go.Proofs.YtgibkdldfnlglaaGreatDoor
open Go.Abs
set_option linter.unusedVariables false
set_option linter.unusedSimpArgs false
set_option maxRecDepth 20000
set_option maxHeartbeats 4000000

structure S_api_Lexeme where
  Kind : Int
  At : Int
  S : (List UInt8)
  deriving DecidableEq, Repr
def S_api_Lexeme.enc (x : S_api_Lexeme) : List Value := [.int .i64 x.Kind, .int .i64 x.At, .string (bs x.S)]
theorem S_api_Lexeme.enc_ok (x : S_api_Lexeme) : (S_api_Lexeme.enc x).length = 3 ∧ ∀ u ∈ S_api_Lexeme.enc x, u.oneCell' = true := by
  constructor
  · rfl
  · intro u hu; simp only [S_api_Lexeme.enc, List.mem_cons, List.not_mem_nil, or_false] at hu; rcases hu with rfl | rfl | rfl <;> rfl
structure S_api_Problem where
  At : Int
  E : Int
  deriving DecidableEq, Repr
def S_api_Problem.enc (x : S_api_Problem) : List Value := [.int .i64 x.At, .int .i64 x.E]
theorem S_api_Problem.enc_ok (x : S_api_Problem) : (S_api_Problem.enc x).length = 2 ∧ ∀ u ∈ S_api_Problem.enc x, u.oneCell' = true := by
  constructor
  · rfl
  · intro u hu; simp only [S_api_Problem.enc, List.mem_cons, List.not_mem_nil, or_false] at hu; rcases hu with rfl | rfl <;> rfl
structure S_lexer_reader where
  s_ : (List UInt8)
  at_ : Int
  deriving DecidableEq, Repr
def S_lexer_reader.enc (x : S_lexer_reader) : List Value := [.string (bs x.s_), .int .i64 x.at_]
theorem S_lexer_reader.enc_ok (x : S_lexer_reader) : (S_lexer_reader.enc x).length = 2 ∧ ∀ u ∈ S_lexer_reader.enc x, u.oneCell' = true := by
  constructor
  · rfl
  · intro u hu; simp only [S_lexer_reader.enc, List.mem_cons, List.not_mem_nil, or_false] at hu; rcases hu with rfl | rfl <;> rfl
structure S_ref18_Got where
  T : S_api_Lexeme
  End : Int
  E : Int
  deriving DecidableEq, Repr
def S_ref18_Got.enc (x : S_ref18_Got) : List Value := [.int .i64 x.T.Kind, .int .i64 x.T.At, .string (bs x.T.S), .int .i64 x.End, .int .i64 x.E]
theorem S_ref18_Got.enc_ok (x : S_ref18_Got) : (S_ref18_Got.enc x).length = 5 ∧ ∀ u ∈ S_ref18_Got.enc x, u.oneCell' = true := by
  constructor
  · rfl
  · intro u hu; simp only [S_ref18_Got.enc, List.mem_cons, List.not_mem_nil, or_false] at hu; rcases hu with rfl | rfl | rfl | rfl | rfl <;> rfl
structure S_ref18_Spot where
  Line : Int
  Column : Int
  deriving DecidableEq, Repr
def S_ref18_Spot.enc (x : S_ref18_Spot) : List Value := [.int .i64 x.Line, .int .i64 x.Column]
theorem S_ref18_Spot.enc_ok (x : S_ref18_Spot) : (S_ref18_Spot.enc x).length = 2 ∧ ∀ u ∈ S_ref18_Spot.enc x, u.oneCell' = true := by
  constructor
  · rfl
  · intro u hu; simp only [S_ref18_Spot.enc, List.mem_cons, List.not_mem_nil, or_false] at hu; rcases hu with rfl | rfl <;> rfl
structure S_ref18_Number where
  N : Int
  E : Int
  deriving DecidableEq, Repr
def S_ref18_Number.enc (x : S_ref18_Number) : List Value := [.int .i64 x.N, .int .i64 x.E]
theorem S_ref18_Number.enc_ok (x : S_ref18_Number) : (S_ref18_Number.enc x).length = 2 ∧ ∀ u ∈ S_ref18_Number.enc x, u.oneCell' = true := by
  constructor
  · rfl
  · intro u hu; simp only [S_ref18_Number.enc, List.mem_cons, List.not_mem_nil, or_false] at hu; rcases hu with rfl | rfl <;> rfl
structure S_ref18_Printed where
  S : (List UInt8)
  E : Int
  deriving DecidableEq, Repr
def S_ref18_Printed.enc (x : S_ref18_Printed) : List Value := [.string (bs x.S), .int .i64 x.E]
theorem S_ref18_Printed.enc_ok (x : S_ref18_Printed) : (S_ref18_Printed.enc x).length = 2 ∧ ∀ u ∈ S_ref18_Printed.enc x, u.oneCell' = true := by
  constructor
  · rfl
  · intro u hu; simp only [S_ref18_Printed.enc, List.mem_cons, List.not_mem_nil, or_false] at hu; rcases hu with rfl | rfl <;> rfl

def lexer_forms  : Option (Unit) :=
 some ()
theorem lexer_forms_ok   {r : Unit} (h : lexer_forms = some r) :
  Meets Tryz.prog 27 [] [globA] (fun v G => ∃ v0, v = v0 ∧ G = [row v0 2 [[.func (.func 41) #[] #[], .func (.func 42) #[] #[]], [.func (.func 43) #[] #[], .func (.func 44) #[] #[]], [.func (.func 45) #[] #[], .func (.func 46) #[] #[]], [.func (.func 47) #[] #[], .func (.func 48) #[] #[]]]]) := by
 refine fn_of_run Tryz.func27 rfl Tryz.ntmps27 rfl (fun w0 o0 => ?_)
 refine run_seq ?_
 refine run_region' ?_
 refine oy rfl rfl (y_assign rfl) ?_
 refine ops_nil ?_
 refine goes_code ?_
 refine run_seq ?_
 refine run_region' ?_
 refine oy rfl rfl (y_build_struct (cells := #[.func (.func 41) #[] #[], .func (.func 42) #[] #[]]) [(0, .func (.func 41) #[] #[]), (1, .func (.func 42) #[] #[])] [(0, [.func (.func 41) #[] #[]]), (1, [.func (.func 42) #[] #[]])] Tryz.zeroValue69 Tryz.runUnderlying69 (fs_cons Tryz.sizeOf67 (fs_cons Tryz.sizeOf68 fs_nil)) rfl rfl rfl) ?_
 refine oy rfl rfl (y_build_struct (cells := #[.func (.func 43) #[] #[], .func (.func 44) #[] #[]]) [(0, .func (.func 43) #[] #[]), (1, .func (.func 44) #[] #[])] [(0, [.func (.func 43) #[] #[]]), (1, [.func (.func 44) #[] #[]])] Tryz.zeroValue69 Tryz.runUnderlying69 (fs_cons Tryz.sizeOf67 (fs_cons Tryz.sizeOf68 fs_nil)) rfl rfl rfl) ?_
 refine oy rfl rfl (y_build_struct (cells := #[.func (.func 45) #[] #[], .func (.func 46) #[] #[]]) [(0, .func (.func 45) #[] #[]), (1, .func (.func 46) #[] #[])] [(0, [.func (.func 45) #[] #[]]), (1, [.func (.func 46) #[] #[]])] Tryz.zeroValue69 Tryz.runUnderlying69 (fs_cons Tryz.sizeOf67 (fs_cons Tryz.sizeOf68 fs_nil)) rfl rfl rfl) ?_
 refine oy rfl rfl (y_build_struct (cells := #[.func (.func 47) #[] #[], .func (.func 48) #[] #[]]) [(0, .func (.func 47) #[] #[]), (1, .func (.func 48) #[] #[])] [(0, [.func (.func 47) #[] #[]]), (1, [.func (.func 48) #[] #[]])] Tryz.zeroValue69 Tryz.runUnderlying69 (fs_cons Tryz.sizeOf67 (fs_cons Tryz.sizeOf68 fs_nil)) rfl rfl rfl) ?_
 refine ot rfl rfl (t_lit [.agg #[.func (.func 41) #[] #[], .func (.func 42) #[] #[]], .agg #[.func (.func 43) #[] #[], .func (.func 44) #[] #[]], .agg #[.func (.func 45) #[] #[], .func (.func 46) #[] #[]], .agg #[.func (.func 47) #[] #[], .func (.func 48) #[] #[]]] Tryz.runUnderlying65 Tryz.sizeOf69 Tryz.zeroValue69 rfl (by decide) (by decide) rfl (by simp [Value.cells, Value.oneCell', boxP])) ?_
 rintro v1 _ ⟨rfl, _⟩
 refine ops_turn (retell 1 (g := row v1 2 [[.func (.func 41) #[] #[], .func (.func 42) #[] #[]], [.func (.func 43) #[] #[], .func (.func 44) #[] #[]], [.func (.func 45) #[] #[], .func (.func 46) #[] #[]], [.func (.func 47) #[] #[], .func (.func 48) #[] #[]]]) rfl rfl) ?_
 refine oy rfl rfl (y_assign rfl) ?_
 refine ops_nil ?_
 refine goes_code ?_
 refine run_ret ?_
 obtain rfl := some_eq h
 refine fin_slots [0] [v1] [1] [row v1 2 [[.func (.func 41) #[] #[], .func (.func 42) #[] #[]], [.func (.func 43) #[] #[], .func (.func 44) #[] #[]], [.func (.func 45) #[] #[], .func (.func 46) #[] #[]], [.func (.func 47) #[] #[], .func (.func 48) #[] #[]]]] Tryz.results27 rfl (by decide) rfl ?_
 exact ⟨_, rfl, rfl⟩

def weirgate_lexer_reader_space_1_50 (b_0 : Int) : Option (Bool) :=
 some (((decide (b_0 = 32) || decide (b_0 = 9)) || decide (b_0 = 10)) || decide (b_0 = 13))
theorem weirgate_lexer_reader_space_1_50_ok (b_0 : Int)  {r : Bool} (h : weirgate_lexer_reader_space_1_50 b_0 = some r) :
  Meets Tryz.prog 50 [.int .u8 b_0] [] (fun v G => v = .bool r ∧ G = []) := by
 refine fn_of_run Tryz.func50 rfl Tryz.ntmps50 rfl (fun w0 o0 => ?_)
 refine run_seq ?_
 refine run_region' ?_
 refine oy rfl rfl (y_assign rfl) ?_
 refine ops_nil ?_
 refine goes_code ?_
 refine run_seq ?_
 refine run_region' ?_
 refine oy rfl rfl (y_move rfl) ?_
 refine oy rfl rfl (y_eql rfl rfl) ?_
 refine oy rfl rfl (y_move rfl) ?_
 refine ops_cut 3 (Bool) (fun σ => [(0, .int .u8 b_0), (8, .bool σ)]) (fun σ => []) (fun σ => σ = (decide (b_0 = 32) || decide (b_0 = 9))) (fun L1 hL2 => ?_) ?_
 ·refine ops_split 5 (decide (b_0 = 32)) rfl (fun hg3 => ?_) (fun hg3 => ?_)
  ·skip
   refine ops_no 2 false 5 rfl rfl rfl rfl rfl ?_
   refine ops_no 2 false 5 rfl rfl rfl rfl rfl ?_
   refine oy rfl rfl (y_pick (b := true) rfl rfl) ?_
   refine ops_nil ?_
   exact goes_cut hL2 true [] (qv2 rfl rfl) (by decide) rfl (by rw [hg3]; simp)
  ·skip
   refine ops_y (wg 2 false 5 rfl rfl rfl rfl) rfl (y_move rfl) ?_
   refine ops_y (wg 2 false 5 rfl rfl rfl rfl) rfl (y_eql rfl rfl) ?_
   refine oy rfl rfl (y_pick (b := false) rfl rfl) ?_
   refine ops_nil ?_
   exact goes_cut hL2 (decide (b_0 = 9)) [] (qv2 rfl rfl) (by decide) rfl (by rw [hg3]; simp)
 rintro _ rfl
 refine oy rfl rfl (y_move rfl) ?_
 refine ops_cut 3 (Bool) (fun σ => [(0, .int .u8 b_0), (12, .bool σ)]) (fun σ => []) (fun σ => σ = ((decide (b_0 = 32) || decide (b_0 = 9)) || decide (b_0 = 10))) (fun L4 hL5 => ?_) ?_
 ·refine ops_split 9 (decide (b_0 = 32) || decide (b_0 = 9)) rfl (fun hg6 => ?_) (fun hg6 => ?_)
  ·skip
   refine ops_no 6 false 9 rfl rfl rfl rfl rfl ?_
   refine ops_no 6 false 9 rfl rfl rfl rfl rfl ?_
   refine oy rfl rfl (y_pick (b := true) rfl rfl) ?_
   refine ops_nil ?_
   exact goes_cut hL5 true [] (qv2 rfl rfl) (by decide) rfl (by rw [hg6]; simp)
  ·skip
   refine ops_y (wg 6 false 9 rfl rfl rfl rfl) rfl (y_move rfl) ?_
   refine ops_y (wg 6 false 9 rfl rfl rfl rfl) rfl (y_eql rfl rfl) ?_
   refine oy rfl rfl (y_pick (b := false) rfl rfl) ?_
   refine ops_nil ?_
   exact goes_cut hL5 (decide (b_0 = 10)) [] (qv2 rfl rfl) (by decide) rfl (by rw [hg6]; simp)
 rintro _ rfl
 refine oy rfl rfl (y_move rfl) ?_
 refine ops_cut 3 (Bool) (fun σ => [(16, .bool σ)]) (fun σ => []) (fun σ => σ = (((decide (b_0 = 32) || decide (b_0 = 9)) || decide (b_0 = 10)) || decide (b_0 = 13))) (fun L7 hL8 => ?_) ?_
 ·refine ops_split 13 ((decide (b_0 = 32) || decide (b_0 = 9)) || decide (b_0 = 10)) rfl (fun hg9 => ?_) (fun hg9 => ?_)
  ·skip
   refine ops_no 10 false 13 rfl rfl rfl rfl rfl ?_
   refine ops_no 10 false 13 rfl rfl rfl rfl rfl ?_
   refine oy rfl rfl (y_pick (b := true) rfl rfl) ?_
   refine ops_nil ?_
   exact goes_cut hL8 true [] (qv1 rfl) (by decide) rfl (by rw [hg9]; simp)
  ·skip
   refine ops_y (wg 10 false 13 rfl rfl rfl rfl) rfl (y_move rfl) ?_
   refine ops_y (wg 10 false 13 rfl rfl rfl rfl) rfl (y_eql rfl rfl) ?_
   refine oy rfl rfl (y_pick (b := false) rfl rfl) ?_
   refine ops_nil ?_
   exact goes_cut hL8 (decide (b_0 = 13)) [] (qv1 rfl) (by decide) rfl (by rw [hg9]; simp)
 rintro _ rfl
 refine oy rfl rfl (y_assign rfl) ?_
 refine ops_nil ?_
 refine goes_code ?_
 refine run_ret ?_
 obtain rfl := some_eq h
 refine fin_slots [2] [.bool (((decide (b_0 = 32) || decide (b_0 = 9)) || decide (b_0 = 10)) || decide (b_0 = 13))] [] [] Tryz.results50 rfl (by decide) rfl ?_
 exact ⟨rfl, rfl⟩

def weirgate_lexer_reader_while_49_L1 (r_0 : S_lexer_reader) : (Int) → Option (Lp (Int) (Lp (Int) ((List UInt8) × S_lexer_reader))) :=
 fun x_6 =>
  bindJ (S := Bool)
   (cond (decide (x_6 < (r_0.s_.length : Int)))
    (idx r_0.s_ x_6 fun c17 =>
    obind (weirgate_lexer_reader_space_1_50 (c17.toNat : Int)) fun r18 =>
    some (.go r18))
    (some (.go false)))
  (fun b11 =>
   cond b11
    (some (.go (IntKind.i64.wrap (x_6 + 1))))
    (some (.stop (.go x_6))))
def weirgate_lexer_reader_while_49 (n : Nat) (r_0 : S_lexer_reader) : Option ((List UInt8) × S_lexer_reader) :=
 bindJ (S := Int)
  (iter (weirgate_lexer_reader_while_49_L1 r_0) n r_0.at_)
 (fun x_1 =>
  need (0 ≤ r_0.at_ ∧ r_0.at_ ≤ x_1 ∧ x_1 ≤ (r_0.s_.length : Int)) (
  some (((r_0.s_.take x_1.toNat).drop ((r_0.at_).toNat)), (S_lexer_reader.mk r_0.s_ x_1))))
theorem weirgate_lexer_reader_while_49_ok (n : Nat) (r_0 : S_lexer_reader) (r_0b : Nat) {r : (List UInt8) × S_lexer_reader} (h : weirgate_lexer_reader_while_49 n r_0 = some r) :
  Meets Tryz.prog 49 [boxP r_0b 0, .func (.func 50) #[] #[]] [box r_0b [.string (bs r_0.s_), .int .i64 r_0.at_]] (fun v G => v = .string (bs r.1) ∧ G = [box r_0b [.string (bs r.2.s_), .int .i64 r.2.at_]]) := by
 refine fn_of_run Tryz.func49 rfl Tryz.ntmps49 rfl (fun w0 o0 => ?_)
 refine run_seq ?_
 refine run_region' ?_
 refine oy rfl rfl (y_assign rfl) ?_
 refine ops_nil ?_
 refine goes_code ?_
 refine run_seq ?_
 refine run_region' ?_
 refine oy rfl rfl (y_move rfl) ?_
 refine oy rfl rfl (y_nilBox rfl) ?_
 refine oy rfl rfl (y_fieldAddr_box (sz := 0) Tryz.runUnderlying63 rfl Tryz.sizeOf3 rfl) ?_
 refine oy rfl rfl (y_load_box 0 Tryz.isAgg3 rfl rfl rfl) ?_
 refine oy rfl rfl (y_assign rfl) ?_
 refine ops_nil ?_
 refine goes_code ?_
 obtain ⟨o2, h, ho3⟩ := bindJ_some h
 refine run_cut ((Int) × (Unit)) (fun σ => [(0, boxP r_0b 0), (5, .int .i64 r_0.at_)]) (fun σ => [box r_0b [.string (bs r_0.s_), .int .i64 σ.1]]) (fun σ => o2 = .go σ.1) (fun L5 hL4 => ?_) ?_
 ·
  refine run_block ?_
  refine run_iter (step := weirgate_lexer_reader_while_49_L1 r_0) (n := n) (s0 := r_0.at_) h (G := Unit) () (fun σ γ => [(0, boxP r_0b 0), (1, .func (.func 50) #[] #[]), (5, .int .i64 r_0.at_)]) (fun σ γ => [box r_0b [.string (bs r_0.s_), .int .i64 σ]]) [0] (qv3 rfl rfl rfl) (by decide) rfl ?_
  rintro x_6 _ o7 h L10 hgo8 hstop9
  change Run _ _ _ (VF.of [(0, boxP r_0b 0), (1, .func (.func 50) #[] #[]), (5, .int .i64 r_0.at_)]) [box r_0b [.string (bs r_0.s_), .int .i64 x_6]]
  refine run_seq ?_
  refine run_seq ?_
  refine run_drawany [box r_0b [.string (bs r_0.s_), .int .i64 x_6]] (by kernel_rfl) ?_
  refine any_y 0 rfl (by kernel_rfl) (by kernel_rfl) (by kernel_rfl) (ss (sn)) (wn rfl) rfl (y_move rfl) ?_
  refine any_y 1 rfl (by kernel_rfl) (by kernel_rfl) (by kernel_rfl) (ss (sn)) (wn rfl) rfl (y_nilBox rfl) ?_
  refine any_y 2 rfl (by kernel_rfl) (by kernel_rfl) (by kernel_rfl) (ss (sn)) (wn rfl) rfl (y_fieldAddr_box (sz := 0) Tryz.runUnderlying63 rfl Tryz.sizeOf3 rfl) ?_
  refine any_y 3 rfl (by kernel_rfl) (by kernel_rfl) (by kernel_rfl) (ss (sn)) (wn rfl) rfl (y_load_box 0 Tryz.isAgg3 rfl rfl rfl) ?_
  refine any_y 4 rfl (by kernel_rfl) (by kernel_rfl) (by kernel_rfl) (ss (sn)) (wn rfl) rfl (y_move rfl) ?_
  refine any_y 5 rfl (by kernel_rfl) (by kernel_rfl) (by kernel_rfl) (ss (sn)) (wn rfl) rfl (y_nilBox rfl) ?_
  refine any_y 6 rfl (by kernel_rfl) (by kernel_rfl) (by kernel_rfl) (ss (sn)) (wn rfl) rfl (y_fieldAddr_box (sz := 0) Tryz.runUnderlying63 rfl Tryz.sizeOf9 rfl) ?_
  refine any_y 7 rfl (by kernel_rfl) (by kernel_rfl) (by kernel_rfl) (ss (sn)) (wn rfl) rfl (y_load_box 0 Tryz.isAgg9 rfl rfl rfl) ?_
  refine any_y 8 rfl (by kernel_rfl) (by kernel_rfl) (by kernel_rfl) (ss (sn)) (wn rfl) rfl (y_len_str rfl Tryz.runUnderlying9 rfl) ?_
  refine any_y 9 rfl (by kernel_rfl) (by kernel_rfl) (by kernel_rfl) (ss (sn)) (wn rfl) rfl (y_lss rfl rfl) ?_
  refine any_y 10 rfl (by kernel_rfl) (by kernel_rfl) (by kernel_rfl) (ss (sn)) (wn rfl) rfl (y_move rfl) ?_
  obtain ⟨o12, h, ho13⟩ := bindJ_some h
  refine any_cut #[true, true, true, true, true, true, true, true, true, true, true, true, true, true, true, true, true, true, true, true, true, true, true] 0 Bool (fun σ => [(0, boxP r_0b 0), (1, .func (.func 50) #[] #[]), (5, .int .i64 r_0.at_), (32, .bool σ)]) (fun σ => [box r_0b [.string (bs r_0.s_), .int .i64 x_6]]) (fun σ => o12 = .go σ) (fun hL15 => ?_) ?_
  ·refine any_split 20 (decide (x_6 < (r_0.s_.length : Int))) rfl (fun hg16 => ?_) (fun hg16 => ?_)
   ·replace h := cond_t h hg16
    refine any_y 11 rfl (by kernel_rfl) (by kernel_rfl) (by kernel_rfl) (ss (sn)) (wg 10 true 20 rfl rfl rfl rfl) rfl (y_move rfl) ?_
    refine any_y 12 rfl (by kernel_rfl) (by kernel_rfl) (by kernel_rfl) (ss (sn)) (wg 10 true 20 rfl rfl rfl rfl) rfl (y_move rfl) ?_
    refine any_y 13 rfl (by kernel_rfl) (by kernel_rfl) (by kernel_rfl) (ss (sn)) (wg 10 true 20 rfl rfl rfl rfl) rfl (y_nilBox rfl) ?_
    refine any_y 14 rfl (by kernel_rfl) (by kernel_rfl) (by kernel_rfl) (ss (sn)) (wg 10 true 20 rfl rfl rfl rfl) rfl (y_fieldAddr_box (sz := 0) Tryz.runUnderlying63 rfl Tryz.sizeOf9 rfl) ?_
    refine any_y 15 rfl (by kernel_rfl) (by kernel_rfl) (by kernel_rfl) (ss (sn)) (wg 10 true 20 rfl rfl rfl rfl) rfl (y_load_box 0 Tryz.isAgg9 rfl rfl rfl) ?_
    refine any_y 16 rfl (by kernel_rfl) (by kernel_rfl) (by kernel_rfl) (ss (sn)) (wg 10 true 20 rfl rfl rfl rfl) rfl (y_move rfl) ?_
    refine any_y 17 rfl (by kernel_rfl) (by kernel_rfl) (by kernel_rfl) (ss (sn)) (wg 10 true 20 rfl rfl rfl rfl) rfl (y_nilBox rfl) ?_
    refine any_y 18 rfl (by kernel_rfl) (by kernel_rfl) (by kernel_rfl) (ss (sn)) (wg 10 true 20 rfl rfl rfl rfl) rfl (y_fieldAddr_box (sz := 0) Tryz.runUnderlying63 rfl Tryz.sizeOf3 rfl) ?_
    refine any_y 19 rfl (by kernel_rfl) (by kernel_rfl) (by kernel_rfl) (ss (sn)) (wg 10 true 20 rfl rfl rfl rfl) rfl (y_load_box 0 Tryz.isAgg3 rfl rfl rfl) ?_
    obtain ⟨c17, hzc17, hlc17, hxc17, h⟩ := idx_some h
    refine any_y 20 rfl (by kernel_rfl) (by kernel_rfl) (by kernel_rfl) (ss (sn)) (wg 10 true 20 rfl rfl rfl rfl) rfl (y_index_strI (kd := .i64) (i := x_6) Tryz.runUnderlying9 rfl rfl hzc17 hxc17) ?_
    refine any_all [21] (by kernel_rfl) rfl (anyo_cons ?_ anyo_nil)
    obtain ⟨r18, hr19, h⟩ := obind_some h
    refine any_t rfl (wg 10 true 20 rfl rfl rfl rfl) rfl (t_callx (vs := [.int .u8 (c17.toNat : Int)]) (cs := []) [] rfl Tryz.call50 rfl (weirgate_lexer_reader_space_1_50_ok  (c17.toNat : Int)  hr19) showsX_nil rfl (.inl rfl)) ?_
    rintro _ _ ⟨_, ⟨rfl, rfl⟩, rfl⟩
    refine ⟨(ss (sn)), ?_⟩
    refine any_y 22 rfl (by kernel_rfl) (by kernel_rfl) (by kernel_rfl) (ss (sn)) (wn rfl) rfl (y_pick (b := true) rfl rfl) ?_
    obtain rfl := some_eq h
    exact any_weak [(0, boxP r_0b 0), (1, .func (.func 50) #[] #[]), (5, .int .i64 r_0.at_), (32, .bool r18)] [0] [box r_0b [.string (bs r_0.s_), .int .i64 x_6]] (by kernel_rfl) (qv4 rfl rfl rfl rfl) (by decide) rfl (hL15 r18 rfl)
   ·replace h := cond_f h hg16
    refine any_no 11 rfl (by kernel_rfl) (by kernel_rfl) (by kernel_rfl) (ss (sn)) 10 true 20 rfl rfl rfl rfl rfl ?_
    refine any_no 12 rfl (by kernel_rfl) (by kernel_rfl) (by kernel_rfl) (ss (sn)) 10 true 20 rfl rfl rfl rfl rfl ?_
    refine any_no 13 rfl (by kernel_rfl) (by kernel_rfl) (by kernel_rfl) (ss (sn)) 10 true 20 rfl rfl rfl rfl rfl ?_
    refine any_no 14 rfl (by kernel_rfl) (by kernel_rfl) (by kernel_rfl) (ss (sn)) 10 true 20 rfl rfl rfl rfl rfl ?_
    refine any_no 15 rfl (by kernel_rfl) (by kernel_rfl) (by kernel_rfl) (ss (sn)) 10 true 20 rfl rfl rfl rfl rfl ?_
    refine any_no 16 rfl (by kernel_rfl) (by kernel_rfl) (by kernel_rfl) (ss (sn)) 10 true 20 rfl rfl rfl rfl rfl ?_
    refine any_no 17 rfl (by kernel_rfl) (by kernel_rfl) (by kernel_rfl) (ss (sn)) 10 true 20 rfl rfl rfl rfl rfl ?_
    refine any_no 18 rfl (by kernel_rfl) (by kernel_rfl) (by kernel_rfl) (ss (sn)) 10 true 20 rfl rfl rfl rfl rfl ?_
    refine any_no 19 rfl (by kernel_rfl) (by kernel_rfl) (by kernel_rfl) (ss (sn)) 10 true 20 rfl rfl rfl rfl rfl ?_
    refine any_no 20 rfl (by kernel_rfl) (by kernel_rfl) (by kernel_rfl) (ss (sn)) 10 true 20 rfl rfl rfl rfl rfl ?_
    refine any_no 21 rfl (by kernel_rfl) (by kernel_rfl) (by kernel_rfl) (ss (sn)) 10 true 20 rfl rfl rfl rfl rfl ?_
    refine any_y 22 rfl (by kernel_rfl) (by kernel_rfl) (by kernel_rfl) (ss (sn)) (wn rfl) rfl (y_pick (b := false) rfl rfl) ?_
    obtain rfl := some_eq h
    exact any_weak [(0, boxP r_0b 0), (1, .func (.func 50) #[] #[]), (5, .int .i64 r_0.at_), (32, .bool false)] [0] [box r_0b [.string (bs r_0.s_), .int .i64 x_6]] (by kernel_rfl) (qv4 rfl rfl rfl rfl) (by decide) rfl (hL15 false rfl)
  rintro b11 hj
  obtain rfl : o12 = _ := hj
  replace h := after_go ho13
  clear ho13
  refine any_nil (by kernel_rfl) ?_
  refine goes_code ?_
  refine run_cond b11 rfl (fun hc20 => ?_) (fun hc20 => ?_)
  ·replace h := cond_t h hc20
   refine run_skip ?_
   refine goes_code ?_
   refine run_block ?_
   refine run_region' ?_
   refine oy rfl rfl (y_move rfl) ?_
   refine oy rfl rfl (y_nilBox rfl) ?_
   refine oy rfl rfl (y_fieldAddr_box (sz := 0) Tryz.runUnderlying63 rfl Tryz.sizeOf3 rfl) ?_
   refine oy rfl rfl (y_load_box 0 Tryz.isAgg3 rfl rfl rfl) ?_
   refine oy rfl rfl (y_add rfl rfl) ?_
   refine oy rfl rfl (y_nilBox rfl) ?_
   refine oy rfl rfl (y_fieldAddr_box (sz := 0) Tryz.runUnderlying63 rfl Tryz.sizeOf3 rfl) ?_
   refine ot rfl rfl (t_store 0 Tryz.sizeOf3 rfl rfl rfl rfl (by simp [Value.cells, boxP]) (by simp [Value.cells, Value.oneCell', boxP])) ?_
   rintro _ _ ⟨rfl, rfl⟩
   refine ops_turn (retell 0 (g := box r_0b [.string (bs r_0.s_), .int .i64 (IntKind.i64.wrap (x_6 + 1))]) rfl rfl) ?_
   refine ops_nil ?_
   refine goes_blk ?_
   obtain rfl := some_eq h
   exact goes_iter hgo8 (IntKind.i64.wrap (x_6 + 1)) () [0] rfl (qv3 rfl rfl rfl) (by decide) rfl
  ·replace h := cond_f h hc20
   refine run_exit _ rfl ?_
   obtain rfl := some_eq h
   obtain rfl := hstop9 _ rfl
   exact goes_cut hL4 (x_6, ()) [0] (qv2 rfl rfl) (by decide) rfl rfl
 rintro ⟨x_1, _⟩ hj
 obtain rfl : o2 = _ := hj
 replace h := after_go ho3
 clear ho3
 change Run _ _ _ (VF.of [(0, boxP r_0b 0), (5, .int .i64 r_0.at_)]) [box r_0b [.string (bs r_0.s_), .int .i64 x_1]]
 refine run_seq ?_
 refine run_draw (by kernel_rfl) (by kernel_rfl) ?_
 refine sy rfl rfl (y_move rfl) ?_
 refine sy rfl rfl (y_nilBox rfl) ?_
 refine sy rfl rfl (y_fieldAddr_box (sz := 0) Tryz.runUnderlying63 rfl Tryz.sizeOf9 rfl) ?_
 refine sy rfl rfl (y_load_box 0 Tryz.isAgg9 rfl rfl rfl) ?_
 refine sy rfl rfl (y_move rfl) ?_
 refine sy rfl rfl (y_move rfl) ?_
 refine sy rfl rfl (y_nilBox rfl) ?_
 refine sy rfl rfl (y_fieldAddr_box (sz := 0) Tryz.runUnderlying63 rfl Tryz.sizeOf3 rfl) ?_
 refine sy rfl rfl (y_load_box 0 Tryz.isAgg3 rfl rfl rfl) ?_
 obtain ⟨hb21, h⟩ := need_some h
 refine sy rfl rfl (y_slice_str (l := r_0.at_) (r := x_1) Tryz.runUnderlying9 rfl (bi1 (kd := .i64) rfl) (bi1 (kd := .i64) rfl) hb21.1 hb21.2.1 hb21.2.2) ?_
 refine sy rfl rfl (y_assign rfl) ?_
 refine still_nil ?_
 refine goes_code ?_
 refine run_ret ?_
 obtain rfl := some_eq h
 refine fin_slots [4] [.string (bs ((r_0.s_.take x_1.toNat).drop ((r_0.at_).toNat)))] [0] [box r_0b [.string (bs r_0.s_), .int .i64 x_1]] Tryz.results49 rfl (by decide) rfl ?_
 exact ⟨rfl, rfl⟩

def weirgate_lexer_reader_space_2_51 (b_0 : Int) : Option (Bool) :=
 some (decide (b_0 ≠ 10))
theorem weirgate_lexer_reader_space_2_51_ok (b_0 : Int)  {r : Bool} (h : weirgate_lexer_reader_space_2_51 b_0 = some r) :
  Meets Tryz.prog 51 [.int .u8 b_0] [] (fun v G => v = .bool r ∧ G = []) := by
 refine fn_of_run Tryz.func51 rfl Tryz.ntmps51 rfl (fun w0 o0 => ?_)
 refine run_seq ?_
 refine run_region' ?_
 refine oy rfl rfl (y_assign rfl) ?_
 refine ops_nil ?_
 refine goes_code ?_
 refine run_seq ?_
 refine run_region' ?_
 refine oy rfl rfl (y_move rfl) ?_
 refine oy rfl rfl (y_neq rfl rfl) ?_
 refine oy rfl rfl (y_assign rfl) ?_
 refine ops_nil ?_
 refine goes_code ?_
 refine run_ret ?_
 obtain rfl := some_eq h
 refine fin_slots [2] [.bool (decide (b_0 ≠ 10))] [] [] Tryz.results51 rfl (by decide) rfl ?_
 exact ⟨rfl, rfl⟩

def weirgate_lexer_reader_while_49_v1_L1 (r_0 : S_lexer_reader) : (Int) → Option (Lp (Int) (Lp (Int) ((List UInt8) × S_lexer_reader))) :=
 fun x_6 =>
  bindJ (S := Bool)
   (cond (decide (x_6 < (r_0.s_.length : Int)))
    (idx r_0.s_ x_6 fun c17 =>
    obind (weirgate_lexer_reader_space_2_51 (c17.toNat : Int)) fun r18 =>
    some (.go r18))
    (some (.go false)))
  (fun b11 =>
   cond b11
    (some (.go (IntKind.i64.wrap (x_6 + 1))))
    (some (.stop (.go x_6))))
def weirgate_lexer_reader_while_49_v1 (n : Nat) (r_0 : S_lexer_reader) : Option ((List UInt8) × S_lexer_reader) :=
 bindJ (S := Int)
  (iter (weirgate_lexer_reader_while_49_v1_L1 r_0) n r_0.at_)
 (fun x_1 =>
  need (0 ≤ r_0.at_ ∧ r_0.at_ ≤ x_1 ∧ x_1 ≤ (r_0.s_.length : Int)) (
  some (((r_0.s_.take x_1.toNat).drop ((r_0.at_).toNat)), (S_lexer_reader.mk r_0.s_ x_1))))
theorem weirgate_lexer_reader_while_49_v1_ok (n : Nat) (r_0 : S_lexer_reader) (r_0b : Nat) {r : (List UInt8) × S_lexer_reader} (h : weirgate_lexer_reader_while_49_v1 n r_0 = some r) :
  Meets Tryz.prog 49 [boxP r_0b 0, .func (.func 51) #[] #[]] [box r_0b [.string (bs r_0.s_), .int .i64 r_0.at_]] (fun v G => v = .string (bs r.1) ∧ G = [box r_0b [.string (bs r.2.s_), .int .i64 r.2.at_]]) := by
 refine fn_of_run Tryz.func49 rfl Tryz.ntmps49 rfl (fun w0 o0 => ?_)
 refine run_seq ?_
 refine run_region' ?_
 refine oy rfl rfl (y_assign rfl) ?_
 refine ops_nil ?_
 refine goes_code ?_
 refine run_seq ?_
 refine run_region' ?_
 refine oy rfl rfl (y_move rfl) ?_
 refine oy rfl rfl (y_nilBox rfl) ?_
 refine oy rfl rfl (y_fieldAddr_box (sz := 0) Tryz.runUnderlying63 rfl Tryz.sizeOf3 rfl) ?_
 refine oy rfl rfl (y_load_box 0 Tryz.isAgg3 rfl rfl rfl) ?_
 refine oy rfl rfl (y_assign rfl) ?_
 refine ops_nil ?_
 refine goes_code ?_
 obtain ⟨o2, h, ho3⟩ := bindJ_some h
 refine run_cut ((Int) × (Unit)) (fun σ => [(0, boxP r_0b 0), (5, .int .i64 r_0.at_)]) (fun σ => [box r_0b [.string (bs r_0.s_), .int .i64 σ.1]]) (fun σ => o2 = .go σ.1) (fun L5 hL4 => ?_) ?_
 ·
  refine run_block ?_
  refine run_iter (step := weirgate_lexer_reader_while_49_v1_L1 r_0) (n := n) (s0 := r_0.at_) h (G := Unit) () (fun σ γ => [(0, boxP r_0b 0), (1, .func (.func 51) #[] #[]), (5, .int .i64 r_0.at_)]) (fun σ γ => [box r_0b [.string (bs r_0.s_), .int .i64 σ]]) [0] (qv3 rfl rfl rfl) (by decide) rfl ?_
  rintro x_6 _ o7 h L10 hgo8 hstop9
  change Run _ _ _ (VF.of [(0, boxP r_0b 0), (1, .func (.func 51) #[] #[]), (5, .int .i64 r_0.at_)]) [box r_0b [.string (bs r_0.s_), .int .i64 x_6]]
  refine run_seq ?_
  refine run_seq ?_
  refine run_drawany [box r_0b [.string (bs r_0.s_), .int .i64 x_6]] (by kernel_rfl) ?_
  refine any_y 0 rfl (by kernel_rfl) (by kernel_rfl) (by kernel_rfl) (ss (sn)) (wn rfl) rfl (y_move rfl) ?_
  refine any_y 1 rfl (by kernel_rfl) (by kernel_rfl) (by kernel_rfl) (ss (sn)) (wn rfl) rfl (y_nilBox rfl) ?_
  refine any_y 2 rfl (by kernel_rfl) (by kernel_rfl) (by kernel_rfl) (ss (sn)) (wn rfl) rfl (y_fieldAddr_box (sz := 0) Tryz.runUnderlying63 rfl Tryz.sizeOf3 rfl) ?_
  refine any_y 3 rfl (by kernel_rfl) (by kernel_rfl) (by kernel_rfl) (ss (sn)) (wn rfl) rfl (y_load_box 0 Tryz.isAgg3 rfl rfl rfl) ?_
  refine any_y 4 rfl (by kernel_rfl) (by kernel_rfl) (by kernel_rfl) (ss (sn)) (wn rfl) rfl (y_move rfl) ?_
  refine any_y 5 rfl (by kernel_rfl) (by kernel_rfl) (by kernel_rfl) (ss (sn)) (wn rfl) rfl (y_nilBox rfl) ?_
  refine any_y 6 rfl (by kernel_rfl) (by kernel_rfl) (by kernel_rfl) (ss (sn)) (wn rfl) rfl (y_fieldAddr_box (sz := 0) Tryz.runUnderlying63 rfl Tryz.sizeOf9 rfl) ?_
  refine any_y 7 rfl (by kernel_rfl) (by kernel_rfl) (by kernel_rfl) (ss (sn)) (wn rfl) rfl (y_load_box 0 Tryz.isAgg9 rfl rfl rfl) ?_
  refine any_y 8 rfl (by kernel_rfl) (by kernel_rfl) (by kernel_rfl) (ss (sn)) (wn rfl) rfl (y_len_str rfl Tryz.runUnderlying9 rfl) ?_
  refine any_y 9 rfl (by kernel_rfl) (by kernel_rfl) (by kernel_rfl) (ss (sn)) (wn rfl) rfl (y_lss rfl rfl) ?_
  refine any_y 10 rfl (by kernel_rfl) (by kernel_rfl) (by kernel_rfl) (ss (sn)) (wn rfl) rfl (y_move rfl) ?_
  obtain ⟨o12, h, ho13⟩ := bindJ_some h
  refine any_cut #[true, true, true, true, true, true, true, true, true, true, true, true, true, true, true, true, true, true, true, true, true, true, true] 0 Bool (fun σ => [(0, boxP r_0b 0), (1, .func (.func 51) #[] #[]), (5, .int .i64 r_0.at_), (32, .bool σ)]) (fun σ => [box r_0b [.string (bs r_0.s_), .int .i64 x_6]]) (fun σ => o12 = .go σ) (fun hL15 => ?_) ?_
  ·refine any_split 20 (decide (x_6 < (r_0.s_.length : Int))) rfl (fun hg16 => ?_) (fun hg16 => ?_)
   ·replace h := cond_t h hg16
    refine any_y 11 rfl (by kernel_rfl) (by kernel_rfl) (by kernel_rfl) (ss (sn)) (wg 10 true 20 rfl rfl rfl rfl) rfl (y_move rfl) ?_
    refine any_y 12 rfl (by kernel_rfl) (by kernel_rfl) (by kernel_rfl) (ss (sn)) (wg 10 true 20 rfl rfl rfl rfl) rfl (y_move rfl) ?_
    refine any_y 13 rfl (by kernel_rfl) (by kernel_rfl) (by kernel_rfl) (ss (sn)) (wg 10 true 20 rfl rfl rfl rfl) rfl (y_nilBox rfl) ?_
    refine any_y 14 rfl (by kernel_rfl) (by kernel_rfl) (by kernel_rfl) (ss (sn)) (wg 10 true 20 rfl rfl rfl rfl) rfl (y_fieldAddr_box (sz := 0) Tryz.runUnderlying63 rfl Tryz.sizeOf9 rfl) ?_
    refine any_y 15 rfl (by kernel_rfl) (by kernel_rfl) (by kernel_rfl) (ss (sn)) (wg 10 true 20 rfl rfl rfl rfl) rfl (y_load_box 0 Tryz.isAgg9 rfl rfl rfl) ?_
    refine any_y 16 rfl (by kernel_rfl) (by kernel_rfl) (by kernel_rfl) (ss (sn)) (wg 10 true 20 rfl rfl rfl rfl) rfl (y_move rfl) ?_
    refine any_y 17 rfl (by kernel_rfl) (by kernel_rfl) (by kernel_rfl) (ss (sn)) (wg 10 true 20 rfl rfl rfl rfl) rfl (y_nilBox rfl) ?_
    refine any_y 18 rfl (by kernel_rfl) (by kernel_rfl) (by kernel_rfl) (ss (sn)) (wg 10 true 20 rfl rfl rfl rfl) rfl (y_fieldAddr_box (sz := 0) Tryz.runUnderlying63 rfl Tryz.sizeOf3 rfl) ?_
    refine any_y 19 rfl (by kernel_rfl) (by kernel_rfl) (by kernel_rfl) (ss (sn)) (wg 10 true 20 rfl rfl rfl rfl) rfl (y_load_box 0 Tryz.isAgg3 rfl rfl rfl) ?_
    obtain ⟨c17, hzc17, hlc17, hxc17, h⟩ := idx_some h
    refine any_y 20 rfl (by kernel_rfl) (by kernel_rfl) (by kernel_rfl) (ss (sn)) (wg 10 true 20 rfl rfl rfl rfl) rfl (y_index_strI (kd := .i64) (i := x_6) Tryz.runUnderlying9 rfl rfl hzc17 hxc17) ?_
    refine any_all [21] (by kernel_rfl) rfl (anyo_cons ?_ anyo_nil)
    obtain ⟨r18, hr19, h⟩ := obind_some h
    refine any_t rfl (wg 10 true 20 rfl rfl rfl rfl) rfl (t_callx (vs := [.int .u8 (c17.toNat : Int)]) (cs := []) [] rfl Tryz.call51 rfl (weirgate_lexer_reader_space_2_51_ok  (c17.toNat : Int)  hr19) showsX_nil rfl (.inl rfl)) ?_
    rintro _ _ ⟨_, ⟨rfl, rfl⟩, rfl⟩
    refine ⟨(ss (sn)), ?_⟩
    refine any_y 22 rfl (by kernel_rfl) (by kernel_rfl) (by kernel_rfl) (ss (sn)) (wn rfl) rfl (y_pick (b := true) rfl rfl) ?_
    obtain rfl := some_eq h
    exact any_weak [(0, boxP r_0b 0), (1, .func (.func 51) #[] #[]), (5, .int .i64 r_0.at_), (32, .bool r18)] [0] [box r_0b [.string (bs r_0.s_), .int .i64 x_6]] (by kernel_rfl) (qv4 rfl rfl rfl rfl) (by decide) rfl (hL15 r18 rfl)
   ·replace h := cond_f h hg16
    refine any_no 11 rfl (by kernel_rfl) (by kernel_rfl) (by kernel_rfl) (ss (sn)) 10 true 20 rfl rfl rfl rfl rfl ?_
    refine any_no 12 rfl (by kernel_rfl) (by kernel_rfl) (by kernel_rfl) (ss (sn)) 10 true 20 rfl rfl rfl rfl rfl ?_
    refine any_no 13 rfl (by kernel_rfl) (by kernel_rfl) (by kernel_rfl) (ss (sn)) 10 true 20 rfl rfl rfl rfl rfl ?_
    refine any_no 14 rfl (by kernel_rfl) (by kernel_rfl) (by kernel_rfl) (ss (sn)) 10 true 20 rfl rfl rfl rfl rfl ?_
    refine any_no 15 rfl (by kernel_rfl) (by kernel_rfl) (by kernel_rfl) (ss (sn)) 10 true 20 rfl rfl rfl rfl rfl ?_
    refine any_no 16 rfl (by kernel_rfl) (by kernel_rfl) (by kernel_rfl) (ss (sn)) 10 true 20 rfl rfl rfl rfl rfl ?_
    refine any_no 17 rfl (by kernel_rfl) (by kernel_rfl) (by kernel_rfl) (ss (sn)) 10 true 20 rfl rfl rfl rfl rfl ?_
    refine any_no 18 rfl (by kernel_rfl) (by kernel_rfl) (by kernel_rfl) (ss (sn)) 10 true 20 rfl rfl rfl rfl rfl ?_
    refine any_no 19 rfl (by kernel_rfl) (by kernel_rfl) (by kernel_rfl) (ss (sn)) 10 true 20 rfl rfl rfl rfl rfl ?_
    refine any_no 20 rfl (by kernel_rfl) (by kernel_rfl) (by kernel_rfl) (ss (sn)) 10 true 20 rfl rfl rfl rfl rfl ?_
    refine any_no 21 rfl (by kernel_rfl) (by kernel_rfl) (by kernel_rfl) (ss (sn)) 10 true 20 rfl rfl rfl rfl rfl ?_
    refine any_y 22 rfl (by kernel_rfl) (by kernel_rfl) (by kernel_rfl) (ss (sn)) (wn rfl) rfl (y_pick (b := false) rfl rfl) ?_
    obtain rfl := some_eq h
    exact any_weak [(0, boxP r_0b 0), (1, .func (.func 51) #[] #[]), (5, .int .i64 r_0.at_), (32, .bool false)] [0] [box r_0b [.string (bs r_0.s_), .int .i64 x_6]] (by kernel_rfl) (qv4 rfl rfl rfl rfl) (by decide) rfl (hL15 false rfl)
  rintro b11 hj
  obtain rfl : o12 = _ := hj
  replace h := after_go ho13
  clear ho13
  refine any_nil (by kernel_rfl) ?_
  refine goes_code ?_
  refine run_cond b11 rfl (fun hc20 => ?_) (fun hc20 => ?_)
  ·replace h := cond_t h hc20
   refine run_skip ?_
   refine goes_code ?_
   refine run_block ?_
   refine run_region' ?_
   refine oy rfl rfl (y_move rfl) ?_
   refine oy rfl rfl (y_nilBox rfl) ?_
   refine oy rfl rfl (y_fieldAddr_box (sz := 0) Tryz.runUnderlying63 rfl Tryz.sizeOf3 rfl) ?_
   refine oy rfl rfl (y_load_box 0 Tryz.isAgg3 rfl rfl rfl) ?_
   refine oy rfl rfl (y_add rfl rfl) ?_
   refine oy rfl rfl (y_nilBox rfl) ?_
   refine oy rfl rfl (y_fieldAddr_box (sz := 0) Tryz.runUnderlying63 rfl Tryz.sizeOf3 rfl) ?_
   refine ot rfl rfl (t_store 0 Tryz.sizeOf3 rfl rfl rfl rfl (by simp [Value.cells, boxP]) (by simp [Value.cells, Value.oneCell', boxP])) ?_
   rintro _ _ ⟨rfl, rfl⟩
   refine ops_turn (retell 0 (g := box r_0b [.string (bs r_0.s_), .int .i64 (IntKind.i64.wrap (x_6 + 1))]) rfl rfl) ?_
   refine ops_nil ?_
   refine goes_blk ?_
   obtain rfl := some_eq h
   exact goes_iter hgo8 (IntKind.i64.wrap (x_6 + 1)) () [0] rfl (qv3 rfl rfl rfl) (by decide) rfl
  ·replace h := cond_f h hc20
   refine run_exit _ rfl ?_
   obtain rfl := some_eq h
   obtain rfl := hstop9 _ rfl
   exact goes_cut hL4 (x_6, ()) [0] (qv2 rfl rfl) (by decide) rfl rfl
 rintro ⟨x_1, _⟩ hj
 obtain rfl : o2 = _ := hj
 replace h := after_go ho3
 clear ho3
 change Run _ _ _ (VF.of [(0, boxP r_0b 0), (5, .int .i64 r_0.at_)]) [box r_0b [.string (bs r_0.s_), .int .i64 x_1]]
 refine run_seq ?_
 refine run_draw (by kernel_rfl) (by kernel_rfl) ?_
 refine sy rfl rfl (y_move rfl) ?_
 refine sy rfl rfl (y_nilBox rfl) ?_
 refine sy rfl rfl (y_fieldAddr_box (sz := 0) Tryz.runUnderlying63 rfl Tryz.sizeOf9 rfl) ?_
 refine sy rfl rfl (y_load_box 0 Tryz.isAgg9 rfl rfl rfl) ?_
 refine sy rfl rfl (y_move rfl) ?_
 refine sy rfl rfl (y_move rfl) ?_
 refine sy rfl rfl (y_nilBox rfl) ?_
 refine sy rfl rfl (y_fieldAddr_box (sz := 0) Tryz.runUnderlying63 rfl Tryz.sizeOf3 rfl) ?_
 refine sy rfl rfl (y_load_box 0 Tryz.isAgg3 rfl rfl rfl) ?_
 obtain ⟨hb21, h⟩ := need_some h
 refine sy rfl rfl (y_slice_str (l := r_0.at_) (r := x_1) Tryz.runUnderlying9 rfl (bi1 (kd := .i64) rfl) (bi1 (kd := .i64) rfl) hb21.1 hb21.2.1 hb21.2.2) ?_
 refine sy rfl rfl (y_assign rfl) ?_
 refine still_nil ?_
 refine goes_code ?_
 refine run_ret ?_
 obtain rfl := some_eq h
 refine fin_slots [4] [.string (bs ((r_0.s_.take x_1.toNat).drop ((r_0.at_).toNat)))] [0] [box r_0b [.string (bs r_0.s_), .int .i64 x_1]] Tryz.results49 rfl (by decide) rfl ?_
 exact ⟨rfl, rfl⟩

def weirgate_lexer_reader_space_28_L1 (n : Nat) : ((List UInt8) × Int) → Option (Lp ((List UInt8) × Int) S_lexer_reader) :=
 fun (x_1, x_2) =>
  obind (weirgate_lexer_reader_while_49 n (S_lexer_reader.mk x_1 x_2)) fun r7 =>
  bindJ (S := Bool)
   (cond (decide (r7.2.at_ = (r7.2.s_.length : Int)))
    (some (.go true))
    (idx r7.2.s_ r7.2.at_ fun c15 =>
    some (.go (decide ((c15.toNat : Int) ≠ 35)))))
  (fun b9 =>
   cond b9
    (some (.stop r7.2))
    (obind (weirgate_lexer_reader_while_49_v1 n r7.2) fun r17 =>
    some (.go (r17.2.s_, r17.2.at_))))
def weirgate_lexer_reader_space_28 (n : Nat) (r_0 : S_lexer_reader) : Option (S_lexer_reader) :=
 iter (weirgate_lexer_reader_space_28_L1 n) n (r_0.s_, r_0.at_)
theorem weirgate_lexer_reader_space_28_ok (n : Nat) (r_0 : S_lexer_reader) (r_0b : Nat) {r : S_lexer_reader} (h : weirgate_lexer_reader_space_28 n r_0 = some r) :
  Meets Tryz.prog 28 [boxP r_0b 0] [box r_0b [.string (bs r_0.s_), .int .i64 r_0.at_]] (fun v G => v = .tuple #[] ∧ G = [box r_0b [.string (bs r.s_), .int .i64 r.at_]]) := by
 refine fn_of_run Tryz.func28 rfl Tryz.ntmps28 rfl (fun w0 o0 => ?_)
 refine run_block ?_
 refine run_iter (step := weirgate_lexer_reader_space_28_L1 n) (n := n) (s0 := (r_0.s_, r_0.at_)) h (G := Unit) () (fun σ γ => [(0, boxP r_0b 0)]) (fun σ γ => [box r_0b [.string (bs σ.1), .int .i64 σ.2]]) [0] (qv1 rfl) (by decide) rfl ?_
 rintro ⟨x_1, x_2⟩ _ o3 h L6 hgo4 hstop5
 change Run _ _ _ (VF.of [(0, boxP r_0b 0)]) [box r_0b [.string (bs x_1), .int .i64 x_2]]
 refine run_block ?_
 refine run_seq ?_
 refine run_region' ?_
 refine oy rfl rfl (y_move rfl) ?_
 obtain ⟨r7, hr8, h⟩ := obind_some h
 refine ot rfl rfl (t_callx (vs := [boxP r_0b 0, .func (.func 50) #[] #[]]) (cs := []) [(0, 2)] rfl Tryz.call49 rfl (weirgate_lexer_reader_while_49_ok n  (S_lexer_reader.mk x_1 x_2) r_0b hr8) (showsX_lend 0 rfl showsX_nil) rfl (.inl rfl)) ?_
 rintro _ _ ⟨_, ⟨rfl, rfl⟩, rfl⟩
 refine ops_nil ?_
 refine goes_code ?_
 refine run_seq ?_
 refine run_seq ?_
 refine run_draw (by kernel_rfl) (by kernel_rfl) ?_
 refine sy rfl rfl (y_move rfl) ?_
 refine sy rfl rfl (y_nilBox rfl) ?_
 refine sy rfl rfl (y_fieldAddr_box (sz := 0) Tryz.runUnderlying63 rfl Tryz.sizeOf3 rfl) ?_
 refine sy rfl rfl (y_load_box 1 Tryz.isAgg3 rfl rfl rfl) ?_
 refine sy rfl rfl (y_move rfl) ?_
 refine sy rfl rfl (y_nilBox rfl) ?_
 refine sy rfl rfl (y_fieldAddr_box (sz := 0) Tryz.runUnderlying63 rfl Tryz.sizeOf9 rfl) ?_
 refine sy rfl rfl (y_load_box 1 Tryz.isAgg9 rfl rfl rfl) ?_
 refine sy rfl rfl (y_len_str rfl Tryz.runUnderlying9 rfl) ?_
 refine sy rfl rfl (y_eql rfl rfl) ?_
 refine sy rfl rfl (y_move rfl) ?_
 obtain ⟨o10, h, ho11⟩ := bindJ_some h
 refine still_cut 11 (Bool) (fun σ => [(0, boxP r_0b 0), (25, .bool σ)]) (fun σ => [HA.emp, box r_0b [.string (bs r7.2.s_), .int .i64 r7.2.at_]]) (fun σ => o10 = .go σ) (fun L12 hL13 => ?_) ?_
 ·refine still_split 14 (decide (r7.2.at_ = (r7.2.s_.length : Int))) rfl (fun hg14 => ?_) (fun hg14 => ?_)
  ·replace h := cond_t h hg14
   refine still_no 10 false 14 rfl rfl rfl rfl rfl ?_
   refine still_no 10 false 14 rfl rfl rfl rfl rfl ?_
   refine still_no 10 false 14 rfl rfl rfl rfl rfl ?_
   refine still_no 10 false 14 rfl rfl rfl rfl rfl ?_
   refine still_no 10 false 14 rfl rfl rfl rfl rfl ?_
   refine still_no 10 false 14 rfl rfl rfl rfl rfl ?_
   refine still_no 10 false 14 rfl rfl rfl rfl rfl ?_
   refine still_no 10 false 14 rfl rfl rfl rfl rfl ?_
   refine still_no 10 false 14 rfl rfl rfl rfl rfl ?_
   refine still_no 10 false 14 rfl rfl rfl rfl rfl ?_
   refine sy rfl rfl (y_pick (b := true) rfl rfl) ?_
   refine still_nil ?_
   obtain rfl := some_eq h
   exact goes_cut hL13 true [0, 1] (qv2 rfl rfl) (by decide) rfl rfl
  ·replace h := cond_f h hg14
   refine still_y (wg 10 false 14 rfl rfl rfl rfl) rfl (y_move rfl) ?_
   refine still_y (wg 10 false 14 rfl rfl rfl rfl) rfl (y_nilBox rfl) ?_
   refine still_y (wg 10 false 14 rfl rfl rfl rfl) rfl (y_fieldAddr_box (sz := 0) Tryz.runUnderlying63 rfl Tryz.sizeOf9 rfl) ?_
   refine still_y (wg 10 false 14 rfl rfl rfl rfl) rfl (y_load_box 1 Tryz.isAgg9 rfl rfl rfl) ?_
   refine still_y (wg 10 false 14 rfl rfl rfl rfl) rfl (y_move rfl) ?_
   refine still_y (wg 10 false 14 rfl rfl rfl rfl) rfl (y_nilBox rfl) ?_
   refine still_y (wg 10 false 14 rfl rfl rfl rfl) rfl (y_fieldAddr_box (sz := 0) Tryz.runUnderlying63 rfl Tryz.sizeOf3 rfl) ?_
   refine still_y (wg 10 false 14 rfl rfl rfl rfl) rfl (y_load_box 1 Tryz.isAgg3 rfl rfl rfl) ?_
   obtain ⟨c15, hzc15, hlc15, hxc15, h⟩ := idx_some h
   refine still_y (wg 10 false 14 rfl rfl rfl rfl) rfl (y_index_strI (kd := .i64) (i := r7.2.at_) Tryz.runUnderlying9 rfl rfl hzc15 hxc15) ?_
   refine still_y (wg 10 false 14 rfl rfl rfl rfl) rfl (y_neq rfl rfl) ?_
   refine sy rfl rfl (y_pick (b := false) rfl rfl) ?_
   refine still_nil ?_
   obtain rfl := some_eq h
   exact goes_cut hL13 (decide ((c15.toNat : Int) ≠ 35)) [0, 1] (qv2 rfl rfl) (by decide) rfl rfl
 rintro b9 hj
 obtain rfl : o10 = _ := hj
 replace h := after_go ho11
 clear ho11
 refine still_nil ?_
 refine goes_code ?_
 refine run_cond b9 rfl (fun hc16 => ?_) (fun hc16 => ?_)
 ·replace h := cond_t h hc16
  refine run_ret ?_
  obtain rfl := some_eq h
  obtain rfl := hstop5 _ rfl
  refine fin_slots [] [] [1] [box r_0b [.string (bs r7.2.s_), .int .i64 r7.2.at_]] Tryz.results28 rfl (by decide) rfl ?_
  exact ⟨rfl, rfl⟩
 ·replace h := cond_f h hc16
  refine run_skip ?_
  refine goes_code ?_
  refine run_region' ?_
  refine oy rfl rfl (y_move rfl) ?_
  obtain ⟨r17, hr18, h⟩ := obind_some h
  refine ot rfl rfl (t_callx (vs := [boxP r_0b 0, .func (.func 51) #[] #[]]) (cs := []) [(1, 2)] rfl Tryz.call49 rfl (weirgate_lexer_reader_while_49_v1_ok n  r7.2 r_0b hr18) (showsX_lend 1 rfl showsX_nil) rfl (.inl rfl)) ?_
  rintro _ _ ⟨_, ⟨rfl, rfl⟩, rfl⟩
  refine ops_nil ?_
  refine goes_blk ?_
  obtain rfl := some_eq h
  exact goes_iter hgo4 (r17.2.s_, r17.2.at_) () [2] rfl (qv1 rfl) (by decide) rfl

def lexer_isSmall (b_0 : Int) : Option (Bool) :=
 some (decide (97 ≤ b_0) && decide (b_0 ≤ 122))
theorem lexer_isSmall_ok (b_0 : Int)  {r : Bool} (h : lexer_isSmall b_0 = some r) :
  Meets Tryz.prog 41 [.int .u8 b_0] [] (fun v G => v = .bool r ∧ G = []) := by
 refine fn_of_run Tryz.func41 rfl Tryz.ntmps41 rfl (fun w0 o0 => ?_)
 refine run_seq ?_
 refine run_region' ?_
 refine oy rfl rfl (y_assign rfl) ?_
 refine ops_nil ?_
 refine goes_code ?_
 refine run_seq ?_
 refine run_region' ?_
 refine oy rfl rfl (y_move rfl) ?_
 refine oy rfl rfl (y_geq rfl rfl) ?_
 refine oy rfl rfl (y_move rfl) ?_
 refine ops_cut 3 (Bool) (fun σ => [(8, .bool σ)]) (fun σ => []) (fun σ => σ = (decide (97 ≤ b_0) && decide (b_0 ≤ 122))) (fun L1 hL2 => ?_) ?_
 ·refine ops_split 5 (decide (97 ≤ b_0)) rfl (fun hg3 => ?_) (fun hg3 => ?_)
  ·skip
   refine ops_y (wg 2 true 5 rfl rfl rfl rfl) rfl (y_move rfl) ?_
   refine ops_y (wg 2 true 5 rfl rfl rfl rfl) rfl (y_leq rfl rfl) ?_
   refine oy rfl rfl (y_pick (b := true) rfl rfl) ?_
   refine ops_nil ?_
   exact goes_cut hL2 (decide (b_0 ≤ 122)) [] (qv1 rfl) (by decide) rfl (by rw [hg3]; simp)
  ·skip
   refine ops_no 2 true 5 rfl rfl rfl rfl rfl ?_
   refine ops_no 2 true 5 rfl rfl rfl rfl rfl ?_
   refine oy rfl rfl (y_pick (b := false) rfl rfl) ?_
   refine ops_nil ?_
   exact goes_cut hL2 false [] (qv1 rfl) (by decide) rfl (by rw [hg3]; simp)
 rintro _ rfl
 refine oy rfl rfl (y_assign rfl) ?_
 refine ops_nil ?_
 refine goes_code ?_
 refine run_ret ?_
 obtain rfl := some_eq h
 refine fin_slots [2] [.bool (decide (97 ≤ b_0) && decide (b_0 ≤ 122))] [] [] Tryz.results41 rfl (by decide) rfl ?_
 exact ⟨rfl, rfl⟩

def lexer_isDigit (b_0 : Int) : Option (Bool) :=
 some (decide (48 ≤ b_0) && decide (b_0 ≤ 57))
theorem lexer_isDigit_ok (b_0 : Int)  {r : Bool} (h : lexer_isDigit b_0 = some r) :
  Meets Tryz.prog 43 [.int .u8 b_0] [] (fun v G => v = .bool r ∧ G = []) := by
 refine fn_of_run Tryz.func43 rfl Tryz.ntmps43 rfl (fun w0 o0 => ?_)
 refine run_seq ?_
 refine run_region' ?_
 refine oy rfl rfl (y_assign rfl) ?_
 refine ops_nil ?_
 refine goes_code ?_
 refine run_seq ?_
 refine run_region' ?_
 refine oy rfl rfl (y_move rfl) ?_
 refine oy rfl rfl (y_geq rfl rfl) ?_
 refine oy rfl rfl (y_move rfl) ?_
 refine ops_cut 3 (Bool) (fun σ => [(8, .bool σ)]) (fun σ => []) (fun σ => σ = (decide (48 ≤ b_0) && decide (b_0 ≤ 57))) (fun L1 hL2 => ?_) ?_
 ·refine ops_split 5 (decide (48 ≤ b_0)) rfl (fun hg3 => ?_) (fun hg3 => ?_)
  ·skip
   refine ops_y (wg 2 true 5 rfl rfl rfl rfl) rfl (y_move rfl) ?_
   refine ops_y (wg 2 true 5 rfl rfl rfl rfl) rfl (y_leq rfl rfl) ?_
   refine oy rfl rfl (y_pick (b := true) rfl rfl) ?_
   refine ops_nil ?_
   exact goes_cut hL2 (decide (b_0 ≤ 57)) [] (qv1 rfl) (by decide) rfl (by rw [hg3]; simp)
  ·skip
   refine ops_no 2 true 5 rfl rfl rfl rfl rfl ?_
   refine ops_no 2 true 5 rfl rfl rfl rfl rfl ?_
   refine oy rfl rfl (y_pick (b := false) rfl rfl) ?_
   refine ops_nil ?_
   exact goes_cut hL2 false [] (qv1 rfl) (by decide) rfl (by rw [hg3]; simp)
 rintro _ rfl
 refine oy rfl rfl (y_assign rfl) ?_
 refine ops_nil ?_
 refine goes_code ?_
 refine run_ret ?_
 obtain rfl := some_eq h
 refine fin_slots [2] [.bool (decide (48 ≤ b_0) && decide (b_0 ≤ 57))] [] [] Tryz.results43 rfl (by decide) rfl ?_
 exact ⟨rfl, rfl⟩

def lexer_isRest (b_0 : Int) : Option (Bool) :=
 obind (lexer_isSmall b_0) fun r1 =>
 bindJ (S := Bool)
  (cond r1
   (some (.go true))
   (obind (lexer_isDigit b_0) fun r9 =>
   some (.go r9)))
 (fun b3 =>
  some (b3 || decide (b_0 = 95)))
theorem lexer_isRest_ok (b_0 : Int)  {r : Bool} (h : lexer_isRest b_0 = some r) :
  Meets Tryz.prog 72 [.int .u8 b_0] [] (fun v G => v = .bool r ∧ G = []) := by
 refine fn_of_run Tryz.func72 rfl Tryz.ntmps72 rfl (fun w0 o0 => ?_)
 refine run_seq ?_
 refine run_region' ?_
 refine oy rfl rfl (y_assign rfl) ?_
 refine ops_nil ?_
 refine goes_code ?_
 refine run_seq ?_
 refine run_region' ?_
 refine oy rfl rfl (y_move rfl) ?_
 obtain ⟨r1, hr2, h⟩ := obind_some h
 refine ot rfl rfl (t_callx (vs := [.int .u8 b_0]) (cs := []) [] rfl Tryz.call41 rfl (lexer_isSmall_ok  b_0  hr2) showsX_nil rfl (.inl rfl)) ?_
 rintro _ _ ⟨_, ⟨rfl, rfl⟩, rfl⟩
 refine oy rfl rfl (y_move rfl) ?_
 obtain ⟨o4, h, ho5⟩ := bindJ_some h
 refine ops_cut 3 (Bool) (fun σ => [(0, .int .u8 b_0), (8, .bool σ)]) (fun σ => []) (fun σ => o4 = .go σ) (fun L6 hL7 => ?_) ?_
 ·refine ops_split 5 r1 rfl (fun hg8 => ?_) (fun hg8 => ?_)
  ·replace h := cond_t h hg8
   refine ops_no 2 false 5 rfl rfl rfl rfl rfl ?_
   refine ops_no 2 false 5 rfl rfl rfl rfl rfl ?_
   refine oy rfl rfl (y_pick (b := true) rfl rfl) ?_
   refine ops_nil ?_
   obtain rfl := some_eq h
   exact goes_cut hL7 true [] (qv2 rfl rfl) (by decide) rfl rfl
  ·replace h := cond_f h hg8
   refine ops_y (wg 2 false 5 rfl rfl rfl rfl) rfl (y_move rfl) ?_
   obtain ⟨r9, hr10, h⟩ := obind_some h
   refine ops_t (wg 2 false 5 rfl rfl rfl rfl) rfl (t_callx (vs := [.int .u8 b_0]) (cs := []) [] rfl Tryz.call43 rfl (lexer_isDigit_ok  b_0  hr10) showsX_nil rfl (.inl rfl)) ?_
   rintro _ _ ⟨_, ⟨rfl, rfl⟩, rfl⟩
   refine oy rfl rfl (y_pick (b := false) rfl rfl) ?_
   refine ops_nil ?_
   obtain rfl := some_eq h
   exact goes_cut hL7 r9 [] (qv2 rfl rfl) (by decide) rfl rfl
 rintro b3 hj
 obtain rfl : o4 = _ := hj
 replace h := after_go ho5
 clear ho5
 refine oy rfl rfl (y_move rfl) ?_
 refine ops_cut 3 (Bool) (fun σ => [(12, .bool σ)]) (fun σ => []) (fun σ => σ = (b3 || decide (b_0 = 95))) (fun L11 hL12 => ?_) ?_
 ·refine ops_split 9 b3 rfl (fun hg13 => ?_) (fun hg13 => ?_)
  ·skip
   refine ops_no 6 false 9 rfl rfl rfl rfl rfl ?_
   refine ops_no 6 false 9 rfl rfl rfl rfl rfl ?_
   refine oy rfl rfl (y_pick (b := true) rfl rfl) ?_
   refine ops_nil ?_
   exact goes_cut hL12 true [] (qv1 rfl) (by decide) rfl (by rw [hg13]; simp)
  ·skip
   refine ops_y (wg 6 false 9 rfl rfl rfl rfl) rfl (y_move rfl) ?_
   refine ops_y (wg 6 false 9 rfl rfl rfl rfl) rfl (y_eql rfl rfl) ?_
   refine oy rfl rfl (y_pick (b := false) rfl rfl) ?_
   refine ops_nil ?_
   exact goes_cut hL12 (decide (b_0 = 95)) [] (qv1 rfl) (by decide) rfl (by rw [hg13]; simp)
 rintro _ rfl
 refine oy rfl rfl (y_assign rfl) ?_
 refine ops_nil ?_
 refine goes_code ?_
 refine run_ret ?_
 obtain rfl := some_eq h
 refine fin_slots [2] [.bool (b3 || decide (b_0 = 95))] [] [] Tryz.results72 rfl (by decide) rfl ?_
 exact ⟨rfl, rfl⟩

def weirgate_lexer_reader_while_49_v2_L1 (r_0 : S_lexer_reader) : (Int) → Option (Lp (Int) (Lp (Int) ((List UInt8) × S_lexer_reader))) :=
 fun x_6 =>
  bindJ (S := Bool)
   (cond (decide (x_6 < (r_0.s_.length : Int)))
    (idx r_0.s_ x_6 fun c17 =>
    obind (lexer_isRest (c17.toNat : Int)) fun r18 =>
    some (.go r18))
    (some (.go false)))
  (fun b11 =>
   cond b11
    (some (.go (IntKind.i64.wrap (x_6 + 1))))
    (some (.stop (.go x_6))))
def weirgate_lexer_reader_while_49_v2 (n : Nat) (r_0 : S_lexer_reader) : Option ((List UInt8) × S_lexer_reader) :=
 bindJ (S := Int)
  (iter (weirgate_lexer_reader_while_49_v2_L1 r_0) n r_0.at_)
 (fun x_1 =>
  need (0 ≤ r_0.at_ ∧ r_0.at_ ≤ x_1 ∧ x_1 ≤ (r_0.s_.length : Int)) (
  some (((r_0.s_.take x_1.toNat).drop ((r_0.at_).toNat)), (S_lexer_reader.mk r_0.s_ x_1))))
theorem weirgate_lexer_reader_while_49_v2_ok (n : Nat) (r_0 : S_lexer_reader) (r_0b : Nat) {r : (List UInt8) × S_lexer_reader} (h : weirgate_lexer_reader_while_49_v2 n r_0 = some r) :
  Meets Tryz.prog 49 [boxP r_0b 0, .func (.func 72) #[] #[]] [box r_0b [.string (bs r_0.s_), .int .i64 r_0.at_]] (fun v G => v = .string (bs r.1) ∧ G = [box r_0b [.string (bs r.2.s_), .int .i64 r.2.at_]]) := by
 refine fn_of_run Tryz.func49 rfl Tryz.ntmps49 rfl (fun w0 o0 => ?_)
 refine run_seq ?_
 refine run_region' ?_
 refine oy rfl rfl (y_assign rfl) ?_
 refine ops_nil ?_
 refine goes_code ?_
 refine run_seq ?_
 refine run_region' ?_
 refine oy rfl rfl (y_move rfl) ?_
 refine oy rfl rfl (y_nilBox rfl) ?_
 refine oy rfl rfl (y_fieldAddr_box (sz := 0) Tryz.runUnderlying63 rfl Tryz.sizeOf3 rfl) ?_
 refine oy rfl rfl (y_load_box 0 Tryz.isAgg3 rfl rfl rfl) ?_
 refine oy rfl rfl (y_assign rfl) ?_
 refine ops_nil ?_
 refine goes_code ?_
 obtain ⟨o2, h, ho3⟩ := bindJ_some h
 refine run_cut ((Int) × (Unit)) (fun σ => [(0, boxP r_0b 0), (5, .int .i64 r_0.at_)]) (fun σ => [box r_0b [.string (bs r_0.s_), .int .i64 σ.1]]) (fun σ => o2 = .go σ.1) (fun L5 hL4 => ?_) ?_
 ·
  refine run_block ?_
  refine run_iter (step := weirgate_lexer_reader_while_49_v2_L1 r_0) (n := n) (s0 := r_0.at_) h (G := Unit) () (fun σ γ => [(0, boxP r_0b 0), (1, .func (.func 72) #[] #[]), (5, .int .i64 r_0.at_)]) (fun σ γ => [box r_0b [.string (bs r_0.s_), .int .i64 σ]]) [0] (qv3 rfl rfl rfl) (by decide) rfl ?_
  rintro x_6 _ o7 h L10 hgo8 hstop9
  change Run _ _ _ (VF.of [(0, boxP r_0b 0), (1, .func (.func 72) #[] #[]), (5, .int .i64 r_0.at_)]) [box r_0b [.string (bs r_0.s_), .int .i64 x_6]]
  refine run_seq ?_
  refine run_seq ?_
  refine run_drawany [box r_0b [.string (bs r_0.s_), .int .i64 x_6]] (by kernel_rfl) ?_
  refine any_y 0 rfl (by kernel_rfl) (by kernel_rfl) (by kernel_rfl) (ss (sn)) (wn rfl) rfl (y_move rfl) ?_
  refine any_y 1 rfl (by kernel_rfl) (by kernel_rfl) (by kernel_rfl) (ss (sn)) (wn rfl) rfl (y_nilBox rfl) ?_
  refine any_y 2 rfl (by kernel_rfl) (by kernel_rfl) (by kernel_rfl) (ss (sn)) (wn rfl) rfl (y_fieldAddr_box (sz := 0) Tryz.runUnderlying63 rfl Tryz.sizeOf3 rfl) ?_
  refine any_y 3 rfl (by kernel_rfl) (by kernel_rfl) (by kernel_rfl) (ss (sn)) (wn rfl) rfl (y_load_box 0 Tryz.isAgg3 rfl rfl rfl) ?_
  refine any_y 4 rfl (by kernel_rfl) (by kernel_rfl) (by kernel_rfl) (ss (sn)) (wn rfl) rfl (y_move rfl) ?_
  refine any_y 5 rfl (by kernel_rfl) (by kernel_rfl) (by kernel_rfl) (ss (sn)) (wn rfl) rfl (y_nilBox rfl) ?_
  refine any_y 6 rfl (by kernel_rfl) (by kernel_rfl) (by kernel_rfl) (ss (sn)) (wn rfl) rfl (y_fieldAddr_box (sz := 0) Tryz.runUnderlying63 rfl Tryz.sizeOf9 rfl) ?_
  refine any_y 7 rfl (by kernel_rfl) (by kernel_rfl) (by kernel_rfl) (ss (sn)) (wn rfl) rfl (y_load_box 0 Tryz.isAgg9 rfl rfl rfl) ?_
  refine any_y 8 rfl (by kernel_rfl) (by kernel_rfl) (by kernel_rfl) (ss (sn)) (wn rfl) rfl (y_len_str rfl Tryz.runUnderlying9 rfl) ?_
  refine any_y 9 rfl (by kernel_rfl) (by kernel_rfl) (by kernel_rfl) (ss (sn)) (wn rfl) rfl (y_lss rfl rfl) ?_
  refine any_y 10 rfl (by kernel_rfl) (by kernel_rfl) (by kernel_rfl) (ss (sn)) (wn rfl) rfl (y_move rfl) ?_
  obtain ⟨o12, h, ho13⟩ := bindJ_some h
  refine any_cut #[true, true, true, true, true, true, true, true, true, true, true, true, true, true, true, true, true, true, true, true, true, true, true] 0 Bool (fun σ => [(0, boxP r_0b 0), (1, .func (.func 72) #[] #[]), (5, .int .i64 r_0.at_), (32, .bool σ)]) (fun σ => [box r_0b [.string (bs r_0.s_), .int .i64 x_6]]) (fun σ => o12 = .go σ) (fun hL15 => ?_) ?_
  ·refine any_split 20 (decide (x_6 < (r_0.s_.length : Int))) rfl (fun hg16 => ?_) (fun hg16 => ?_)
   ·replace h := cond_t h hg16
    refine any_y 11 rfl (by kernel_rfl) (by kernel_rfl) (by kernel_rfl) (ss (sn)) (wg 10 true 20 rfl rfl rfl rfl) rfl (y_move rfl) ?_
    refine any_y 12 rfl (by kernel_rfl) (by kernel_rfl) (by kernel_rfl) (ss (sn)) (wg 10 true 20 rfl rfl rfl rfl) rfl (y_move rfl) ?_
    refine any_y 13 rfl (by kernel_rfl) (by kernel_rfl) (by kernel_rfl) (ss (sn)) (wg 10 true 20 rfl rfl rfl rfl) rfl (y_nilBox rfl) ?_
    refine any_y 14 rfl (by kernel_rfl) (by kernel_rfl) (by kernel_rfl) (ss (sn)) (wg 10 true 20 rfl rfl rfl rfl) rfl (y_fieldAddr_box (sz := 0) Tryz.runUnderlying63 rfl Tryz.sizeOf9 rfl) ?_
    refine any_y 15 rfl (by kernel_rfl) (by kernel_rfl) (by kernel_rfl) (ss (sn)) (wg 10 true 20 rfl rfl rfl rfl) rfl (y_load_box 0 Tryz.isAgg9 rfl rfl rfl) ?_
    refine any_y 16 rfl (by kernel_rfl) (by kernel_rfl) (by kernel_rfl) (ss (sn)) (wg 10 true 20 rfl rfl rfl rfl) rfl (y_move rfl) ?_
    refine any_y 17 rfl (by kernel_rfl) (by kernel_rfl) (by kernel_rfl) (ss (sn)) (wg 10 true 20 rfl rfl rfl rfl) rfl (y_nilBox rfl) ?_
    refine any_y 18 rfl (by kernel_rfl) (by kernel_rfl) (by kernel_rfl) (ss (sn)) (wg 10 true 20 rfl rfl rfl rfl) rfl (y_fieldAddr_box (sz := 0) Tryz.runUnderlying63 rfl Tryz.sizeOf3 rfl) ?_
    refine any_y 19 rfl (by kernel_rfl) (by kernel_rfl) (by kernel_rfl) (ss (sn)) (wg 10 true 20 rfl rfl rfl rfl) rfl (y_load_box 0 Tryz.isAgg3 rfl rfl rfl) ?_
    obtain ⟨c17, hzc17, hlc17, hxc17, h⟩ := idx_some h
    refine any_y 20 rfl (by kernel_rfl) (by kernel_rfl) (by kernel_rfl) (ss (sn)) (wg 10 true 20 rfl rfl rfl rfl) rfl (y_index_strI (kd := .i64) (i := x_6) Tryz.runUnderlying9 rfl rfl hzc17 hxc17) ?_
    refine any_all [21] (by kernel_rfl) rfl (anyo_cons ?_ anyo_nil)
    obtain ⟨r18, hr19, h⟩ := obind_some h
    refine any_t rfl (wg 10 true 20 rfl rfl rfl rfl) rfl (t_callx (vs := [.int .u8 (c17.toNat : Int)]) (cs := []) [] rfl Tryz.call72 rfl (lexer_isRest_ok  (c17.toNat : Int)  hr19) showsX_nil rfl (.inl rfl)) ?_
    rintro _ _ ⟨_, ⟨rfl, rfl⟩, rfl⟩
    refine ⟨(ss (sn)), ?_⟩
    refine any_y 22 rfl (by kernel_rfl) (by kernel_rfl) (by kernel_rfl) (ss (sn)) (wn rfl) rfl (y_pick (b := true) rfl rfl) ?_
    obtain rfl := some_eq h
    exact any_weak [(0, boxP r_0b 0), (1, .func (.func 72) #[] #[]), (5, .int .i64 r_0.at_), (32, .bool r18)] [0] [box r_0b [.string (bs r_0.s_), .int .i64 x_6]] (by kernel_rfl) (qv4 rfl rfl rfl rfl) (by decide) rfl (hL15 r18 rfl)
   ·replace h := cond_f h hg16
    refine any_no 11 rfl (by kernel_rfl) (by kernel_rfl) (by kernel_rfl) (ss (sn)) 10 true 20 rfl rfl rfl rfl rfl ?_
    refine any_no 12 rfl (by kernel_rfl) (by kernel_rfl) (by kernel_rfl) (ss (sn)) 10 true 20 rfl rfl rfl rfl rfl ?_
    refine any_no 13 rfl (by kernel_rfl) (by kernel_rfl) (by kernel_rfl) (ss (sn)) 10 true 20 rfl rfl rfl rfl rfl ?_
    refine any_no 14 rfl (by kernel_rfl) (by kernel_rfl) (by kernel_rfl) (ss (sn)) 10 true 20 rfl rfl rfl rfl rfl ?_
    refine any_no 15 rfl (by kernel_rfl) (by kernel_rfl) (by kernel_rfl) (ss (sn)) 10 true 20 rfl rfl rfl rfl rfl ?_
    refine any_no 16 rfl (by kernel_rfl) (by kernel_rfl) (by kernel_rfl) (ss (sn)) 10 true 20 rfl rfl rfl rfl rfl ?_
    refine any_no 17 rfl (by kernel_rfl) (by kernel_rfl) (by kernel_rfl) (ss (sn)) 10 true 20 rfl rfl rfl rfl rfl ?_
    refine any_no 18 rfl (by kernel_rfl) (by kernel_rfl) (by kernel_rfl) (ss (sn)) 10 true 20 rfl rfl rfl rfl rfl ?_
    refine any_no 19 rfl (by kernel_rfl) (by kernel_rfl) (by kernel_rfl) (ss (sn)) 10 true 20 rfl rfl rfl rfl rfl ?_
    refine any_no 20 rfl (by kernel_rfl) (by kernel_rfl) (by kernel_rfl) (ss (sn)) 10 true 20 rfl rfl rfl rfl rfl ?_
    refine any_no 21 rfl (by kernel_rfl) (by kernel_rfl) (by kernel_rfl) (ss (sn)) 10 true 20 rfl rfl rfl rfl rfl ?_
    refine any_y 22 rfl (by kernel_rfl) (by kernel_rfl) (by kernel_rfl) (ss (sn)) (wn rfl) rfl (y_pick (b := false) rfl rfl) ?_
    obtain rfl := some_eq h
    exact any_weak [(0, boxP r_0b 0), (1, .func (.func 72) #[] #[]), (5, .int .i64 r_0.at_), (32, .bool false)] [0] [box r_0b [.string (bs r_0.s_), .int .i64 x_6]] (by kernel_rfl) (qv4 rfl rfl rfl rfl) (by decide) rfl (hL15 false rfl)
  rintro b11 hj
  obtain rfl : o12 = _ := hj
  replace h := after_go ho13
  clear ho13
  refine any_nil (by kernel_rfl) ?_
  refine goes_code ?_
  refine run_cond b11 rfl (fun hc20 => ?_) (fun hc20 => ?_)
  ·replace h := cond_t h hc20
   refine run_skip ?_
   refine goes_code ?_
   refine run_block ?_
   refine run_region' ?_
   refine oy rfl rfl (y_move rfl) ?_
   refine oy rfl rfl (y_nilBox rfl) ?_
   refine oy rfl rfl (y_fieldAddr_box (sz := 0) Tryz.runUnderlying63 rfl Tryz.sizeOf3 rfl) ?_
   refine oy rfl rfl (y_load_box 0 Tryz.isAgg3 rfl rfl rfl) ?_
   refine oy rfl rfl (y_add rfl rfl) ?_
   refine oy rfl rfl (y_nilBox rfl) ?_
   refine oy rfl rfl (y_fieldAddr_box (sz := 0) Tryz.runUnderlying63 rfl Tryz.sizeOf3 rfl) ?_
   refine ot rfl rfl (t_store 0 Tryz.sizeOf3 rfl rfl rfl rfl (by simp [Value.cells, boxP]) (by simp [Value.cells, Value.oneCell', boxP])) ?_
   rintro _ _ ⟨rfl, rfl⟩
   refine ops_turn (retell 0 (g := box r_0b [.string (bs r_0.s_), .int .i64 (IntKind.i64.wrap (x_6 + 1))]) rfl rfl) ?_
   refine ops_nil ?_
   refine goes_blk ?_
   obtain rfl := some_eq h
   exact goes_iter hgo8 (IntKind.i64.wrap (x_6 + 1)) () [0] rfl (qv3 rfl rfl rfl) (by decide) rfl
  ·replace h := cond_f h hc20
   refine run_exit _ rfl ?_
   obtain rfl := some_eq h
   obtain rfl := hstop9 _ rfl
   exact goes_cut hL4 (x_6, ()) [0] (qv2 rfl rfl) (by decide) rfl rfl
 rintro ⟨x_1, _⟩ hj
 obtain rfl : o2 = _ := hj
 replace h := after_go ho3
 clear ho3
 change Run _ _ _ (VF.of [(0, boxP r_0b 0), (5, .int .i64 r_0.at_)]) [box r_0b [.string (bs r_0.s_), .int .i64 x_1]]
 refine run_seq ?_
 refine run_draw (by kernel_rfl) (by kernel_rfl) ?_
 refine sy rfl rfl (y_move rfl) ?_
 refine sy rfl rfl (y_nilBox rfl) ?_
 refine sy rfl rfl (y_fieldAddr_box (sz := 0) Tryz.runUnderlying63 rfl Tryz.sizeOf9 rfl) ?_
 refine sy rfl rfl (y_load_box 0 Tryz.isAgg9 rfl rfl rfl) ?_
 refine sy rfl rfl (y_move rfl) ?_
 refine sy rfl rfl (y_move rfl) ?_
 refine sy rfl rfl (y_nilBox rfl) ?_
 refine sy rfl rfl (y_fieldAddr_box (sz := 0) Tryz.runUnderlying63 rfl Tryz.sizeOf3 rfl) ?_
 refine sy rfl rfl (y_load_box 0 Tryz.isAgg3 rfl rfl rfl) ?_
 obtain ⟨hb21, h⟩ := need_some h
 refine sy rfl rfl (y_slice_str (l := r_0.at_) (r := x_1) Tryz.runUnderlying9 rfl (bi1 (kd := .i64) rfl) (bi1 (kd := .i64) rfl) hb21.1 hb21.2.1 hb21.2.2) ?_
 refine sy rfl rfl (y_assign rfl) ?_
 refine still_nil ?_
 refine goes_code ?_
 refine run_ret ?_
 obtain rfl := some_eq h
 refine fin_slots [4] [.string (bs ((r_0.s_.take x_1.toNat).drop ((r_0.at_).toNat)))] [0] [box r_0b [.string (bs r_0.s_), .int .i64 x_1]] Tryz.results49 rfl (by decide) rfl ?_
 exact ⟨rfl, rfl⟩

def lexer_Words  : Option ((List (List UInt8))) :=
 obind (fieldsH [97, 108, 108, 111, 119, 32, 97, 110, 100, 32, 99, 108, 105, 101, 110, 116, 115, 32, 99, 111, 115, 116, 32, 99, 111, 117, 110, 116, 114, 105, 101, 115, 32, 100, 101, 102, 97, 117, 108, 116, 32, 100, 101, 110, 121, 32, 100, 111, 119, 110, 32, 101, 102, 102, 101, 99, 116, 115, 32, 101, 108, 115, 101, 32, 102, 97, 108, 115, 101, 32, 102, 114, 101, 115, 104, 32, 102, 114, 111, 109, 32, 104, 101, 97, 100, 101, 114, 32, 105, 102, 32, 105, 110, 32, 108, 101, 116, 32, 108, 111, 103, 32, 110, 101, 103, 97, 116, 105, 118, 101, 32, 110, 111, 116, 32, 111, 114, 32, 112, 97, 116, 116, 101, 114, 110, 32, 112, 111, 108, 105, 99, 121, 32, 112, 114, 111, 103, 114, 97, 109, 32, 114, 101, 97, 100, 115, 32, 114, 101, 112, 101, 97, 116, 32, 114, 101, 112, 108, 121, 32, 114, 117, 108, 101, 32, 115, 101, 116, 32, 115, 105, 103, 110, 101, 100, 32, 115, 105, 116, 101, 115, 32, 115, 116, 97, 108, 101, 32, 115, 116, 97, 116, 117, 115, 32, 116, 97, 103, 115, 32, 116, 111, 32, 116, 114, 117, 101, 32, 117, 115, 101, 115, 32, 118, 97, 114, 121, 32, 119, 114, 105, 116, 101, 115]) fun r1 =>
 some r1
theorem lexer_Words_ok   {r : (List (List UInt8))} (h : lexer_Words = some r) :
  Meets Tryz.prog 16 [] [globA] (fun v G => ∃ v0, v = v0 ∧ G = [row v0 1 (r.map eStr)]) := by
 refine fn_of_run Tryz.func16 rfl Tryz.ntmps16 rfl (fun w0 o0 => ?_)
 refine run_seq ?_
 refine run_region' ?_
 refine oy rfl rfl (y_assign rfl) ?_
 refine ops_nil ?_
 refine goes_code ?_
 refine run_seq ?_
 refine run_region' ?_
 obtain ⟨r1, hr2, h⟩ := obind_some h
 refine ot rfl rfl (t_callx (vs := [.string (bs [97, 108, 108, 111, 119, 32, 97, 110, 100, 32, 99, 108, 105, 101, 110, 116, 115, 32, 99, 111, 115, 116, 32, 99, 111, 117, 110, 116, 114, 105, 101, 115, 32, 100, 101, 102, 97, 117, 108, 116, 32, 100, 101, 110, 121, 32, 100, 111, 119, 110, 32, 101, 102, 102, 101, 99, 116, 115, 32, 101, 108, 115, 101, 32, 102, 97, 108, 115, 101, 32, 102, 114, 101, 115, 104, 32, 102, 114, 111, 109, 32, 104, 101, 97, 100, 101, 114, 32, 105, 102, 32, 105, 110, 32, 108, 101, 116, 32, 108, 111, 103, 32, 110, 101, 103, 97, 116, 105, 118, 101, 32, 110, 111, 116, 32, 111, 114, 32, 112, 97, 116, 116, 101, 114, 110, 32, 112, 111, 108, 105, 99, 121, 32, 112, 114, 111, 103, 114, 97, 109, 32, 114, 101, 97, 100, 115, 32, 114, 101, 112, 101, 97, 116, 32, 114, 101, 112, 108, 121, 32, 114, 117, 108, 101, 32, 115, 101, 116, 32, 115, 105, 103, 110, 101, 100, 32, 115, 105, 116, 101, 115, 32, 115, 116, 97, 108, 101, 32, 115, 116, 97, 116, 117, 115, 32, 116, 97, 103, 115, 32, 116, 111, 32, 116, 114, 117, 101, 32, 117, 115, 101, 115, 32, 118, 97, 114, 121, 32, 119, 114, 105, 116, 101, 115])]) (cs := []) [(0, 0)] rfl Tryz.call33 rfl (fieldsH_ok  [97, 108, 108, 111, 119, 32, 97, 110, 100, 32, 99, 108, 105, 101, 110, 116, 115, 32, 99, 111, 115, 116, 32, 99, 111, 117, 110, 116, 114, 105, 101, 115, 32, 100, 101, 102, 97, 117, 108, 116, 32, 100, 101, 110, 121, 32, 100, 111, 119, 110, 32, 101, 102, 102, 101, 99, 116, 115, 32, 101, 108, 115, 101, 32, 102, 97, 108, 115, 101, 32, 102, 114, 101, 115, 104, 32, 102, 114, 111, 109, 32, 104, 101, 97, 100, 101, 114, 32, 105, 102, 32, 105, 110, 32, 108, 101, 116, 32, 108, 111, 103, 32, 110, 101, 103, 97, 116, 105, 118, 101, 32, 110, 111, 116, 32, 111, 114, 32, 112, 97, 116, 116, 101, 114, 110, 32, 112, 111, 108, 105, 99, 121, 32, 112, 114, 111, 103, 114, 97, 109, 32, 114, 101, 97, 100, 115, 32, 114, 101, 112, 101, 97, 116, 32, 114, 101, 112, 108, 121, 32, 114, 117, 108, 101, 32, 115, 101, 116, 32, 115, 105, 103, 110, 101, 100, 32, 115, 105, 116, 101, 115, 32, 115, 116, 97, 108, 101, 32, 115, 116, 97, 116, 117, 115, 32, 116, 97, 103, 115, 32, 116, 111, 32, 116, 114, 117, 101, 32, 117, 115, 101, 115, 32, 118, 97, 114, 121, 32, 119, 114, 105, 116, 101, 115]  hr2) (showsX_view 0 rfl views_glob showsX_nil) rfl (.inl rfl)) ?_
 rintro v3 _ ⟨_, ⟨_, rfl, rfl⟩, rfl⟩
 refine oy rfl rfl (y_assign rfl) ?_
 refine ops_nil ?_
 refine goes_code ?_
 refine run_ret ?_
 obtain rfl := some_eq h
 refine fin_slots [0] [v3] [1] [row v3 1 (r1.map eStr)] Tryz.results16 rfl (by decide) rfl ?_
 exact ⟨_, rfl, rfl⟩

def slices_Index_string_string_64_L1 (s_0 : (List (List UInt8))) (v_1 : (List UInt8)) : (Int) → Option (Lp (Int) (Lp (Unit) (Int))) :=
 fun s_5 =>
  cond (decide (s_5 < (s_0.length : Int)))
   (idx s_0 s_5 fun x11 =>
   cond (decide (v_1 = x11))
    (some (.stop (.stop s_5)))
    (some (.go (IntKind.i64.wrap (s_5 + 1)))))
   (some (.stop (.go ())))
def slices_Index_string_string_64 (n : Nat) (s_0 : (List (List UInt8))) (v_1 : (List UInt8)) : Option (Int) :=
 bindJ (S := Unit)
  (iter (slices_Index_string_string_64_L1 s_0 v_1) n 0)
 (fun _ =>
  some (-1))
theorem slices_Index_string_string_64_ok (n : Nat) (s_0 : (List (List UInt8))) (v_1 : (List UInt8)) (s_0v : Value) {r : Int} (h : slices_Index_string_string_64 n s_0 v_1 = some r) :
  Meets Tryz.prog 64 [s_0v, .string (bs v_1)] [ro s_0v 1 (s_0.map eStr)] (fun v G => v = .int .i64 r ∧ G = []) := by
 refine fn_of_run Tryz.func64 rfl Tryz.ntmps64 rfl (fun w0 o0 => ?_)
 refine run_seq ?_
 refine run_region' ?_
 refine oy rfl rfl (y_assign rfl) ?_
 refine ops_nil ?_
 refine goes_code ?_
 obtain ⟨o1, h, ho2⟩ := bindJ_some h
 refine run_cut ((Unit) × (Unit)) (fun σ => []) (fun σ => []) (fun σ => o1 = .go σ.1) (fun L4 hL3 => ?_) ?_
 ·
  refine run_seq ?_
  refine run_region' ?_
  refine oy rfl rfl (y_move rfl) ?_
  refine oy rfl rfl ((y_len 0 rfl Tryz.runUnderlying39 rfl rfl reads_ro).to (v_len eStr _)) ?_
  refine oy rfl rfl (y_move rfl) ?_
  refine ops_nil ?_
  refine goes_code ?_
  refine run_block ?_
  refine run_iter (step := slices_Index_string_string_64_L1 s_0 v_1) (n := n) (s0 := 0) h (G := Unit) () (fun σ γ => [(8, .int .i64 σ), (0, s_0v), (1, .string (bs v_1)), (7, .int .i64 (s_0.length : Int))]) (fun σ γ => [ro s_0v 1 (s_0.map eStr)]) [0] (qv4 rfl rfl rfl rfl) (by decide) rfl ?_
  rintro s_5 _ o6 h L9 hgo7 hstop8
  change Run _ _ _ (VF.of [(8, .int .i64 s_5), (0, s_0v), (1, .string (bs v_1)), (7, .int .i64 (s_0.length : Int))]) [ro s_0v 1 (s_0.map eStr)]
  refine run_seq ?_
  refine run_region' ?_
  refine oy rfl rfl (y_lss rfl rfl) ?_
  refine ops_nil ?_
  refine goes_code ?_
  refine run_seq ?_
  refine run_cond (decide (s_5 < (s_0.length : Int))) rfl (fun hc10 => ?_) (fun hc10 => ?_)
  ·replace h := cond_t h hc10
   refine run_skip ?_
   refine goes_code ?_
   refine run_seq ?_
   refine run_block ?_
   refine run_seq ?_
   refine run_region' ?_
   refine oy rfl rfl (y_move rfl) ?_
   refine oy rfl rfl (y_assign rfl) ?_
   refine ops_nil ?_
   refine goes_code ?_
   refine run_seq ?_
   refine run_region' ?_
   refine oy rfl rfl (y_move rfl) ?_
   refine oy rfl rfl (y_move rfl) ?_
   refine oy rfl rfl (y_move rfl) ?_
   obtain ⟨x11, hzx11, hlx11, hxx11, h⟩ := idx_some h
   refine oy rfl rfl (y_indexAddrI (kd := .i64) (i := s_5) 0 Tryz.runUnderlying39 Tryz.sizeOf9 rfl rfl rfl reads_ro hzx11 (map_lt hlx11)) ?_
   refine oy rfl rfl (y_load_elem (i := s_5.toNat) 0 Tryz.isAgg9 rfl rfl reads_ro (map_get hxx11)) ?_
   refine oy rfl rfl (y_seql rfl rfl) ?_
   refine ops_nil ?_
   refine goes_code ?_
   refine run_cond (decide (v_1 = x11)) rfl (fun hc12 => ?_) (fun hc12 => ?_)
   ·replace h := cond_t h hc12
    refine run_seq ?_
    refine run_weak [(5, .int .i64 s_5)] [] [] (qv1 rfl) (by decide) rfl ?_
    refine run_region' ?_
    refine oy rfl rfl (y_move rfl) ?_
    refine oy rfl rfl (y_assign rfl) ?_
    refine ops_nil ?_
    refine goes_code ?_
    refine run_ret ?_
    obtain rfl := some_eq h
    obtain rfl := hstop8 _ rfl
    skip
    obtain rfl := after_stop ho2
    refine fin_slots [4] [.int .i64 s_5] [] [] Tryz.results64 rfl (by decide) rfl ?_
    exact ⟨rfl, rfl⟩
   ·replace h := cond_f h hc12
    refine run_skip ?_
    refine goes_blk ?_
    refine goes_code ?_
    refine run_weak [(8, .int .i64 s_5), (0, s_0v), (1, .string (bs v_1)), (7, .int .i64 (s_0.length : Int))] [0] [ro s_0v 1 (s_0.map eStr)] (qv4 rfl rfl rfl rfl) (by decide) rfl ?_
    refine run_region' ?_
    refine oy rfl rfl (y_add rfl rfl) ?_
    refine oy rfl rfl (y_move rfl) ?_
    refine ops_nil ?_
    obtain rfl := some_eq h
    exact goes_iter hgo7 (IntKind.i64.wrap (s_5 + 1)) () [0] rfl (qv4 rfl rfl rfl rfl) (by decide) rfl
  ·replace h := cond_f h hc10
   refine run_exit _ rfl ?_
   obtain rfl := some_eq h
   obtain rfl := hstop8 _ rfl
   exact goes_cut hL3 ((), ()) [] vnil (by decide) rfl rfl
 rintro ⟨_, _⟩ hj
 obtain rfl : o1 = _ := hj
 replace h := after_go ho2
 clear ho2
 change Run _ _ _ (VF.of []) []
 refine run_seq ?_
 refine run_region' ?_
 refine oy rfl rfl (y_assign rfl) ?_
 refine ops_nil ?_
 refine goes_code ?_
 refine run_ret ?_
 obtain rfl := some_eq h
 refine fin_slots [4] [.int .i64 (-1)] [] [] Tryz.results64 rfl (by decide) rfl ?_
 exact ⟨rfl, rfl⟩

def slices_Contains_string_string_34 (n : Nat) (s_0 : (List (List UInt8))) (v_1 : (List UInt8)) : Option (Bool) :=
 obind (slices_Index_string_string_64 n s_0 v_1) fun r1 =>
 some (decide (0 ≤ r1))
theorem slices_Contains_string_string_34_ok (n : Nat) (s_0 : (List (List UInt8))) (v_1 : (List UInt8)) (s_0v : Value) {r : Bool} (h : slices_Contains_string_string_34 n s_0 v_1 = some r) :
  Meets Tryz.prog 34 [s_0v, .string (bs v_1)] [ro s_0v 1 (s_0.map eStr)] (fun v G => v = .bool r ∧ G = []) := by
 refine fn_of_run Tryz.func34 rfl Tryz.ntmps34 rfl (fun w0 o0 => ?_)
 refine run_seq ?_
 refine run_region' ?_
 refine oy rfl rfl (y_assign rfl) ?_
 refine ops_nil ?_
 refine goes_code ?_
 refine run_seq ?_
 refine run_region' ?_
 refine oy rfl rfl (y_move rfl) ?_
 refine oy rfl rfl (y_move rfl) ?_
 obtain ⟨r1, hr2, h⟩ := obind_some h
 refine ot rfl rfl (t_callx (vs := [s_0v, .string (bs v_1)]) (cs := []) [(0, 0)] rfl Tryz.call64 rfl (slices_Index_string_string_64_ok n  s_0 v_1 s_0v hr2) (showsX_view 0 rfl views_ro showsX_nil) rfl (.inl rfl)) ?_
 rintro _ _ ⟨_, ⟨rfl, rfl⟩, rfl⟩
 refine oy rfl rfl (y_geq rfl rfl) ?_
 refine oy rfl rfl (y_assign rfl) ?_
 refine ops_nil ?_
 refine goes_code ?_
 refine run_ret ?_
 obtain rfl := some_eq h
 refine fin_slots [4] [.bool (decide (0 ≤ r1))] [] [] Tryz.results34 rfl (by decide) rfl ?_
 exact ⟨rfl, rfl⟩

def lexer_Word (n : Nat) (s_0 : (List UInt8)) : Option (Bool) :=
 obind (lexer_Words) fun r1 =>
 obind (slices_Contains_string_string_34 n r1 s_0) fun r4 =>
 some r4
theorem lexer_Word_ok (n : Nat) (s_0 : (List UInt8))  {r : Bool} (h : lexer_Word n s_0 = some r) :
  Meets Tryz.prog 18 [.string (bs s_0)] [globA] (fun v G => v = .bool r ∧ G = []) := by
 refine fn_of_run Tryz.func18 rfl Tryz.ntmps18 rfl (fun w0 o0 => ?_)
 refine run_seq ?_
 refine run_region' ?_
 refine oy rfl rfl (y_assign rfl) ?_
 refine ops_nil ?_
 refine goes_code ?_
 refine run_seq ?_
 refine run_region' ?_
 obtain ⟨r1, hr2, h⟩ := obind_some h
 refine ot rfl rfl (t_callx (vs := []) (cs := []) [(0, 0)] rfl Tryz.call16 rfl (lexer_Words_ok    hr2) (showsX_view 0 rfl views_glob showsX_nil) rfl (.inl rfl)) ?_
 rintro v3 _ ⟨_, ⟨_, rfl, rfl⟩, rfl⟩
 refine oy rfl rfl (y_move rfl) ?_
 obtain ⟨r4, hr5, h⟩ := obind_some h
 refine ot rfl rfl (t_callx (vs := [v3, .string (bs s_0)]) (cs := []) [(1, 1)] rfl Tryz.call34 rfl (slices_Contains_string_string_34_ok n  r1 s_0 v3 hr5) (showsX_look 1 rfl views_row showsX_nil) rfl (.inr (by rintro _ _ ⟨rfl, rfl⟩ g hg; first | (cases hg; done) | (simp only [List.mem_cons, List.not_mem_nil, or_false] at hg; first | (subst hg; first | exact strict_row | exact strict_box) | (rcases hg with rfl | rfl <;> first | exact strict_row | exact strict_box) | (rcases hg with rfl | rfl | rfl <;> first | exact strict_row | exact strict_box))))) ?_
 rintro _ _ ⟨_, ⟨rfl, rfl⟩, rfl⟩
 refine oy rfl rfl (y_assign rfl) ?_
 refine ops_nil ?_
 refine goes_code ?_
 refine run_ret ?_
 obtain rfl := some_eq h
 refine fin_slots [2] [.bool r4] [] [] Tryz.results18 rfl (by decide) rfl ?_
 exact ⟨rfl, rfl⟩

def lexer_fail (ok_0 : Bool) (e_1 : Int) : Option (Pn (Unit)) :=
 cond ok_0
  (some (.pan e_1))
  (some (.ret ()))
theorem lexer_fail_ok (ok_0 : Bool) (e_1 : Int)  {r : Pn (Unit)} (h : lexer_fail ok_0 e_1 = some r) :
  MeetsP Tryz.prog 73 [.bool ok_0, .int .i64 e_1] [] (fun v G => ∃ q, r = .ret q ∧ (v = .tuple #[] ∧ G = [])) (fun v => ∃ e, r = .pan e ∧ v = .iface 24 (.int .i64 e)) := by
 refine fnp_of_run Tryz.func73 rfl Tryz.ntmps73 rfl (fun w0 o0 => ?_)
 refine run_seq ?_
 refine run_region' ?_
 refine oy rfl rfl (y_move rfl) ?_
 refine ops_nil ?_
 refine goes_code ?_
 refine run_cond ok_0 rfl (fun hc1 => ?_) (fun hc1 => ?_)
 ·replace h := cond_t h hc1
  refine run_region' ?_
  refine oy rfl rfl (y_move rfl) ?_
  refine oy rfl rfl (y_mkIface Tryz.runUnderlying24 rfl rfl) ?_
  refine ops_panic _ (wn rfl) (op_panic rfl) ?_
  obtain rfl := some_eq h
  exact finP ⟨_, rfl, rfl⟩
 ·replace h := cond_f h hc1
  refine run_skip ?_
  refine goes_nil ?_
  obtain rfl := some_eq h
  refine fin_slots [] [] [] [] Tryz.results73 rfl (by decide) rfl ?_
  exact ⟨_, rfl, rfl, rfl⟩

def weirgate_lexer_reader_name_42 (n : Nat) (r_0 : S_lexer_reader) : Option (Pn (S_api_Lexeme × S_lexer_reader)) :=
 obind (weirgate_lexer_reader_while_49_v2 n r_0) fun r2 =>
 obind (lexer_Word n r2.1) fun r4 =>
 cond r4
  (some (.ret ((S_api_Lexeme.mk 2 0 r2.1), r2.2)))
  (obind (lexer_fail (decide (40 < (r2.1.length : Int))) 2) fun r7 =>
  pbind r7 (fun e10 =>
   some (.pan e10)) fun q9 =>
  some (.ret ((S_api_Lexeme.mk 1 0 r2.1), r2.2)))
theorem weirgate_lexer_reader_name_42_ok (n : Nat) (r_0 : S_lexer_reader) (r_0b : Nat) {r : Pn (S_api_Lexeme × S_lexer_reader)} (h : weirgate_lexer_reader_name_42 n r_0 = some r) :
  MeetsP Tryz.prog 42 [boxP r_0b 0] [box r_0b [.string (bs r_0.s_), .int .i64 r_0.at_], globA] (fun v G => ∃ q, r = .ret q ∧ (v = .agg #[.int .i64 q.1.Kind, .int .i64 q.1.At, .string (bs q.1.S)] ∧ G = [box r_0b [.string (bs q.2.s_), .int .i64 q.2.at_]])) (fun v => ∃ e, r = .pan e ∧ v = .iface 24 (.int .i64 e)) := by
 refine fnp_of_run Tryz.func42 rfl Tryz.ntmps42 rfl (fun w0 o0 => ?_)
 refine run_seq ?_
 refine run_region' ?_
 refine ot rfl rfl (t_alloc Tryz.zeroValue44) ?_
 rintro _ _ ⟨b1, rfl, rfl⟩
 refine ops_nil ?_
 refine goes_code ?_
 refine run_seq ?_
 refine run_region' ?_
 refine oy rfl rfl (y_move rfl) ?_
 obtain ⟨r2, hr3, h⟩ := obind_some h
 refine ot rfl rfl (t_callx (vs := [boxP r_0b 0, .func (.func 72) #[] #[]]) (cs := []) [(0, 2)] rfl Tryz.call49 rfl (weirgate_lexer_reader_while_49_v2_ok n  r_0 r_0b hr3) (showsX_lend 0 rfl showsX_nil) rfl (.inl rfl)) ?_
 rintro _ _ ⟨_, ⟨rfl, rfl⟩, rfl⟩
 refine oy rfl rfl (y_assign rfl) ?_
 refine ops_nil ?_
 refine goes_code ?_
 refine run_seq ?_
 refine run_seq ?_
 refine run_region' ?_
 refine oy rfl rfl (y_move rfl) ?_
 obtain ⟨r4, hr5, h⟩ := obind_some h
 refine ot rfl rfl (t_callx (vs := [.string (bs r2.1)]) (cs := []) [(1, 0)] rfl Tryz.call18 rfl (lexer_Word_ok n  r2.1  hr5) (showsX_view 1 rfl views_glob showsX_nil) rfl (.inl rfl)) ?_
 rintro _ _ ⟨_, ⟨rfl, rfl⟩, rfl⟩
 refine ops_nil ?_
 refine goes_code ?_
 refine run_cond r4 rfl (fun hc6 => ?_) (fun hc6 => ?_)
 ·replace h := cond_t h hc6
  refine run_seq ?_
  refine run_region' ?_
  refine oy rfl rfl (y_move rfl) ?_
  refine oy rfl rfl (y_build_struct (cells := #[.int .i64 2, .int .i64 0, .string (bs r2.1)]) [(0, .int .i64 2), (2, .string (bs r2.1))] [(0, [.int .i64 2]), (2, [.string (bs r2.1)])] Tryz.zeroValue44 Tryz.runUnderlying44 (fs_cons Tryz.sizeOf3 (fs_cons Tryz.sizeOf3 (fs_cons Tryz.sizeOf9 fs_nil))) rfl rfl rfl) ?_
  refine ot rfl rfl (t_store 2 Tryz.sizeOf44 rfl rfl rfl rfl (by simp [Value.cells, boxP]) (by simp [Value.cells, Value.oneCell', boxP])) ?_
  rintro _ _ ⟨rfl, rfl⟩
  refine ops_turn (retell 2 (g := box b1 [.int .i64 2, .int .i64 0, .string (bs r2.1)]) rfl rfl) ?_
  refine ops_nil ?_
  refine goes_code ?_
  refine run_ret ?_
  obtain rfl := some_eq h
  refine fin_res [.cell 2 44] [.agg #[.int .i64 2, .int .i64 0, .string (bs r2.1)]] [3] [box r_0b [.string (bs r2.2.s_), .int .i64 r2.2.at_]] Tryz.results42 rfl (rescons (res_box 2 Tryz.isAgg44 Tryz.sizeOf44 rfl rfl rfl) resnil) (by decide) rfl ?_
  exact ⟨_, rfl, rfl, rfl⟩
 ·replace h := cond_f h hc6
  refine run_skip ?_
  refine goes_code ?_
  refine run_seq ?_
  refine run_region' ?_
  refine oy rfl rfl (y_move rfl) ?_
  refine oy rfl rfl (y_len_str rfl Tryz.runUnderlying9 rfl) ?_
  refine oy rfl rfl (y_gtr rfl rfl) ?_
  obtain ⟨r7, hr8, h⟩ := obind_some h
  rcases r7 with q9 | e10
  rotate_left
  ·replace h := pbind_pan h
   refine ops_tp (wn rfl) rfl (t_callp (vs := [.bool (decide (40 < (r2.1.length : Int))), .int .i64 2]) (cs := []) [] rfl Tryz.call73 rfl (lexer_fail_ok  (decide (40 < (r2.1.length : Int))) 2  hr8) showsX_nil rfl (.inl rfl)) (by rintro _ _ ⟨_, ⟨_, hq, _⟩, _⟩; cases hq) ?_
   rintro _ ⟨_, he, rfl⟩
   obtain rfl := Pn.pan.inj he
   obtain rfl := some_eq h
   exact finP ⟨_, rfl, rfl⟩
  replace h := pbind_ret h
  refine ot rfl rfl (t_callx (vs := [.bool (decide (40 < (r2.1.length : Int))), .int .i64 2]) (cs := []) [] rfl Tryz.call73 rfl (mp_ret (lexer_fail_ok  (decide (40 < (r2.1.length : Int))) 2  hr8)) showsX_nil rfl (.inl rfl)) ?_
  rintro _ _ ⟨_, ⟨rfl, rfl⟩, rfl⟩
  refine ops_nil ?_
  refine goes_code ?_
  refine run_seq ?_
  refine run_weak [(2, boxP b1 0), (3, .string (bs r2.1))] [1, 2, 3] [globA, box b1 [.int .i64 0, .int .i64 0, .string (bs [])], box r_0b [.string (bs r2.2.s_), .int .i64 r2.2.at_]] (qv2 rfl rfl) (by decide) rfl ?_
  refine run_region' ?_
  refine oy rfl rfl (y_move rfl) ?_
  refine oy rfl rfl (y_build_struct (cells := #[.int .i64 1, .int .i64 0, .string (bs r2.1)]) [(0, .int .i64 1), (2, .string (bs r2.1))] [(0, [.int .i64 1]), (2, [.string (bs r2.1)])] Tryz.zeroValue44 Tryz.runUnderlying44 (fs_cons Tryz.sizeOf3 (fs_cons Tryz.sizeOf3 (fs_cons Tryz.sizeOf9 fs_nil))) rfl rfl rfl) ?_
  refine ot rfl rfl (t_store 1 Tryz.sizeOf44 rfl rfl rfl rfl (by simp [Value.cells, boxP]) (by simp [Value.cells, Value.oneCell', boxP])) ?_
  rintro _ _ ⟨rfl, rfl⟩
  refine ops_turn (retell 1 (g := box b1 [.int .i64 1, .int .i64 0, .string (bs r2.1)]) rfl rfl) ?_
  refine ops_nil ?_
  refine goes_code ?_
  refine run_ret ?_
  obtain rfl := some_eq h
  refine fin_res [.cell 2 44] [.agg #[.int .i64 1, .int .i64 0, .string (bs r2.1)]] [2] [box r_0b [.string (bs r2.2.s_), .int .i64 r2.2.at_]] Tryz.results42 rfl (rescons (res_box 1 Tryz.isAgg44 Tryz.sizeOf44 rfl rfl rfl) resnil) (by decide) rfl ?_
  exact ⟨_, rfl, rfl, rfl⟩

def weirgate_lexer_reader_while_49_v3_L1 (r_0 : S_lexer_reader) : (Int) → Option (Lp (Int) (Lp (Int) ((List UInt8) × S_lexer_reader))) :=
 fun x_6 =>
  bindJ (S := Bool)
   (cond (decide (x_6 < (r_0.s_.length : Int)))
    (idx r_0.s_ x_6 fun c17 =>
    obind (lexer_isDigit (c17.toNat : Int)) fun r18 =>
    some (.go r18))
    (some (.go false)))
  (fun b11 =>
   cond b11
    (some (.go (IntKind.i64.wrap (x_6 + 1))))
    (some (.stop (.go x_6))))
def weirgate_lexer_reader_while_49_v3 (n : Nat) (r_0 : S_lexer_reader) : Option ((List UInt8) × S_lexer_reader) :=
 bindJ (S := Int)
  (iter (weirgate_lexer_reader_while_49_v3_L1 r_0) n r_0.at_)
 (fun x_1 =>
  need (0 ≤ r_0.at_ ∧ r_0.at_ ≤ x_1 ∧ x_1 ≤ (r_0.s_.length : Int)) (
  some (((r_0.s_.take x_1.toNat).drop ((r_0.at_).toNat)), (S_lexer_reader.mk r_0.s_ x_1))))
theorem weirgate_lexer_reader_while_49_v3_ok (n : Nat) (r_0 : S_lexer_reader) (r_0b : Nat) {r : (List UInt8) × S_lexer_reader} (h : weirgate_lexer_reader_while_49_v3 n r_0 = some r) :
  Meets Tryz.prog 49 [boxP r_0b 0, .func (.func 43) #[] #[]] [box r_0b [.string (bs r_0.s_), .int .i64 r_0.at_]] (fun v G => v = .string (bs r.1) ∧ G = [box r_0b [.string (bs r.2.s_), .int .i64 r.2.at_]]) := by
 refine fn_of_run Tryz.func49 rfl Tryz.ntmps49 rfl (fun w0 o0 => ?_)
 refine run_seq ?_
 refine run_region' ?_
 refine oy rfl rfl (y_assign rfl) ?_
 refine ops_nil ?_
 refine goes_code ?_
 refine run_seq ?_
 refine run_region' ?_
 refine oy rfl rfl (y_move rfl) ?_
 refine oy rfl rfl (y_nilBox rfl) ?_
 refine oy rfl rfl (y_fieldAddr_box (sz := 0) Tryz.runUnderlying63 rfl Tryz.sizeOf3 rfl) ?_
 refine oy rfl rfl (y_load_box 0 Tryz.isAgg3 rfl rfl rfl) ?_
 refine oy rfl rfl (y_assign rfl) ?_
 refine ops_nil ?_
 refine goes_code ?_
 obtain ⟨o2, h, ho3⟩ := bindJ_some h
 refine run_cut ((Int) × (Unit)) (fun σ => [(0, boxP r_0b 0), (5, .int .i64 r_0.at_)]) (fun σ => [box r_0b [.string (bs r_0.s_), .int .i64 σ.1]]) (fun σ => o2 = .go σ.1) (fun L5 hL4 => ?_) ?_
 ·
  refine run_block ?_
  refine run_iter (step := weirgate_lexer_reader_while_49_v3_L1 r_0) (n := n) (s0 := r_0.at_) h (G := Unit) () (fun σ γ => [(0, boxP r_0b 0), (1, .func (.func 43) #[] #[]), (5, .int .i64 r_0.at_)]) (fun σ γ => [box r_0b [.string (bs r_0.s_), .int .i64 σ]]) [0] (qv3 rfl rfl rfl) (by decide) rfl ?_
  rintro x_6 _ o7 h L10 hgo8 hstop9
  change Run _ _ _ (VF.of [(0, boxP r_0b 0), (1, .func (.func 43) #[] #[]), (5, .int .i64 r_0.at_)]) [box r_0b [.string (bs r_0.s_), .int .i64 x_6]]
  refine run_seq ?_
  refine run_seq ?_
  refine run_drawany [box r_0b [.string (bs r_0.s_), .int .i64 x_6]] (by kernel_rfl) ?_
  refine any_y 0 rfl (by kernel_rfl) (by kernel_rfl) (by kernel_rfl) (ss (sn)) (wn rfl) rfl (y_move rfl) ?_
  refine any_y 1 rfl (by kernel_rfl) (by kernel_rfl) (by kernel_rfl) (ss (sn)) (wn rfl) rfl (y_nilBox rfl) ?_
  refine any_y 2 rfl (by kernel_rfl) (by kernel_rfl) (by kernel_rfl) (ss (sn)) (wn rfl) rfl (y_fieldAddr_box (sz := 0) Tryz.runUnderlying63 rfl Tryz.sizeOf3 rfl) ?_
  refine any_y 3 rfl (by kernel_rfl) (by kernel_rfl) (by kernel_rfl) (ss (sn)) (wn rfl) rfl (y_load_box 0 Tryz.isAgg3 rfl rfl rfl) ?_
  refine any_y 4 rfl (by kernel_rfl) (by kernel_rfl) (by kernel_rfl) (ss (sn)) (wn rfl) rfl (y_move rfl) ?_
  refine any_y 5 rfl (by kernel_rfl) (by kernel_rfl) (by kernel_rfl) (ss (sn)) (wn rfl) rfl (y_nilBox rfl) ?_
  refine any_y 6 rfl (by kernel_rfl) (by kernel_rfl) (by kernel_rfl) (ss (sn)) (wn rfl) rfl (y_fieldAddr_box (sz := 0) Tryz.runUnderlying63 rfl Tryz.sizeOf9 rfl) ?_
  refine any_y 7 rfl (by kernel_rfl) (by kernel_rfl) (by kernel_rfl) (ss (sn)) (wn rfl) rfl (y_load_box 0 Tryz.isAgg9 rfl rfl rfl) ?_
  refine any_y 8 rfl (by kernel_rfl) (by kernel_rfl) (by kernel_rfl) (ss (sn)) (wn rfl) rfl (y_len_str rfl Tryz.runUnderlying9 rfl) ?_
  refine any_y 9 rfl (by kernel_rfl) (by kernel_rfl) (by kernel_rfl) (ss (sn)) (wn rfl) rfl (y_lss rfl rfl) ?_
  refine any_y 10 rfl (by kernel_rfl) (by kernel_rfl) (by kernel_rfl) (ss (sn)) (wn rfl) rfl (y_move rfl) ?_
  obtain ⟨o12, h, ho13⟩ := bindJ_some h
  refine any_cut #[true, true, true, true, true, true, true, true, true, true, true, true, true, true, true, true, true, true, true, true, true, true, true] 0 Bool (fun σ => [(0, boxP r_0b 0), (1, .func (.func 43) #[] #[]), (5, .int .i64 r_0.at_), (32, .bool σ)]) (fun σ => [box r_0b [.string (bs r_0.s_), .int .i64 x_6]]) (fun σ => o12 = .go σ) (fun hL15 => ?_) ?_
  ·refine any_split 20 (decide (x_6 < (r_0.s_.length : Int))) rfl (fun hg16 => ?_) (fun hg16 => ?_)
   ·replace h := cond_t h hg16
    refine any_y 11 rfl (by kernel_rfl) (by kernel_rfl) (by kernel_rfl) (ss (sn)) (wg 10 true 20 rfl rfl rfl rfl) rfl (y_move rfl) ?_
    refine any_y 12 rfl (by kernel_rfl) (by kernel_rfl) (by kernel_rfl) (ss (sn)) (wg 10 true 20 rfl rfl rfl rfl) rfl (y_move rfl) ?_
    refine any_y 13 rfl (by kernel_rfl) (by kernel_rfl) (by kernel_rfl) (ss (sn)) (wg 10 true 20 rfl rfl rfl rfl) rfl (y_nilBox rfl) ?_
    refine any_y 14 rfl (by kernel_rfl) (by kernel_rfl) (by kernel_rfl) (ss (sn)) (wg 10 true 20 rfl rfl rfl rfl) rfl (y_fieldAddr_box (sz := 0) Tryz.runUnderlying63 rfl Tryz.sizeOf9 rfl) ?_
    refine any_y 15 rfl (by kernel_rfl) (by kernel_rfl) (by kernel_rfl) (ss (sn)) (wg 10 true 20 rfl rfl rfl rfl) rfl (y_load_box 0 Tryz.isAgg9 rfl rfl rfl) ?_
    refine any_y 16 rfl (by kernel_rfl) (by kernel_rfl) (by kernel_rfl) (ss (sn)) (wg 10 true 20 rfl rfl rfl rfl) rfl (y_move rfl) ?_
    refine any_y 17 rfl (by kernel_rfl) (by kernel_rfl) (by kernel_rfl) (ss (sn)) (wg 10 true 20 rfl rfl rfl rfl) rfl (y_nilBox rfl) ?_
    refine any_y 18 rfl (by kernel_rfl) (by kernel_rfl) (by kernel_rfl) (ss (sn)) (wg 10 true 20 rfl rfl rfl rfl) rfl (y_fieldAddr_box (sz := 0) Tryz.runUnderlying63 rfl Tryz.sizeOf3 rfl) ?_
    refine any_y 19 rfl (by kernel_rfl) (by kernel_rfl) (by kernel_rfl) (ss (sn)) (wg 10 true 20 rfl rfl rfl rfl) rfl (y_load_box 0 Tryz.isAgg3 rfl rfl rfl) ?_
    obtain ⟨c17, hzc17, hlc17, hxc17, h⟩ := idx_some h
    refine any_y 20 rfl (by kernel_rfl) (by kernel_rfl) (by kernel_rfl) (ss (sn)) (wg 10 true 20 rfl rfl rfl rfl) rfl (y_index_strI (kd := .i64) (i := x_6) Tryz.runUnderlying9 rfl rfl hzc17 hxc17) ?_
    refine any_all [21] (by kernel_rfl) rfl (anyo_cons ?_ anyo_nil)
    obtain ⟨r18, hr19, h⟩ := obind_some h
    refine any_t rfl (wg 10 true 20 rfl rfl rfl rfl) rfl (t_callx (vs := [.int .u8 (c17.toNat : Int)]) (cs := []) [] rfl Tryz.call43 rfl (lexer_isDigit_ok  (c17.toNat : Int)  hr19) showsX_nil rfl (.inl rfl)) ?_
    rintro _ _ ⟨_, ⟨rfl, rfl⟩, rfl⟩
    refine ⟨(ss (sn)), ?_⟩
    refine any_y 22 rfl (by kernel_rfl) (by kernel_rfl) (by kernel_rfl) (ss (sn)) (wn rfl) rfl (y_pick (b := true) rfl rfl) ?_
    obtain rfl := some_eq h
    exact any_weak [(0, boxP r_0b 0), (1, .func (.func 43) #[] #[]), (5, .int .i64 r_0.at_), (32, .bool r18)] [0] [box r_0b [.string (bs r_0.s_), .int .i64 x_6]] (by kernel_rfl) (qv4 rfl rfl rfl rfl) (by decide) rfl (hL15 r18 rfl)
   ·replace h := cond_f h hg16
    refine any_no 11 rfl (by kernel_rfl) (by kernel_rfl) (by kernel_rfl) (ss (sn)) 10 true 20 rfl rfl rfl rfl rfl ?_
    refine any_no 12 rfl (by kernel_rfl) (by kernel_rfl) (by kernel_rfl) (ss (sn)) 10 true 20 rfl rfl rfl rfl rfl ?_
    refine any_no 13 rfl (by kernel_rfl) (by kernel_rfl) (by kernel_rfl) (ss (sn)) 10 true 20 rfl rfl rfl rfl rfl ?_
    refine any_no 14 rfl (by kernel_rfl) (by kernel_rfl) (by kernel_rfl) (ss (sn)) 10 true 20 rfl rfl rfl rfl rfl ?_
    refine any_no 15 rfl (by kernel_rfl) (by kernel_rfl) (by kernel_rfl) (ss (sn)) 10 true 20 rfl rfl rfl rfl rfl ?_
    refine any_no 16 rfl (by kernel_rfl) (by kernel_rfl) (by kernel_rfl) (ss (sn)) 10 true 20 rfl rfl rfl rfl rfl ?_
    refine any_no 17 rfl (by kernel_rfl) (by kernel_rfl) (by kernel_rfl) (ss (sn)) 10 true 20 rfl rfl rfl rfl rfl ?_
    refine any_no 18 rfl (by kernel_rfl) (by kernel_rfl) (by kernel_rfl) (ss (sn)) 10 true 20 rfl rfl rfl rfl rfl ?_
    refine any_no 19 rfl (by kernel_rfl) (by kernel_rfl) (by kernel_rfl) (ss (sn)) 10 true 20 rfl rfl rfl rfl rfl ?_
    refine any_no 20 rfl (by kernel_rfl) (by kernel_rfl) (by kernel_rfl) (ss (sn)) 10 true 20 rfl rfl rfl rfl rfl ?_
    refine any_no 21 rfl (by kernel_rfl) (by kernel_rfl) (by kernel_rfl) (ss (sn)) 10 true 20 rfl rfl rfl rfl rfl ?_
    refine any_y 22 rfl (by kernel_rfl) (by kernel_rfl) (by kernel_rfl) (ss (sn)) (wn rfl) rfl (y_pick (b := false) rfl rfl) ?_
    obtain rfl := some_eq h
    exact any_weak [(0, boxP r_0b 0), (1, .func (.func 43) #[] #[]), (5, .int .i64 r_0.at_), (32, .bool false)] [0] [box r_0b [.string (bs r_0.s_), .int .i64 x_6]] (by kernel_rfl) (qv4 rfl rfl rfl rfl) (by decide) rfl (hL15 false rfl)
  rintro b11 hj
  obtain rfl : o12 = _ := hj
  replace h := after_go ho13
  clear ho13
  refine any_nil (by kernel_rfl) ?_
  refine goes_code ?_
  refine run_cond b11 rfl (fun hc20 => ?_) (fun hc20 => ?_)
  ·replace h := cond_t h hc20
   refine run_skip ?_
   refine goes_code ?_
   refine run_block ?_
   refine run_region' ?_
   refine oy rfl rfl (y_move rfl) ?_
   refine oy rfl rfl (y_nilBox rfl) ?_
   refine oy rfl rfl (y_fieldAddr_box (sz := 0) Tryz.runUnderlying63 rfl Tryz.sizeOf3 rfl) ?_
   refine oy rfl rfl (y_load_box 0 Tryz.isAgg3 rfl rfl rfl) ?_
   refine oy rfl rfl (y_add rfl rfl) ?_
   refine oy rfl rfl (y_nilBox rfl) ?_
   refine oy rfl rfl (y_fieldAddr_box (sz := 0) Tryz.runUnderlying63 rfl Tryz.sizeOf3 rfl) ?_
   refine ot rfl rfl (t_store 0 Tryz.sizeOf3 rfl rfl rfl rfl (by simp [Value.cells, boxP]) (by simp [Value.cells, Value.oneCell', boxP])) ?_
   rintro _ _ ⟨rfl, rfl⟩
   refine ops_turn (retell 0 (g := box r_0b [.string (bs r_0.s_), .int .i64 (IntKind.i64.wrap (x_6 + 1))]) rfl rfl) ?_
   refine ops_nil ?_
   refine goes_blk ?_
   obtain rfl := some_eq h
   exact goes_iter hgo8 (IntKind.i64.wrap (x_6 + 1)) () [0] rfl (qv3 rfl rfl rfl) (by decide) rfl
  ·replace h := cond_f h hc20
   refine run_exit _ rfl ?_
   obtain rfl := some_eq h
   obtain rfl := hstop9 _ rfl
   exact goes_cut hL4 (x_6, ()) [0] (qv2 rfl rfl) (by decide) rfl rfl
 rintro ⟨x_1, _⟩ hj
 obtain rfl : o2 = _ := hj
 replace h := after_go ho3
 clear ho3
 change Run _ _ _ (VF.of [(0, boxP r_0b 0), (5, .int .i64 r_0.at_)]) [box r_0b [.string (bs r_0.s_), .int .i64 x_1]]
 refine run_seq ?_
 refine run_draw (by kernel_rfl) (by kernel_rfl) ?_
 refine sy rfl rfl (y_move rfl) ?_
 refine sy rfl rfl (y_nilBox rfl) ?_
 refine sy rfl rfl (y_fieldAddr_box (sz := 0) Tryz.runUnderlying63 rfl Tryz.sizeOf9 rfl) ?_
 refine sy rfl rfl (y_load_box 0 Tryz.isAgg9 rfl rfl rfl) ?_
 refine sy rfl rfl (y_move rfl) ?_
 refine sy rfl rfl (y_move rfl) ?_
 refine sy rfl rfl (y_nilBox rfl) ?_
 refine sy rfl rfl (y_fieldAddr_box (sz := 0) Tryz.runUnderlying63 rfl Tryz.sizeOf3 rfl) ?_
 refine sy rfl rfl (y_load_box 0 Tryz.isAgg3 rfl rfl rfl) ?_
 obtain ⟨hb21, h⟩ := need_some h
 refine sy rfl rfl (y_slice_str (l := r_0.at_) (r := x_1) Tryz.runUnderlying9 rfl (bi1 (kd := .i64) rfl) (bi1 (kd := .i64) rfl) hb21.1 hb21.2.1 hb21.2.2) ?_
 refine sy rfl rfl (y_assign rfl) ?_
 refine still_nil ?_
 refine goes_code ?_
 refine run_ret ?_
 obtain rfl := some_eq h
 refine fin_slots [4] [.string (bs ((r_0.s_.take x_1.toNat).drop ((r_0.at_).toNat)))] [0] [box r_0b [.string (bs r_0.s_), .int .i64 x_1]] Tryz.results49 rfl (by decide) rfl ?_
 exact ⟨rfl, rfl⟩

def weirgate_lexer_reader_number_44 (n : Nat) (r_0 : S_lexer_reader) : Option (Pn (S_api_Lexeme × S_lexer_reader)) :=
 obind (weirgate_lexer_reader_while_49_v3 n r_0) fun r2 =>
 bindJ (S := Int)
  (cond (decide (r2.2.at_ < (r2.2.s_.length : Int)))
   (idx r2.2.s_ r2.2.at_ fun c10 =>
   some (.go (c10.toNat : Int)))
   (some (.go 32)))
 (fun next_4 =>
  bindJ (S := Bool)
   (cond (decide (18 < (r2.1.length : Int)))
    (some (.go true))
    (idx r2.1 0 fun c17 =>
    some (.go (decide ((c17.toNat : Int) = 48) && decide (1 < (r2.1.length : Int))))))
  (fun b11 =>
   bindJ (S := Bool)
    (cond b11
     (some (.go true))
     (obind (lexer_isRest next_4) fun r27 =>
     some (.go r27)))
   (fun b21 =>
    obind (lexer_fail (b21 || (decide (65 ≤ next_4) && decide (next_4 ≤ 90))) 181) fun r35 =>
    pbind r35 (fun e38 =>
     some (.pan e38)) fun q37 =>
    some (.ret ((S_api_Lexeme.mk 3 0 r2.1), r2.2)))))
theorem weirgate_lexer_reader_number_44_ok (n : Nat) (r_0 : S_lexer_reader) (r_0b : Nat) {r : Pn (S_api_Lexeme × S_lexer_reader)} (h : weirgate_lexer_reader_number_44 n r_0 = some r) :
  MeetsP Tryz.prog 44 [boxP r_0b 0] [box r_0b [.string (bs r_0.s_), .int .i64 r_0.at_]] (fun v G => ∃ q, r = .ret q ∧ (v = .agg #[.int .i64 q.1.Kind, .int .i64 q.1.At, .string (bs q.1.S)] ∧ G = [box r_0b [.string (bs q.2.s_), .int .i64 q.2.at_]])) (fun v => ∃ e, r = .pan e ∧ v = .iface 24 (.int .i64 e)) := by
 refine fnp_of_run Tryz.func44 rfl Tryz.ntmps44 rfl (fun w0 o0 => ?_)
 refine run_seq ?_
 refine run_region' ?_
 refine ot rfl rfl (t_alloc Tryz.zeroValue44) ?_
 rintro _ _ ⟨b1, rfl, rfl⟩
 refine ops_nil ?_
 refine goes_code ?_
 refine run_seq ?_
 refine run_region' ?_
 refine oy rfl rfl (y_move rfl) ?_
 obtain ⟨r2, hr3, h⟩ := obind_some h
 refine ot rfl rfl (t_callx (vs := [boxP r_0b 0, .func (.func 43) #[] #[]]) (cs := []) [(0, 2)] rfl Tryz.call49 rfl (weirgate_lexer_reader_while_49_v3_ok n  r_0 r_0b hr3) (showsX_lend 0 rfl showsX_nil) rfl (.inl rfl)) ?_
 rintro _ _ ⟨_, ⟨rfl, rfl⟩, rfl⟩
 refine oy rfl rfl (y_assign rfl) ?_
 refine ops_nil ?_
 refine goes_code ?_
 refine run_seq ?_
 refine run_region' ?_
 refine oy rfl rfl (y_assign rfl) ?_
 refine ops_nil ?_
 refine goes_code ?_
 obtain ⟨o5, h, ho6⟩ := bindJ_some h
 refine run_cut ((Int) × (Unit)) (fun σ => [(4, .int .u8 σ.1), (2, boxP b1 0), (3, .string (bs r2.1))]) (fun σ => [box b1 [.int .i64 0, .int .i64 0, .string (bs [])], box r_0b [.string (bs r2.2.s_), .int .i64 r2.2.at_]]) (fun σ => o5 = .go σ.1) (fun L8 hL7 => ?_) ?_
 ·
  refine run_seq ?_
  refine run_draw (by kernel_rfl) (by kernel_rfl) ?_
  refine sy rfl rfl (y_move rfl) ?_
  refine sy rfl rfl (y_nilBox rfl) ?_
  refine sy rfl rfl (y_fieldAddr_box (sz := 0) Tryz.runUnderlying63 rfl Tryz.sizeOf3 rfl) ?_
  refine sy rfl rfl (y_load_box 2 Tryz.isAgg3 rfl rfl rfl) ?_
  refine sy rfl rfl (y_move rfl) ?_
  refine sy rfl rfl (y_nilBox rfl) ?_
  refine sy rfl rfl (y_fieldAddr_box (sz := 0) Tryz.runUnderlying63 rfl Tryz.sizeOf9 rfl) ?_
  refine sy rfl rfl (y_load_box 2 Tryz.isAgg9 rfl rfl rfl) ?_
  refine sy rfl rfl (y_len_str rfl Tryz.runUnderlying9 rfl) ?_
  refine sy rfl rfl (y_lss rfl rfl) ?_
  refine still_nil ?_
  refine goes_code ?_
  refine run_cond (decide (r2.2.at_ < (r2.2.s_.length : Int))) rfl (fun hc9 => ?_) (fun hc9 => ?_)
  ·replace h := cond_t h hc9
   refine run_weak [(0, boxP r_0b 0), (2, boxP b1 0), (3, .string (bs r2.1))] [1, 2] [box b1 [.int .i64 0, .int .i64 0, .string (bs [])], box r_0b [.string (bs r2.2.s_), .int .i64 r2.2.at_]] (qv3 rfl rfl rfl) (by decide) rfl ?_
   refine run_draw (by kernel_rfl) (by kernel_rfl) ?_
   refine sy rfl rfl (y_move rfl) ?_
   refine sy rfl rfl (y_nilBox rfl) ?_
   refine sy rfl rfl (y_fieldAddr_box (sz := 0) Tryz.runUnderlying63 rfl Tryz.sizeOf9 rfl) ?_
   refine sy rfl rfl (y_load_box 1 Tryz.isAgg9 rfl rfl rfl) ?_
   refine sy rfl rfl (y_move rfl) ?_
   refine sy rfl rfl (y_nilBox rfl) ?_
   refine sy rfl rfl (y_fieldAddr_box (sz := 0) Tryz.runUnderlying63 rfl Tryz.sizeOf3 rfl) ?_
   refine sy rfl rfl (y_load_box 1 Tryz.isAgg3 rfl rfl rfl) ?_
   obtain ⟨c10, hzc10, hlc10, hxc10, h⟩ := idx_some h
   refine sy rfl rfl (y_index_strI (kd := .i64) (i := r2.2.at_) Tryz.runUnderlying9 rfl rfl hzc10 hxc10) ?_
   refine sy rfl rfl (y_assign rfl) ?_
   refine still_nil ?_
   obtain rfl := some_eq h
   exact goes_cut hL7 ((c10.toNat : Int), ()) [0, 1] (qv3 rfl rfl rfl) (by decide) rfl rfl
  ·replace h := cond_f h hc9
   refine run_skip ?_
   obtain rfl := some_eq h
   exact goes_cut hL7 (32, ()) [1, 2] (qv3 rfl rfl rfl) (by decide) rfl rfl
 rintro ⟨next_4, _⟩ hj
 obtain rfl : o5 = _ := hj
 replace h := after_go ho6
 clear ho6
 change Run _ _ _ (VF.of [(4, .int .u8 next_4), (2, boxP b1 0), (3, .string (bs r2.1))]) [box b1 [.int .i64 0, .int .i64 0, .string (bs [])], box r_0b [.string (bs r2.2.s_), .int .i64 r2.2.at_]]
 refine run_seq ?_
 refine run_region' ?_
 refine oy rfl rfl (y_move rfl) ?_
 refine oy rfl rfl (y_len_str rfl Tryz.runUnderlying9 rfl) ?_
 refine oy rfl rfl (y_gtr rfl rfl) ?_
 refine oy rfl rfl (y_move rfl) ?_
 obtain ⟨o12, h, ho13⟩ := bindJ_some h
 refine ops_cut 9 (Bool) (fun σ => [(4, .int .u8 next_4), (2, boxP b1 0), (3, .string (bs r2.1)), (38, .bool σ)]) (fun σ => [box b1 [.int .i64 0, .int .i64 0, .string (bs [])], box r_0b [.string (bs r2.2.s_), .int .i64 r2.2.at_]]) (fun σ => o12 = .go σ) (fun L14 hL15 => ?_) ?_
 ·refine ops_split 29 (decide (18 < (r2.1.length : Int))) rfl (fun hg16 => ?_) (fun hg16 => ?_)
  ·replace h := cond_t h hg16
   refine ops_no 3 false 29 rfl rfl rfl rfl rfl ?_
   refine ops_no 3 false 29 rfl rfl rfl rfl rfl ?_
   refine ops_no 3 false 29 rfl rfl rfl rfl rfl ?_
   refine ops_no 3 false 29 rfl rfl rfl rfl rfl ?_
   refine ops_un 7 true 33 rfl rfl rfl rfl rfl ?_
   refine ops_un 7 true 33 rfl rfl rfl rfl rfl ?_
   refine ops_un 7 true 33 rfl rfl rfl rfl rfl ?_
   refine ops_no 3 false 29 rfl rfl rfl rfl rfl ?_
   refine oy rfl rfl (y_pick (b := true) rfl rfl) ?_
   refine ops_nil ?_
   obtain rfl := some_eq h
   exact goes_cut hL15 true [0, 1] (qv4 rfl rfl rfl rfl) (by decide) rfl rfl
  ·replace h := cond_f h hg16
   refine ops_y (wg 3 false 29 rfl rfl rfl rfl) rfl (y_move rfl) ?_
   obtain ⟨c17, hzc17, hlc17, hxc17, h⟩ := idx_some h
   refine ops_y (wg 3 false 29 rfl rfl rfl rfl) rfl (y_index_strI (kd := .i64) (i := 0) Tryz.runUnderlying9 rfl rfl hzc17 hxc17) ?_
   refine ops_y (wg 3 false 29 rfl rfl rfl rfl) rfl (y_eql rfl rfl) ?_
   refine ops_y (wg 3 false 29 rfl rfl rfl rfl) rfl (y_move rfl) ?_
   refine ops_cut 4 (Bool) (fun σ => [(4, .int .u8 next_4), (2, boxP b1 0), (3, .string (bs r2.1)), (29, .bool false), (37, .bool σ)]) (fun σ => [box b1 [.int .i64 0, .int .i64 0, .string (bs [])], box r_0b [.string (bs r2.2.s_), .int .i64 r2.2.at_]]) (fun σ => σ = (decide ((c17.toNat : Int) = 48) && decide (1 < (r2.1.length : Int)))) (fun L18 hL19 => ?_) ?_
   ·refine ops_split 33 (decide ((c17.toNat : Int) = 48)) rfl (fun hg20 => ?_) (fun hg20 => ?_)
    ·skip
     refine ops_y (wg 7 true 33 rfl rfl rfl rfl) rfl (y_move rfl) ?_
     refine ops_y (wg 7 true 33 rfl rfl rfl rfl) rfl (y_len_str rfl Tryz.runUnderlying9 rfl) ?_
     refine ops_y (wg 7 true 33 rfl rfl rfl rfl) rfl (y_gtr rfl rfl) ?_
     refine ops_y (wg 3 false 29 rfl rfl rfl rfl) rfl (y_pick (b := true) rfl rfl) ?_
     refine ops_nil ?_
     exact goes_cut hL19 (decide (1 < (r2.1.length : Int))) [0, 1] (qv5 rfl rfl rfl rfl rfl) (by decide) rfl (by rw [hg20]; simp)
    ·skip
     refine ops_no 7 true 33 rfl rfl rfl rfl rfl ?_
     refine ops_no 7 true 33 rfl rfl rfl rfl rfl ?_
     refine ops_no 7 true 33 rfl rfl rfl rfl rfl ?_
     refine ops_y (wg 3 false 29 rfl rfl rfl rfl) rfl (y_pick (b := false) rfl rfl) ?_
     refine ops_nil ?_
     exact goes_cut hL19 false [0, 1] (qv5 rfl rfl rfl rfl rfl) (by decide) rfl (by rw [hg20]; simp)
   rintro _ rfl
   refine oy rfl rfl (y_pick (b := false) rfl rfl) ?_
   refine ops_nil ?_
   obtain rfl := some_eq h
   exact goes_cut hL15 (decide ((c17.toNat : Int) = 48) && decide (1 < (r2.1.length : Int))) [0, 1] (qv4 rfl rfl rfl rfl) (by decide) rfl rfl
 rintro b11 hj
 obtain rfl : o12 = _ := hj
 replace h := after_go ho13
 clear ho13
 refine oy rfl rfl (y_move rfl) ?_
 obtain ⟨o22, h, ho23⟩ := bindJ_some h
 refine ops_cut 3 (Bool) (fun σ => [(4, .int .u8 next_4), (2, boxP b1 0), (3, .string (bs r2.1)), (42, .bool σ)]) (fun σ => [box b1 [.int .i64 0, .int .i64 0, .string (bs [])], box r_0b [.string (bs r2.2.s_), .int .i64 r2.2.at_]]) (fun σ => o22 = .go σ) (fun L24 hL25 => ?_) ?_
 ·refine ops_split 39 b11 rfl (fun hg26 => ?_) (fun hg26 => ?_)
  ·replace h := cond_t h hg26
   refine ops_no 13 false 39 rfl rfl rfl rfl rfl ?_
   refine ops_no 13 false 39 rfl rfl rfl rfl rfl ?_
   refine oy rfl rfl (y_pick (b := true) rfl rfl) ?_
   refine ops_nil ?_
   obtain rfl := some_eq h
   exact goes_cut hL25 true [0, 1] (qv4 rfl rfl rfl rfl) (by decide) rfl rfl
  ·replace h := cond_f h hg26
   refine ops_y (wg 13 false 39 rfl rfl rfl rfl) rfl (y_move rfl) ?_
   obtain ⟨r27, hr28, h⟩ := obind_some h
   refine ops_t (wg 13 false 39 rfl rfl rfl rfl) rfl (t_callx (vs := [.int .u8 next_4]) (cs := []) [] rfl Tryz.call72 rfl (lexer_isRest_ok  next_4  hr28) showsX_nil rfl (.inl rfl)) ?_
   rintro _ _ ⟨_, ⟨rfl, rfl⟩, rfl⟩
   refine oy rfl rfl (y_pick (b := false) rfl rfl) ?_
   refine ops_nil ?_
   obtain rfl := some_eq h
   exact goes_cut hL25 r27 [0, 1] (qv4 rfl rfl rfl rfl) (by decide) rfl rfl
 rintro b21 hj
 obtain rfl : o22 = _ := hj
 replace h := after_go ho23
 clear ho23
 refine oy rfl rfl (y_move rfl) ?_
 refine ops_cut 7 (Bool) (fun σ => [(2, boxP b1 0), (3, .string (bs r2.1)), (50, .bool σ)]) (fun σ => [box b1 [.int .i64 0, .int .i64 0, .string (bs [])], box r_0b [.string (bs r2.2.s_), .int .i64 r2.2.at_]]) (fun σ => σ = (b21 || (decide (65 ≤ next_4) && decide (next_4 ≤ 90)))) (fun L29 hL30 => ?_) ?_
 ·refine ops_split 43 b21 rfl (fun hg31 => ?_) (fun hg31 => ?_)
  ·skip
   refine ops_no 17 false 43 rfl rfl rfl rfl rfl ?_
   refine ops_no 17 false 43 rfl rfl rfl rfl rfl ?_
   refine ops_no 17 false 43 rfl rfl rfl rfl rfl ?_
   refine ops_un 20 true 46 rfl rfl rfl rfl rfl ?_
   refine ops_un 20 true 46 rfl rfl rfl rfl rfl ?_
   refine ops_no 17 false 43 rfl rfl rfl rfl rfl ?_
   refine oy rfl rfl (y_pick (b := true) rfl rfl) ?_
   refine ops_nil ?_
   exact goes_cut hL30 true [0, 1] (qv3 rfl rfl rfl) (by decide) rfl (by rw [hg31]; simp)
  ·skip
   refine ops_y (wg 17 false 43 rfl rfl rfl rfl) rfl (y_move rfl) ?_
   refine ops_y (wg 17 false 43 rfl rfl rfl rfl) rfl (y_geq rfl rfl) ?_
   refine ops_y (wg 17 false 43 rfl rfl rfl rfl) rfl (y_move rfl) ?_
   refine ops_cut 3 (Bool) (fun σ => [(2, boxP b1 0), (3, .string (bs r2.1)), (43, .bool false), (49, .bool σ)]) (fun σ => [box b1 [.int .i64 0, .int .i64 0, .string (bs [])], box r_0b [.string (bs r2.2.s_), .int .i64 r2.2.at_]]) (fun σ => σ = (decide (65 ≤ next_4) && decide (next_4 ≤ 90))) (fun L32 hL33 => ?_) ?_
   ·refine ops_split 46 (decide (65 ≤ next_4)) rfl (fun hg34 => ?_) (fun hg34 => ?_)
    ·skip
     refine ops_y (wg 20 true 46 rfl rfl rfl rfl) rfl (y_move rfl) ?_
     refine ops_y (wg 20 true 46 rfl rfl rfl rfl) rfl (y_leq rfl rfl) ?_
     refine ops_y (wg 17 false 43 rfl rfl rfl rfl) rfl (y_pick (b := true) rfl rfl) ?_
     refine ops_nil ?_
     exact goes_cut hL33 (decide (next_4 ≤ 90)) [0, 1] (qv4 rfl rfl rfl rfl) (by decide) rfl (by rw [hg34]; simp)
    ·skip
     refine ops_no 20 true 46 rfl rfl rfl rfl rfl ?_
     refine ops_no 20 true 46 rfl rfl rfl rfl rfl ?_
     refine ops_y (wg 17 false 43 rfl rfl rfl rfl) rfl (y_pick (b := false) rfl rfl) ?_
     refine ops_nil ?_
     exact goes_cut hL33 false [0, 1] (qv4 rfl rfl rfl rfl) (by decide) rfl (by rw [hg34]; simp)
   rintro _ rfl
   refine oy rfl rfl (y_pick (b := false) rfl rfl) ?_
   refine ops_nil ?_
   exact goes_cut hL30 (decide (65 ≤ next_4) && decide (next_4 ≤ 90)) [0, 1] (qv3 rfl rfl rfl) (by decide) rfl (by rw [hg31]; simp)
 rintro _ rfl
 obtain ⟨r35, hr36, h⟩ := obind_some h
 rcases r35 with q37 | e38
 rotate_left
 ·replace h := pbind_pan h
  refine ops_tp (wn rfl) rfl (t_callp (vs := [.bool (b21 || (decide (65 ≤ next_4) && decide (next_4 ≤ 90))), .int .i64 181]) (cs := []) [] rfl Tryz.call73 rfl (lexer_fail_ok  (b21 || (decide (65 ≤ next_4) && decide (next_4 ≤ 90))) 181  hr36) showsX_nil rfl (.inl rfl)) (by rintro _ _ ⟨_, ⟨_, hq, _⟩, _⟩; cases hq) ?_
  rintro _ ⟨_, he, rfl⟩
  obtain rfl := Pn.pan.inj he
  obtain rfl := some_eq h
  exact finP ⟨_, rfl, rfl⟩
 replace h := pbind_ret h
 refine ot rfl rfl (t_callx (vs := [.bool (b21 || (decide (65 ≤ next_4) && decide (next_4 ≤ 90))), .int .i64 181]) (cs := []) [] rfl Tryz.call73 rfl (mp_ret (lexer_fail_ok  (b21 || (decide (65 ≤ next_4) && decide (next_4 ≤ 90))) 181  hr36)) showsX_nil rfl (.inl rfl)) ?_
 rintro _ _ ⟨_, ⟨rfl, rfl⟩, rfl⟩
 refine ops_nil ?_
 refine goes_code ?_
 refine run_seq ?_
 refine run_region' ?_
 refine oy rfl rfl (y_move rfl) ?_
 refine oy rfl rfl (y_build_struct (cells := #[.int .i64 3, .int .i64 0, .string (bs r2.1)]) [(0, .int .i64 3), (2, .string (bs r2.1))] [(0, [.int .i64 3]), (2, [.string (bs r2.1)])] Tryz.zeroValue44 Tryz.runUnderlying44 (fs_cons Tryz.sizeOf3 (fs_cons Tryz.sizeOf3 (fs_cons Tryz.sizeOf9 fs_nil))) rfl rfl rfl) ?_
 refine ot rfl rfl (t_store 0 Tryz.sizeOf44 rfl rfl rfl rfl (by simp [Value.cells, boxP]) (by simp [Value.cells, Value.oneCell', boxP])) ?_
 rintro _ _ ⟨rfl, rfl⟩
 refine ops_turn (retell 0 (g := box b1 [.int .i64 3, .int .i64 0, .string (bs r2.1)]) rfl rfl) ?_
 refine ops_nil ?_
 refine goes_code ?_
 refine run_ret ?_
 obtain rfl := some_eq h
 refine fin_res [.cell 2 44] [.agg #[.int .i64 3, .int .i64 0, .string (bs r2.1)]] [1] [box r_0b [.string (bs r2.2.s_), .int .i64 r2.2.at_]] Tryz.results44 rfl (rescons (res_box 0 Tryz.isAgg44 Tryz.sizeOf44 rfl rfl rfl) resnil) (by decide) rfl ?_
 exact ⟨_, rfl, rfl, rfl⟩

def lexer_forms_1_45 (b_0 : Int) : Option (Bool) :=
 some (decide (b_0 = 34))
theorem lexer_forms_1_45_ok (b_0 : Int)  {r : Bool} (h : lexer_forms_1_45 b_0 = some r) :
  Meets Tryz.prog 45 [.int .u8 b_0] [] (fun v G => v = .bool r ∧ G = []) := by
 refine fn_of_run Tryz.func45 rfl Tryz.ntmps45 rfl (fun w0 o0 => ?_)
 refine run_seq ?_
 refine run_region' ?_
 refine oy rfl rfl (y_assign rfl) ?_
 refine ops_nil ?_
 refine goes_code ?_
 refine run_seq ?_
 refine run_region' ?_
 refine oy rfl rfl (y_move rfl) ?_
 refine oy rfl rfl (y_eql rfl rfl) ?_
 refine oy rfl rfl (y_assign rfl) ?_
 refine ops_nil ?_
 refine goes_code ?_
 refine run_ret ?_
 obtain rfl := some_eq h
 refine fin_slots [2] [.bool (decide (b_0 = 34))] [] [] Tryz.results45 rfl (by decide) rfl ?_
 exact ⟨rfl, rfl⟩

def weirgate_lexer_reader_text_46_L1 (r_0 : S_lexer_reader) : ((List UInt8) × Int) → Option (Lp ((List UInt8) × Int) (Lp ((List UInt8) × Int) (Pn (S_api_Lexeme × S_lexer_reader)))) :=
 fun (out_9, x_10) =>
  bindJ (S := Bool)
   (cond (decide (x_10 < (r_0.s_.length : Int)))
    (idx r_0.s_ x_10 fun c22 =>
    some (.go (decide ((c22.toNat : Int) ≠ 34))))
    (some (.go false)))
  (fun b16 =>
   cond b16
    (idx r_0.s_ x_10 fun c24 =>
    bindJ (S := Int × Int)
     (cond (decide ((c24.toNat : Int) = 92))
      (bindJ (S := Bool)
       (cond (decide ((IntKind.i64.wrap (x_10 + 1)) < (r_0.s_.length : Int)))
        (idx r_0.s_ (IntKind.i64.wrap (x_10 + 1)) fun c38 =>
        obind (idxH [34, 92] (c38.toNat : Int)) fun r39 =>
        some (.go (decide (0 ≤ r39))))
        (some (.go false)))
      (fun b32 =>
       cond b32
        (idx r_0.s_ (IntKind.i64.wrap (x_10 + 1)) fun c42 =>
        some (.go ((c42.toNat : Int), (IntKind.i64.wrap (x_10 + 1)))))
        (some (.go (0, (IntKind.i64.wrap (x_10 + 1)))))))
      (some (.go ((c24.toNat : Int), x_10))))
    (fun (b_25, x_26) =>
     obind (lexer_fail (decide (b_25 < 32) || decide (126 < b_25)) 182) fun r46 =>
     pbind r46 (fun e49 =>
      some (.stop (.stop (.pan e49)))) fun q48 =>
     need (0 ≤ b_25 ∧ b_25 ≤ 255) (
     need (out_9.length + ([(b_25).toNat.toUInt8] : List UInt8).length ≤ 4294967296) (
     some (.go ((out_9 ++ ([(b_25).toNat.toUInt8] : List UInt8)), (IntKind.i64.wrap (x_26 + 1))))))))
    (some (.stop (.go (out_9, x_10)))))
def weirgate_lexer_reader_text_46 (n : Nat) (r_0 : S_lexer_reader) : Option (Pn (S_api_Lexeme × S_lexer_reader)) :=
 bindJ (S := (List UInt8) × Int)
  (iter (weirgate_lexer_reader_text_46_L1 r_0) n (([] : List UInt8), (IntKind.i64.wrap (r_0.at_ + 1))))
 (fun (out_2, x_3) =>
  obind (lexer_fail (decide ((r_0.s_.length : Int) ≤ x_3) || decide (200 < (out_2.length : Int))) 182) fun r57 =>
  pbind r57 (fun e60 =>
   some (.pan e60)) fun q59 =>
  some (.ret ((S_api_Lexeme.mk 4 0 out_2), (S_lexer_reader.mk r_0.s_ (IntKind.i64.wrap (x_3 + 1))))))
theorem weirgate_lexer_reader_text_46_ok (n : Nat) (r_0 : S_lexer_reader) (r_0b : Nat) {r : Pn (S_api_Lexeme × S_lexer_reader)} (h : weirgate_lexer_reader_text_46 n r_0 = some r) :
  MeetsP Tryz.prog 46 [boxP r_0b 0] [box r_0b [.string (bs r_0.s_), .int .i64 r_0.at_]] (fun v G => ∃ q, r = .ret q ∧ (v = .agg #[.int .i64 q.1.Kind, .int .i64 q.1.At, .string (bs q.1.S)] ∧ G = [box r_0b [.string (bs q.2.s_), .int .i64 q.2.at_]])) (fun v => ∃ e, r = .pan e ∧ v = .iface 24 (.int .i64 e)) := by
 refine fnp_of_run Tryz.func46 rfl Tryz.ntmps46 rfl (fun w0 o0 => ?_)
 refine run_seq ?_
 refine run_region' ?_
 refine ot rfl rfl (t_alloc Tryz.zeroValue44) ?_
 rintro _ _ ⟨b1, rfl, rfl⟩
 refine ops_nil ?_
 refine goes_code ?_
 refine run_seq ?_
 refine run_region' ?_
 refine oy rfl rfl (y_assign rfl) ?_
 refine ops_nil ?_
 refine goes_code ?_
 refine run_seq ?_
 refine run_region' ?_
 refine oy rfl rfl (y_move rfl) ?_
 refine oy rfl rfl (y_nilBox rfl) ?_
 refine oy rfl rfl (y_fieldAddr_box (sz := 0) Tryz.runUnderlying63 rfl Tryz.sizeOf3 rfl) ?_
 refine oy rfl rfl (y_load_box 0 Tryz.isAgg3 rfl rfl rfl) ?_
 refine oy rfl rfl (y_add rfl rfl) ?_
 refine oy rfl rfl (y_nilBox rfl) ?_
 refine oy rfl rfl (y_fieldAddr_box (sz := 0) Tryz.runUnderlying63 rfl Tryz.sizeOf3 rfl) ?_
 refine ot rfl rfl (t_store 0 Tryz.sizeOf3 rfl rfl rfl rfl (by simp [Value.cells, boxP]) (by simp [Value.cells, Value.oneCell', boxP])) ?_
 rintro _ _ ⟨rfl, rfl⟩
 refine ops_turn (retell 0 (g := box r_0b [.string (bs r_0.s_), .int .i64 (IntKind.i64.wrap (r_0.at_ + 1))]) rfl rfl) ?_
 refine ops_nil ?_
 refine goes_code ?_
 obtain ⟨o5, h, ho6⟩ := bindJ_some h
 refine run_cut (((List UInt8) × Int) × (Value)) (fun σ => [(3, σ.2), (0, boxP r_0b 0), (2, boxP b1 0)]) (fun σ => [row σ.2 1 (σ.1.1.map eB8), box r_0b [.string (bs r_0.s_), .int .i64 σ.1.2], box b1 [.int .i64 0, .int .i64 0, .string (bs [])]]) (fun σ => o5 = .go σ.1) (fun L8 hL7 => ?_) ?_
 ·
  refine run_block ?_
  refine run_turn (nilrow 1) ?_
  refine run_turn (retell 2 (g := row (.slice none 0 0) 1 (([] : List UInt8).map eB8)) rfl rfl) ?_
  refine run_iter (step := weirgate_lexer_reader_text_46_L1 r_0) (n := n) (s0 := (([] : List UInt8), (IntKind.i64.wrap (r_0.at_ + 1)))) h (G := Value) (.slice none 0 0) (fun σ γ => [(3, γ), (0, boxP r_0b 0), (2, boxP b1 0)]) (fun σ γ => [row γ 1 (σ.1.map eB8), box r_0b [.string (bs r_0.s_), .int .i64 σ.2], box b1 [.int .i64 0, .int .i64 0, .string (bs [])]]) [2, 0, 1] (qv3 rfl rfl rfl) (by decide) rfl ?_
  rintro ⟨out_9, x_10⟩ v11 o12 h L15 hgo13 hstop14
  change Run _ _ _ (VF.of [(3, v11), (0, boxP r_0b 0), (2, boxP b1 0)]) [row v11 1 (out_9.map eB8), box r_0b [.string (bs r_0.s_), .int .i64 x_10], box b1 [.int .i64 0, .int .i64 0, .string (bs [])]]
  refine run_seq ?_
  refine run_seq ?_
  refine run_draw (by kernel_rfl) (by kernel_rfl) ?_
  refine sy rfl rfl (y_move rfl) ?_
  refine sy rfl rfl (y_nilBox rfl) ?_
  refine sy rfl rfl (y_fieldAddr_box (sz := 0) Tryz.runUnderlying63 rfl Tryz.sizeOf3 rfl) ?_
  refine sy rfl rfl (y_load_box 1 Tryz.isAgg3 rfl rfl rfl) ?_
  refine sy rfl rfl (y_move rfl) ?_
  refine sy rfl rfl (y_nilBox rfl) ?_
  refine sy rfl rfl (y_fieldAddr_box (sz := 0) Tryz.runUnderlying63 rfl Tryz.sizeOf9 rfl) ?_
  refine sy rfl rfl (y_load_box 1 Tryz.isAgg9 rfl rfl rfl) ?_
  refine sy rfl rfl (y_len_str rfl Tryz.runUnderlying9 rfl) ?_
  refine sy rfl rfl (y_lss rfl rfl) ?_
  refine sy rfl rfl (y_move rfl) ?_
  obtain ⟨o17, h, ho18⟩ := bindJ_some h
  refine still_cut 11 (Bool) (fun σ => [(3, v11), (0, boxP r_0b 0), (2, boxP b1 0), (33, .bool σ)]) (fun σ => [row v11 1 (out_9.map eB8), box r_0b [.string (bs r_0.s_), .int .i64 x_10], box b1 [.int .i64 0, .int .i64 0, .string (bs [])]]) (fun σ => o17 = .go σ) (fun L19 hL20 => ?_) ?_
  ·refine still_split 22 (decide (x_10 < (r_0.s_.length : Int))) rfl (fun hg21 => ?_) (fun hg21 => ?_)
   ·replace h := cond_t h hg21
    refine still_y (wg 10 true 22 rfl rfl rfl rfl) rfl (y_move rfl) ?_
    refine still_y (wg 10 true 22 rfl rfl rfl rfl) rfl (y_nilBox rfl) ?_
    refine still_y (wg 10 true 22 rfl rfl rfl rfl) rfl (y_fieldAddr_box (sz := 0) Tryz.runUnderlying63 rfl Tryz.sizeOf9 rfl) ?_
    refine still_y (wg 10 true 22 rfl rfl rfl rfl) rfl (y_load_box 1 Tryz.isAgg9 rfl rfl rfl) ?_
    refine still_y (wg 10 true 22 rfl rfl rfl rfl) rfl (y_move rfl) ?_
    refine still_y (wg 10 true 22 rfl rfl rfl rfl) rfl (y_nilBox rfl) ?_
    refine still_y (wg 10 true 22 rfl rfl rfl rfl) rfl (y_fieldAddr_box (sz := 0) Tryz.runUnderlying63 rfl Tryz.sizeOf3 rfl) ?_
    refine still_y (wg 10 true 22 rfl rfl rfl rfl) rfl (y_load_box 1 Tryz.isAgg3 rfl rfl rfl) ?_
    obtain ⟨c22, hzc22, hlc22, hxc22, h⟩ := idx_some h
    refine still_y (wg 10 true 22 rfl rfl rfl rfl) rfl (y_index_strI (kd := .i64) (i := x_10) Tryz.runUnderlying9 rfl rfl hzc22 hxc22) ?_
    refine still_y (wg 10 true 22 rfl rfl rfl rfl) rfl (y_neq rfl rfl) ?_
    refine sy rfl rfl (y_pick (b := true) rfl rfl) ?_
    refine still_nil ?_
    obtain rfl := some_eq h
    exact goes_cut hL20 (decide ((c22.toNat : Int) ≠ 34)) [0, 1, 2] (qv4 rfl rfl rfl rfl) (by decide) rfl rfl
   ·replace h := cond_f h hg21
    refine still_no 10 true 22 rfl rfl rfl rfl rfl ?_
    refine still_no 10 true 22 rfl rfl rfl rfl rfl ?_
    refine still_no 10 true 22 rfl rfl rfl rfl rfl ?_
    refine still_no 10 true 22 rfl rfl rfl rfl rfl ?_
    refine still_no 10 true 22 rfl rfl rfl rfl rfl ?_
    refine still_no 10 true 22 rfl rfl rfl rfl rfl ?_
    refine still_no 10 true 22 rfl rfl rfl rfl rfl ?_
    refine still_no 10 true 22 rfl rfl rfl rfl rfl ?_
    refine still_no 10 true 22 rfl rfl rfl rfl rfl ?_
    refine still_no 10 true 22 rfl rfl rfl rfl rfl ?_
    refine sy rfl rfl (y_pick (b := false) rfl rfl) ?_
    refine still_nil ?_
    obtain rfl := some_eq h
    exact goes_cut hL20 false [0, 1, 2] (qv4 rfl rfl rfl rfl) (by decide) rfl rfl
  rintro b16 hj
  obtain rfl : o17 = _ := hj
  replace h := after_go ho18
  clear ho18
  refine still_nil ?_
  refine goes_code ?_
  refine run_cond b16 rfl (fun hc23 => ?_) (fun hc23 => ?_)
  ·replace h := cond_t h hc23
   refine run_skip ?_
   refine goes_code ?_
   refine run_block ?_
   refine run_seq ?_
   refine run_draw (by kernel_rfl) (by kernel_rfl) ?_
   refine sy rfl rfl (y_move rfl) ?_
   refine sy rfl rfl (y_nilBox rfl) ?_
   refine sy rfl rfl (y_fieldAddr_box (sz := 0) Tryz.runUnderlying63 rfl Tryz.sizeOf9 rfl) ?_
   refine sy rfl rfl (y_load_box 1 Tryz.isAgg9 rfl rfl rfl) ?_
   refine sy rfl rfl (y_move rfl) ?_
   refine sy rfl rfl (y_nilBox rfl) ?_
   refine sy rfl rfl (y_fieldAddr_box (sz := 0) Tryz.runUnderlying63 rfl Tryz.sizeOf3 rfl) ?_
   refine sy rfl rfl (y_load_box 1 Tryz.isAgg3 rfl rfl rfl) ?_
   obtain ⟨c24, hzc24, hlc24, hxc24, h⟩ := idx_some h
   refine sy rfl rfl (y_index_strI (kd := .i64) (i := x_10) Tryz.runUnderlying9 rfl rfl hzc24 hxc24) ?_
   refine sy rfl rfl (y_assign rfl) ?_
   refine still_nil ?_
   refine goes_code ?_
   obtain ⟨o27, h, ho28⟩ := bindJ_some h
   refine run_cut ((Int × Int) × (Unit)) (fun σ => [(4, .int .u8 σ.1.1), (0, boxP r_0b 0), (2, boxP b1 0), (3, v11)]) (fun σ => [box r_0b [.string (bs r_0.s_), .int .i64 σ.1.2], box b1 [.int .i64 0, .int .i64 0, .string (bs [])], row v11 1 (out_9.map eB8)]) (fun σ => o27 = .go σ.1) (fun L30 hL29 => ?_) ?_
   ·
    refine run_seq ?_
    refine run_weak [(3, v11), (0, boxP r_0b 0), (2, boxP b1 0), (4, .int .u8 (c24.toNat : Int))] [0, 1, 2] [row v11 1 (out_9.map eB8), box r_0b [.string (bs r_0.s_), .int .i64 x_10], box b1 [.int .i64 0, .int .i64 0, .string (bs [])]] (qv4 rfl rfl rfl rfl) (by decide) rfl ?_
    refine run_region' ?_
    refine oy rfl rfl (y_move rfl) ?_
    refine oy rfl rfl (y_eql rfl rfl) ?_
    refine ops_nil ?_
    refine goes_code ?_
    refine run_cond (decide ((c24.toNat : Int) = 92)) rfl (fun hc31 => ?_) (fun hc31 => ?_)
    ·replace h := cond_t h hc31
     refine run_seq ?_
     refine run_region' ?_
     refine oy rfl rfl (y_move rfl) ?_
     refine oy rfl rfl (y_nilBox rfl) ?_
     refine oy rfl rfl (y_fieldAddr_box (sz := 0) Tryz.runUnderlying63 rfl Tryz.sizeOf3 rfl) ?_
     refine oy rfl rfl (y_load_box 1 Tryz.isAgg3 rfl rfl rfl) ?_
     refine oy rfl rfl (y_add rfl rfl) ?_
     refine oy rfl rfl (y_nilBox rfl) ?_
     refine oy rfl rfl (y_fieldAddr_box (sz := 0) Tryz.runUnderlying63 rfl Tryz.sizeOf3 rfl) ?_
     refine ot rfl rfl (t_store 1 Tryz.sizeOf3 rfl rfl rfl rfl (by simp [Value.cells, boxP]) (by simp [Value.cells, Value.oneCell', boxP])) ?_
     rintro _ _ ⟨rfl, rfl⟩
     refine ops_turn (retell 1 (g := box r_0b [.string (bs r_0.s_), .int .i64 (IntKind.i64.wrap (x_10 + 1))]) rfl rfl) ?_
     refine ops_nil ?_
     refine goes_code ?_
     refine run_seq ?_
     refine run_weak [(3, v11), (0, boxP r_0b 0), (2, boxP b1 0)] [0, 1, 2] [row v11 1 (out_9.map eB8), box r_0b [.string (bs r_0.s_), .int .i64 (IntKind.i64.wrap (x_10 + 1))], box b1 [.int .i64 0, .int .i64 0, .string (bs [])]] (qv3 rfl rfl rfl) (by decide) rfl ?_
     refine run_region' ?_
     refine oy rfl rfl (y_assign rfl) ?_
     refine ops_nil ?_
     refine goes_code ?_
     refine run_seq ?_
     refine run_drawany [row v11 1 (out_9.map eB8), box r_0b [.string (bs r_0.s_), .int .i64 (IntKind.i64.wrap (x_10 + 1))], box b1 [.int .i64 0, .int .i64 0, .string (bs [])]] (by kernel_rfl) ?_
     refine any_y 0 rfl (by kernel_rfl) (by kernel_rfl) (by kernel_rfl) (ss (ss (ss (sn)))) (wn rfl) rfl (y_move rfl) ?_
     refine any_y 1 rfl (by kernel_rfl) (by kernel_rfl) (by kernel_rfl) (ss (ss (ss (sn)))) (wn rfl) rfl (y_nilBox rfl) ?_
     refine any_y 2 rfl (by kernel_rfl) (by kernel_rfl) (by kernel_rfl) (ss (ss (ss (sn)))) (wn rfl) rfl (y_fieldAddr_box (sz := 0) Tryz.runUnderlying63 rfl Tryz.sizeOf3 rfl) ?_
     refine any_y 3 rfl (by kernel_rfl) (by kernel_rfl) (by kernel_rfl) (ss (ss (ss (sn)))) (wn rfl) rfl (y_load_box 1 Tryz.isAgg3 rfl rfl rfl) ?_
     refine any_y 4 rfl (by kernel_rfl) (by kernel_rfl) (by kernel_rfl) (ss (ss (ss (sn)))) (wn rfl) rfl (y_move rfl) ?_
     refine any_y 5 rfl (by kernel_rfl) (by kernel_rfl) (by kernel_rfl) (ss (ss (ss (sn)))) (wn rfl) rfl (y_nilBox rfl) ?_
     refine any_y 6 rfl (by kernel_rfl) (by kernel_rfl) (by kernel_rfl) (ss (ss (ss (sn)))) (wn rfl) rfl (y_fieldAddr_box (sz := 0) Tryz.runUnderlying63 rfl Tryz.sizeOf9 rfl) ?_
     refine any_y 7 rfl (by kernel_rfl) (by kernel_rfl) (by kernel_rfl) (ss (ss (ss (sn)))) (wn rfl) rfl (y_load_box 1 Tryz.isAgg9 rfl rfl rfl) ?_
     refine any_y 8 rfl (by kernel_rfl) (by kernel_rfl) (by kernel_rfl) (ss (ss (ss (sn)))) (wn rfl) rfl (y_len_str rfl Tryz.runUnderlying9 rfl) ?_
     refine any_y 9 rfl (by kernel_rfl) (by kernel_rfl) (by kernel_rfl) (ss (ss (ss (sn)))) (wn rfl) rfl (y_lss rfl rfl) ?_
     refine any_y 10 rfl (by kernel_rfl) (by kernel_rfl) (by kernel_rfl) (ss (ss (ss (sn)))) (wn rfl) rfl (y_move rfl) ?_
     obtain ⟨o33, h, ho34⟩ := bindJ_some h
     refine any_cut #[true, true, true, true, true, true, true, true, true, true, true, true, true, true, true, true, true, true, true, true, true, true, true] 0 Bool (fun σ => [(3, v11), (0, boxP r_0b 0), (2, boxP b1 0), (4, .int .u8 0), (74, .bool σ)]) (fun σ => [row v11 1 (out_9.map eB8), box r_0b [.string (bs r_0.s_), .int .i64 (IntKind.i64.wrap (x_10 + 1))], box b1 [.int .i64 0, .int .i64 0, .string (bs [])]]) (fun σ => o33 = .go σ) (fun hL36 => ?_) ?_
     ·refine any_split 62 (decide ((IntKind.i64.wrap (x_10 + 1)) < (r_0.s_.length : Int))) rfl (fun hg37 => ?_) (fun hg37 => ?_)
      ·replace h := cond_t h hg37
       refine any_y 11 rfl (by kernel_rfl) (by kernel_rfl) (by kernel_rfl) (ss (ss (ss (sn)))) (wg 10 true 62 rfl rfl rfl rfl) rfl (y_move rfl) ?_
       refine any_y 12 rfl (by kernel_rfl) (by kernel_rfl) (by kernel_rfl) (ss (ss (ss (sn)))) (wg 10 true 62 rfl rfl rfl rfl) rfl (y_nilBox rfl) ?_
       refine any_y 13 rfl (by kernel_rfl) (by kernel_rfl) (by kernel_rfl) (ss (ss (ss (sn)))) (wg 10 true 62 rfl rfl rfl rfl) rfl (y_fieldAddr_box (sz := 0) Tryz.runUnderlying63 rfl Tryz.sizeOf9 rfl) ?_
       refine any_y 14 rfl (by kernel_rfl) (by kernel_rfl) (by kernel_rfl) (ss (ss (ss (sn)))) (wg 10 true 62 rfl rfl rfl rfl) rfl (y_load_box 1 Tryz.isAgg9 rfl rfl rfl) ?_
       refine any_y 15 rfl (by kernel_rfl) (by kernel_rfl) (by kernel_rfl) (ss (ss (ss (sn)))) (wg 10 true 62 rfl rfl rfl rfl) rfl (y_move rfl) ?_
       refine any_y 16 rfl (by kernel_rfl) (by kernel_rfl) (by kernel_rfl) (ss (ss (ss (sn)))) (wg 10 true 62 rfl rfl rfl rfl) rfl (y_nilBox rfl) ?_
       refine any_y 17 rfl (by kernel_rfl) (by kernel_rfl) (by kernel_rfl) (ss (ss (ss (sn)))) (wg 10 true 62 rfl rfl rfl rfl) rfl (y_fieldAddr_box (sz := 0) Tryz.runUnderlying63 rfl Tryz.sizeOf3 rfl) ?_
       refine any_y 18 rfl (by kernel_rfl) (by kernel_rfl) (by kernel_rfl) (ss (ss (ss (sn)))) (wg 10 true 62 rfl rfl rfl rfl) rfl (y_load_box 1 Tryz.isAgg3 rfl rfl rfl) ?_
       obtain ⟨c38, hzc38, hlc38, hxc38, h⟩ := idx_some h
       refine any_y 19 rfl (by kernel_rfl) (by kernel_rfl) (by kernel_rfl) (ss (ss (ss (sn)))) (wg 10 true 62 rfl rfl rfl rfl) rfl (y_index_strI (kd := .i64) (i := (IntKind.i64.wrap (x_10 + 1))) Tryz.runUnderlying9 rfl rfl hzc38 hxc38) ?_
       refine any_all [20] (by kernel_rfl) rfl (anyo_cons ?_ anyo_nil)
       obtain ⟨r39, hr40, h⟩ := obind_some h
       refine any_t rfl (wg 10 true 62 rfl rfl rfl rfl) rfl (t_callx (vs := [.string (bs [34, 92]), .int .u8 (c38.toNat : Int)]) (cs := []) [] rfl Tryz.call74 rfl (idxH_ok  [34, 92] (c38.toNat : Int)  hr40) showsX_nil rfl (.inl rfl)) ?_
       rintro _ _ ⟨_, ⟨rfl, rfl⟩, rfl⟩
       refine ⟨(ss (ss (ss (sn)))), ?_⟩
       refine any_y 21 rfl (by kernel_rfl) (by kernel_rfl) (by kernel_rfl) (ss (ss (ss (sn)))) (wg 10 true 62 rfl rfl rfl rfl) rfl (y_geq rfl rfl) ?_
       refine any_y 22 rfl (by kernel_rfl) (by kernel_rfl) (by kernel_rfl) (ss (ss (ss (sn)))) (wn rfl) rfl (y_pick (b := true) rfl rfl) ?_
       obtain rfl := some_eq h
       exact any_weak [(3, v11), (0, boxP r_0b 0), (2, boxP b1 0), (4, .int .u8 0), (74, .bool (decide (0 ≤ r39)))] [0, 1, 2] [row v11 1 (out_9.map eB8), box r_0b [.string (bs r_0.s_), .int .i64 (IntKind.i64.wrap (x_10 + 1))], box b1 [.int .i64 0, .int .i64 0, .string (bs [])]] (by kernel_rfl) (qv5 rfl rfl rfl rfl rfl) (by decide) rfl (hL36 (decide (0 ≤ r39)) rfl)
      ·replace h := cond_f h hg37
       refine any_no 11 rfl (by kernel_rfl) (by kernel_rfl) (by kernel_rfl) (ss (ss (ss (sn)))) 10 true 62 rfl rfl rfl rfl rfl ?_
       refine any_no 12 rfl (by kernel_rfl) (by kernel_rfl) (by kernel_rfl) (ss (ss (ss (sn)))) 10 true 62 rfl rfl rfl rfl rfl ?_
       refine any_no 13 rfl (by kernel_rfl) (by kernel_rfl) (by kernel_rfl) (ss (ss (ss (sn)))) 10 true 62 rfl rfl rfl rfl rfl ?_
       refine any_no 14 rfl (by kernel_rfl) (by kernel_rfl) (by kernel_rfl) (ss (ss (ss (sn)))) 10 true 62 rfl rfl rfl rfl rfl ?_
       refine any_no 15 rfl (by kernel_rfl) (by kernel_rfl) (by kernel_rfl) (ss (ss (ss (sn)))) 10 true 62 rfl rfl rfl rfl rfl ?_
       refine any_no 16 rfl (by kernel_rfl) (by kernel_rfl) (by kernel_rfl) (ss (ss (ss (sn)))) 10 true 62 rfl rfl rfl rfl rfl ?_
       refine any_no 17 rfl (by kernel_rfl) (by kernel_rfl) (by kernel_rfl) (ss (ss (ss (sn)))) 10 true 62 rfl rfl rfl rfl rfl ?_
       refine any_no 18 rfl (by kernel_rfl) (by kernel_rfl) (by kernel_rfl) (ss (ss (ss (sn)))) 10 true 62 rfl rfl rfl rfl rfl ?_
       refine any_no 19 rfl (by kernel_rfl) (by kernel_rfl) (by kernel_rfl) (ss (ss (ss (sn)))) 10 true 62 rfl rfl rfl rfl rfl ?_
       refine any_no 20 rfl (by kernel_rfl) (by kernel_rfl) (by kernel_rfl) (ss (ss (ss (sn)))) 10 true 62 rfl rfl rfl rfl rfl ?_
       refine any_no 21 rfl (by kernel_rfl) (by kernel_rfl) (by kernel_rfl) (ss (ss (ss (sn)))) 10 true 62 rfl rfl rfl rfl rfl ?_
       refine any_y 22 rfl (by kernel_rfl) (by kernel_rfl) (by kernel_rfl) (ss (ss (ss (sn)))) (wn rfl) rfl (y_pick (b := false) rfl rfl) ?_
       obtain rfl := some_eq h
       exact any_weak [(3, v11), (0, boxP r_0b 0), (2, boxP b1 0), (4, .int .u8 0), (74, .bool false)] [0, 1, 2] [row v11 1 (out_9.map eB8), box r_0b [.string (bs r_0.s_), .int .i64 (IntKind.i64.wrap (x_10 + 1))], box b1 [.int .i64 0, .int .i64 0, .string (bs [])]] (by kernel_rfl) (qv5 rfl rfl rfl rfl rfl) (by decide) rfl (hL36 false rfl)
     rintro b32 hj
     obtain rfl : o33 = _ := hj
     replace h := after_go ho34
     clear ho34
     refine any_nil (by kernel_rfl) ?_
     refine goes_code ?_
     refine run_cond b32 rfl (fun hc41 => ?_) (fun hc41 => ?_)
     ·replace h := cond_t h hc41
      refine run_draw (by kernel_rfl) (by kernel_rfl) ?_
      refine sy rfl rfl (y_move rfl) ?_
      refine sy rfl rfl (y_nilBox rfl) ?_
      refine sy rfl rfl (y_fieldAddr_box (sz := 0) Tryz.runUnderlying63 rfl Tryz.sizeOf9 rfl) ?_
      refine sy rfl rfl (y_load_box 1 Tryz.isAgg9 rfl rfl rfl) ?_
      refine sy rfl rfl (y_move rfl) ?_
      refine sy rfl rfl (y_nilBox rfl) ?_
      refine sy rfl rfl (y_fieldAddr_box (sz := 0) Tryz.runUnderlying63 rfl Tryz.sizeOf3 rfl) ?_
      refine sy rfl rfl (y_load_box 1 Tryz.isAgg3 rfl rfl rfl) ?_
      obtain ⟨c42, hzc42, hlc42, hxc42, h⟩ := idx_some h
      refine sy rfl rfl (y_index_strI (kd := .i64) (i := (IntKind.i64.wrap (x_10 + 1))) Tryz.runUnderlying9 rfl rfl hzc42 hxc42) ?_
      refine sy rfl rfl (y_assign rfl) ?_
      refine still_nil ?_
      obtain rfl := some_eq h
      exact goes_cut hL29 (((c42.toNat : Int), (IntKind.i64.wrap (x_10 + 1))), ()) [1, 2, 0] (qv4 rfl rfl rfl rfl) (by decide) rfl rfl
     ·replace h := cond_f h hc41
      refine run_skip ?_
      obtain rfl := some_eq h
      exact goes_cut hL29 ((0, (IntKind.i64.wrap (x_10 + 1))), ()) [1, 2, 0] (qv4 rfl rfl rfl rfl) (by decide) rfl rfl
    ·replace h := cond_f h hc31
     refine run_skip ?_
     obtain rfl := some_eq h
     exact goes_cut hL29 (((c24.toNat : Int), x_10), ()) [1, 2, 0] (qv4 rfl rfl rfl rfl) (by decide) rfl rfl
   rintro ⟨⟨b_25, x_26⟩, _⟩ hj
   obtain rfl : o27 = _ := hj
   replace h := after_go ho28
   clear ho28
   change Run _ _ _ (VF.of [(4, .int .u8 b_25), (0, boxP r_0b 0), (2, boxP b1 0), (3, v11)]) [box r_0b [.string (bs r_0.s_), .int .i64 x_26], box b1 [.int .i64 0, .int .i64 0, .string (bs [])], row v11 1 (out_9.map eB8)]
   refine run_seq ?_
   refine run_region' ?_
   refine oy rfl rfl (y_move rfl) ?_
   refine oy rfl rfl (y_lss rfl rfl) ?_
   refine oy rfl rfl (y_move rfl) ?_
   refine ops_cut 3 (Bool) (fun σ => [(4, .int .u8 b_25), (0, boxP r_0b 0), (2, boxP b1 0), (3, v11), (89, .bool σ)]) (fun σ => [box r_0b [.string (bs r_0.s_), .int .i64 x_26], box b1 [.int .i64 0, .int .i64 0, .string (bs [])], row v11 1 (out_9.map eB8)]) (fun σ => σ = (decide (b_25 < 32) || decide (126 < b_25))) (fun L43 hL44 => ?_) ?_
   ·refine ops_split 86 (decide (b_25 < 32)) rfl (fun hg45 => ?_) (fun hg45 => ?_)
    ·skip
     refine ops_no 2 false 86 rfl rfl rfl rfl rfl ?_
     refine ops_no 2 false 86 rfl rfl rfl rfl rfl ?_
     refine oy rfl rfl (y_pick (b := true) rfl rfl) ?_
     refine ops_nil ?_
     exact goes_cut hL44 true [0, 1, 2] (qv5 rfl rfl rfl rfl rfl) (by decide) rfl (by rw [hg45]; simp)
    ·skip
     refine ops_y (wg 2 false 86 rfl rfl rfl rfl) rfl (y_move rfl) ?_
     refine ops_y (wg 2 false 86 rfl rfl rfl rfl) rfl (y_gtr rfl rfl) ?_
     refine oy rfl rfl (y_pick (b := false) rfl rfl) ?_
     refine ops_nil ?_
     exact goes_cut hL44 (decide (126 < b_25)) [0, 1, 2] (qv5 rfl rfl rfl rfl rfl) (by decide) rfl (by rw [hg45]; simp)
   rintro _ rfl
   obtain ⟨r46, hr47, h⟩ := obind_some h
   rcases r46 with q48 | e49
   rotate_left
   ·replace h := pbind_pan h
    refine ops_tp (wn rfl) rfl (t_callp (vs := [.bool (decide (b_25 < 32) || decide (126 < b_25)), .int .i64 182]) (cs := []) [] rfl Tryz.call73 rfl (lexer_fail_ok  (decide (b_25 < 32) || decide (126 < b_25)) 182  hr47) showsX_nil rfl (.inl rfl)) (by rintro _ _ ⟨_, ⟨_, hq, _⟩, _⟩; cases hq) ?_
    rintro _ ⟨_, he, rfl⟩
    obtain rfl := Pn.pan.inj he
    obtain rfl := some_eq h
    obtain rfl := hstop14 _ rfl
    skip
    obtain rfl := after_stop ho6
    exact finP ⟨_, rfl, rfl⟩
   replace h := pbind_ret h
   refine ot rfl rfl (t_callx (vs := [.bool (decide (b_25 < 32) || decide (126 < b_25)), .int .i64 182]) (cs := []) [] rfl Tryz.call73 rfl (mp_ret (lexer_fail_ok  (decide (b_25 < 32) || decide (126 < b_25)) 182  hr47)) showsX_nil rfl (.inl rfl)) ?_
   rintro _ _ ⟨_, ⟨rfl, rfl⟩, rfl⟩
   refine ops_nil ?_
   refine goes_code ?_
   refine run_seq ?_
   refine run_region' ?_
   refine oy rfl rfl (y_move rfl) ?_
   refine oy rfl rfl (y_move rfl) ?_
   obtain ⟨hi51, h⟩ := need_some h
   refine ot rfl rfl (t_lit [.int .u8 b_25] Tryz.runUnderlying47 Tryz.sizeOf5 Tryz.zeroValue5 rfl (by decide) (by decide) rfl (by simp [Value.cells, boxP])) ?_
   rintro v50 _ ⟨rfl, _⟩
   refine ops_turn (retell 3 (g := row v50 1 (([(b_25).toNat.toUInt8] : List UInt8).map eB8)) rfl (congrArg (row _ _) (by simp only [List.map_cons, List.map_nil, eB8_in hi51]; rfl))) ?_
   obtain ⟨hr53, h⟩ := need_some h
   refine ot rfl rfl (t_append (es := 1) 2 rfl Tryz.runUnderlying47 rfl Tryz.runUnderlying47 (.inr ⟨_, rfl⟩) Tryz.typeInfo5 rfl (by decide) Tryz.zeroValue5 rfl rfl rfl rfl (src_reads 3 rfl reads_row (map_ok eB8_ok _)) (map_room hr53 (by decide)) (map_fit hr53)) ?_
   rintro v52 _ rfl
   refine ops_turn (retell 2 (g := row v52 1 ((out_9 ++ ([(b_25).toNat.toUInt8] : List UInt8)).map eB8)) rfl (congrArg (row _ _) List.map_append.symm)) ?_
   refine oy rfl rfl (y_assign rfl) ?_
   refine ops_nil ?_
   refine goes_code ?_
   refine run_region' ?_
   refine oy rfl rfl (y_move rfl) ?_
   refine oy rfl rfl (y_nilBox rfl) ?_
   refine oy rfl rfl (y_fieldAddr_box (sz := 0) Tryz.runUnderlying63 rfl Tryz.sizeOf3 rfl) ?_
   refine oy rfl rfl (y_load_box 0 Tryz.isAgg3 rfl rfl rfl) ?_
   refine oy rfl rfl (y_add rfl rfl) ?_
   refine oy rfl rfl (y_nilBox rfl) ?_
   refine oy rfl rfl (y_fieldAddr_box (sz := 0) Tryz.runUnderlying63 rfl Tryz.sizeOf3 rfl) ?_
   refine ot rfl rfl (t_store 0 Tryz.sizeOf3 rfl rfl rfl rfl (by simp [Value.cells, boxP]) (by simp [Value.cells, Value.oneCell', boxP])) ?_
   rintro _ _ ⟨rfl, rfl⟩
   refine ops_turn (retell 0 (g := box r_0b [.string (bs r_0.s_), .int .i64 (IntKind.i64.wrap (x_26 + 1))]) rfl rfl) ?_
   refine ops_nil ?_
   refine goes_blk ?_
   obtain rfl := some_eq h
   exact goes_iter hgo13 ((out_9 ++ ([(b_25).toNat.toUInt8] : List UInt8)), (IntKind.i64.wrap (x_26 + 1))) v52 [2, 0, 1] rfl (qv3 rfl rfl rfl) (by decide) rfl
  ·replace h := cond_f h hc23
   refine run_exit _ rfl ?_
   obtain rfl := some_eq h
   obtain rfl := hstop14 _ rfl
   exact goes_cut hL7 ((out_9, x_10), v11) [0, 1, 2] (qv3 rfl rfl rfl) (by decide) rfl rfl
 rintro ⟨⟨out_2, x_3⟩, v4⟩ hj
 obtain rfl : o5 = _ := hj
 replace h := after_go ho6
 clear ho6
 change Run _ _ _ (VF.of [(3, v4), (0, boxP r_0b 0), (2, boxP b1 0)]) [row v4 1 (out_2.map eB8), box r_0b [.string (bs r_0.s_), .int .i64 x_3], box b1 [.int .i64 0, .int .i64 0, .string (bs [])]]
 refine run_seq ?_
 refine run_drawany [row v4 1 (out_2.map eB8), box r_0b [.string (bs r_0.s_), .int .i64 x_3], box b1 [.int .i64 0, .int .i64 0, .string (bs [])]] (by kernel_rfl) ?_
 refine any_y 0 rfl (by kernel_rfl) (by kernel_rfl) (by kernel_rfl) (ss (ss (ss (sn)))) (wn rfl) rfl (y_move rfl) ?_
 refine any_y 1 rfl (by kernel_rfl) (by kernel_rfl) (by kernel_rfl) (ss (ss (ss (sn)))) (wn rfl) rfl (y_nilBox rfl) ?_
 refine any_y 2 rfl (by kernel_rfl) (by kernel_rfl) (by kernel_rfl) (ss (ss (ss (sn)))) (wn rfl) rfl (y_fieldAddr_box (sz := 0) Tryz.runUnderlying63 rfl Tryz.sizeOf3 rfl) ?_
 refine any_y 3 rfl (by kernel_rfl) (by kernel_rfl) (by kernel_rfl) (ss (ss (ss (sn)))) (wn rfl) rfl (y_load_box 1 Tryz.isAgg3 rfl rfl rfl) ?_
 refine any_y 4 rfl (by kernel_rfl) (by kernel_rfl) (by kernel_rfl) (ss (ss (ss (sn)))) (wn rfl) rfl (y_move rfl) ?_
 refine any_y 5 rfl (by kernel_rfl) (by kernel_rfl) (by kernel_rfl) (ss (ss (ss (sn)))) (wn rfl) rfl (y_nilBox rfl) ?_
 refine any_y 6 rfl (by kernel_rfl) (by kernel_rfl) (by kernel_rfl) (ss (ss (ss (sn)))) (wn rfl) rfl (y_fieldAddr_box (sz := 0) Tryz.runUnderlying63 rfl Tryz.sizeOf9 rfl) ?_
 refine any_y 7 rfl (by kernel_rfl) (by kernel_rfl) (by kernel_rfl) (ss (ss (ss (sn)))) (wn rfl) rfl (y_load_box 1 Tryz.isAgg9 rfl rfl rfl) ?_
 refine any_y 8 rfl (by kernel_rfl) (by kernel_rfl) (by kernel_rfl) (ss (ss (ss (sn)))) (wn rfl) rfl (y_len_str rfl Tryz.runUnderlying9 rfl) ?_
 refine any_y 9 rfl (by kernel_rfl) (by kernel_rfl) (by kernel_rfl) (ss (ss (ss (sn)))) (wn rfl) rfl (y_geq rfl rfl) ?_
 refine any_y 10 rfl (by kernel_rfl) (by kernel_rfl) (by kernel_rfl) (ss (ss (ss (sn)))) (wn rfl) rfl (y_move rfl) ?_
 refine any_cut #[true, true, true, true, true, true, true, true, true, true, true, true, true, true, true, false] 1 Bool (fun σ => [(3, v4), (0, boxP r_0b 0), (2, boxP b1 0), (116, .bool σ)]) (fun σ => [row v4 1 (out_2.map eB8), box r_0b [.string (bs r_0.s_), .int .i64 x_3], box b1 [.int .i64 0, .int .i64 0, .string (bs [])]]) (fun σ => σ = (decide ((r_0.s_.length : Int) ≤ x_3) || decide (200 < (out_2.length : Int)))) (fun hL55 => ?_) ?_
 ·refine any_split 112 (decide ((r_0.s_.length : Int) ≤ x_3)) rfl (fun hg56 => ?_) (fun hg56 => ?_)
  ·skip
   refine any_no 11 rfl (by kernel_rfl) (by kernel_rfl) (by kernel_rfl) (ss (ss (ss (sn)))) 10 false 112 rfl rfl rfl rfl rfl ?_
   refine any_no 12 rfl (by kernel_rfl) (by kernel_rfl) (by kernel_rfl) (ss (ss (ss (sn)))) 10 false 112 rfl rfl rfl rfl rfl ?_
   refine any_no 13 rfl (by kernel_rfl) (by kernel_rfl) (by kernel_rfl) (ss (ss (ss (sn)))) 10 false 112 rfl rfl rfl rfl rfl ?_
   refine any_y 14 rfl (by kernel_rfl) (by kernel_rfl) (by kernel_rfl) (ss (ss (ss (sn)))) (wn rfl) rfl (y_pick (b := true) rfl rfl) ?_
   exact any_weak [(3, v4), (0, boxP r_0b 0), (2, boxP b1 0), (116, .bool true)] [0, 1, 2] [row v4 1 (out_2.map eB8), box r_0b [.string (bs r_0.s_), .int .i64 x_3], box b1 [.int .i64 0, .int .i64 0, .string (bs [])]] (by kernel_rfl) (qv4 rfl rfl rfl rfl) (by decide) rfl (hL55 true (by rw [hg56]; simp))
  ·skip
   refine any_y 11 rfl (by kernel_rfl) (by kernel_rfl) (by kernel_rfl) (ss (ss (ss (sn)))) (wg 10 false 112 rfl rfl rfl rfl) rfl (y_move rfl) ?_
   refine any_y 12 rfl (by kernel_rfl) (by kernel_rfl) (by kernel_rfl) (ss (ss (ss (sn)))) (wg 10 false 112 rfl rfl rfl rfl) rfl ((y_len 0 rfl Tryz.runUnderlying47 rfl rfl reads_row).to (v_len eB8 _)) ?_
   refine any_y 13 rfl (by kernel_rfl) (by kernel_rfl) (by kernel_rfl) (ss (ss (ss (sn)))) (wg 10 false 112 rfl rfl rfl rfl) rfl (y_gtr rfl rfl) ?_
   refine any_y 14 rfl (by kernel_rfl) (by kernel_rfl) (by kernel_rfl) (ss (ss (ss (sn)))) (wn rfl) rfl (y_pick (b := false) rfl rfl) ?_
   exact any_weak [(3, v4), (0, boxP r_0b 0), (2, boxP b1 0), (116, .bool (decide (200 < (out_2.length : Int))))] [0, 1, 2] [row v4 1 (out_2.map eB8), box r_0b [.string (bs r_0.s_), .int .i64 x_3], box b1 [.int .i64 0, .int .i64 0, .string (bs [])]] (by kernel_rfl) (qv4 rfl rfl rfl rfl) (by decide) rfl (hL55 (decide (200 < (out_2.length : Int))) (by rw [hg56]; simp))
 rintro _ rfl
 refine any_all [15] (by kernel_rfl) rfl (anyo_cons ?_ anyo_nil)
 obtain ⟨r57, hr58, h⟩ := obind_some h
 rcases r57 with q59 | e60
 rotate_left
 ·replace h := pbind_pan h
  refine any_tp rfl (wn rfl) rfl (t_callp (vs := [.bool (decide ((r_0.s_.length : Int) ≤ x_3) || decide (200 < (out_2.length : Int))), .int .i64 182]) (cs := []) [] rfl Tryz.call73 rfl (lexer_fail_ok  (decide ((r_0.s_.length : Int) ≤ x_3) || decide (200 < (out_2.length : Int))) 182  hr58) showsX_nil rfl (.inl rfl)) (by rintro _ _ ⟨_, ⟨_, hq, _⟩, _⟩; cases hq) ?_
  rintro _ ⟨_, he, rfl⟩
  obtain rfl := Pn.pan.inj he
  obtain rfl := some_eq h
  exact finP ⟨_, rfl, rfl⟩
 replace h := pbind_ret h
 refine any_t rfl (wn rfl) rfl (t_callx (vs := [.bool (decide ((r_0.s_.length : Int) ≤ x_3) || decide (200 < (out_2.length : Int))), .int .i64 182]) (cs := []) [] rfl Tryz.call73 rfl (mp_ret (lexer_fail_ok  (decide ((r_0.s_.length : Int) ≤ x_3) || decide (200 < (out_2.length : Int))) 182  hr58)) showsX_nil rfl (.inl rfl)) ?_
 rintro _ _ ⟨_, ⟨rfl, rfl⟩, rfl⟩
 refine ⟨(ss (ss (ss (sn)))), ?_⟩
 refine any_nil (by kernel_rfl) ?_
 refine goes_code ?_
 refine run_seq ?_
 refine run_region' ?_
 refine oy rfl rfl (y_move rfl) ?_
 refine oy rfl rfl (y_nilBox rfl) ?_
 refine oy rfl rfl (y_fieldAddr_box (sz := 0) Tryz.runUnderlying63 rfl Tryz.sizeOf3 rfl) ?_
 refine oy rfl rfl (y_load_box 1 Tryz.isAgg3 rfl rfl rfl) ?_
 refine oy rfl rfl (y_add rfl rfl) ?_
 refine oy rfl rfl (y_nilBox rfl) ?_
 refine oy rfl rfl (y_fieldAddr_box (sz := 0) Tryz.runUnderlying63 rfl Tryz.sizeOf3 rfl) ?_
 refine ot rfl rfl (t_store 1 Tryz.sizeOf3 rfl rfl rfl rfl (by simp [Value.cells, boxP]) (by simp [Value.cells, Value.oneCell', boxP])) ?_
 rintro _ _ ⟨rfl, rfl⟩
 refine ops_turn (retell 1 (g := box r_0b [.string (bs r_0.s_), .int .i64 (IntKind.i64.wrap (x_3 + 1))]) rfl rfl) ?_
 refine ops_nil ?_
 refine goes_code ?_
 refine run_seq ?_
 refine run_weak [(3, v4), (2, boxP b1 0)] [0, 1, 2] [row v4 1 (out_2.map eB8), box r_0b [.string (bs r_0.s_), .int .i64 (IntKind.i64.wrap (x_3 + 1))], box b1 [.int .i64 0, .int .i64 0, .string (bs [])]] (qv2 rfl rfl) (by decide) rfl ?_
 refine run_region' ?_
 refine oy rfl rfl (y_move rfl) ?_
 refine oy rfl rfl (y_b2s (l := out_2) 0 Tryz.runUnderlying47 Tryz.runUnderlying5 Tryz.runUnderlying9 rfl rfl reads_row) ?_
 refine oy rfl rfl (y_build_struct (cells := #[.int .i64 4, .int .i64 0, .string (bs out_2)]) [(0, .int .i64 4), (2, .string (bs out_2))] [(0, [.int .i64 4]), (2, [.string (bs out_2)])] Tryz.zeroValue44 Tryz.runUnderlying44 (fs_cons Tryz.sizeOf3 (fs_cons Tryz.sizeOf3 (fs_cons Tryz.sizeOf9 fs_nil))) rfl rfl rfl) ?_
 refine ot rfl rfl (t_store 2 Tryz.sizeOf44 rfl rfl rfl rfl (by simp [Value.cells, boxP]) (by simp [Value.cells, Value.oneCell', boxP])) ?_
 rintro _ _ ⟨rfl, rfl⟩
 refine ops_turn (retell 2 (g := box b1 [.int .i64 4, .int .i64 0, .string (bs out_2)]) rfl rfl) ?_
 refine ops_nil ?_
 refine goes_code ?_
 refine run_ret ?_
 obtain rfl := some_eq h
 refine fin_res [.cell 2 44] [.agg #[.int .i64 4, .int .i64 0, .string (bs out_2)]] [1] [box r_0b [.string (bs r_0.s_), .int .i64 (IntKind.i64.wrap (x_3 + 1))]] Tryz.results46 rfl (rescons (res_box 2 Tryz.isAgg44 Tryz.sizeOf44 rfl rfl rfl) resnil) (by decide) rfl ?_
 exact ⟨_, rfl, rfl, rfl⟩

def lexer_forms_2_47 (a_0 : Int) : Option (Bool) :=
 some true
theorem lexer_forms_2_47_ok (a_0 : Int)  {r : Bool} (h : lexer_forms_2_47 a_0 = some r) :
  Meets Tryz.prog 47 [.int .u8 a_0] [] (fun v G => v = .bool r ∧ G = []) := by
 refine fn_of_run Tryz.func47 rfl Tryz.ntmps47 rfl (fun w0 o0 => ?_)
 refine run_seq ?_
 refine run_region' ?_
 refine oy rfl rfl (y_assign rfl) ?_
 refine ops_nil ?_
 refine goes_code ?_
 refine run_seq ?_
 refine run_region' ?_
 refine oy rfl rfl (y_assign rfl) ?_
 refine ops_nil ?_
 refine goes_code ?_
 refine run_ret ?_
 obtain rfl := some_eq h
 refine fin_slots [2] [.bool true] [] [] Tryz.results47 rfl (by decide) rfl ?_
 exact ⟨rfl, rfl⟩

def weirgate_lexer_reader_sign_48 (n : Nat) (r_0 : S_lexer_reader) : Option (Pn (S_api_Lexeme × S_lexer_reader)) :=
 bindJ (S := Int)
  (need (0 ≤ r_0.at_ ∧ r_0.at_ ≤ (min (IntKind.i64.wrap (r_0.at_ + 2)) (r_0.s_.length : Int)) ∧ (min (IntKind.i64.wrap (r_0.at_ + 2)) (r_0.s_.length : Int)) ≤ (r_0.s_.length : Int)) (
  bindJ (S := Bool)
   (cond (decide ((((r_0.s_.take (((min (IntKind.i64.wrap (r_0.at_ + 2)) (r_0.s_.length : Int))).toNat)).drop ((r_0.at_).toNat)).length : Int) = 2))
    (obind (fieldsH [61, 61, 32, 33, 61, 32, 60, 61, 32, 62, 61, 32, 46, 46]) fun r14 =>
    obind (slices_Contains_string_string_34 n r14 ((r_0.s_.take (((min (IntKind.i64.wrap (r_0.at_ + 2)) (r_0.s_.length : Int))).toNat)).drop ((r_0.at_).toNat))) fun r17 =>
    some (.go r17))
    (some (.go false)))
  (fun b8 =>
   cond b8
    (some (.go 2))
    (some (.go 1)))))
 (fun n_2 =>
  need (0 ≤ r_0.at_ ∧ r_0.at_ ≤ (IntKind.i64.wrap (r_0.at_ + n_2)) ∧ (IntKind.i64.wrap (r_0.at_ + n_2)) ≤ (r_0.s_.length : Int)) (
  bindJ (S := Bool)
   (cond (decide (n_2 = 1))
    (idx ((r_0.s_.take (((IntKind.i64.wrap (r_0.at_ + n_2))).toNat)).drop ((r_0.at_).toNat)) 0 fun c27 =>
    obind (idxH [123, 125, 40, 41, 91, 93, 44, 59, 58, 61, 60, 62, 43, 45, 42, 47, 37] (c27.toNat : Int)) fun r28 =>
    some (.go (decide (r28 < 0))))
    (some (.go false)))
  (fun b21 =>
   obind (lexer_fail b21 180) fun r30 =>
   pbind r30 (fun e33 =>
    some (.pan e33)) fun q32 =>
   some (.ret ((S_api_Lexeme.mk 5 0 ((r_0.s_.take (((IntKind.i64.wrap (r_0.at_ + n_2))).toNat)).drop ((r_0.at_).toNat))), (S_lexer_reader.mk r_0.s_ (IntKind.i64.wrap (r_0.at_ + n_2))))))))
theorem weirgate_lexer_reader_sign_48_ok (n : Nat) (r_0 : S_lexer_reader) (r_0b : Nat) {r : Pn (S_api_Lexeme × S_lexer_reader)} (h : weirgate_lexer_reader_sign_48 n r_0 = some r) :
  MeetsP Tryz.prog 48 [boxP r_0b 0] [box r_0b [.string (bs r_0.s_), .int .i64 r_0.at_], globA] (fun v G => ∃ q, r = .ret q ∧ (v = .agg #[.int .i64 q.1.Kind, .int .i64 q.1.At, .string (bs q.1.S)] ∧ G = [box r_0b [.string (bs q.2.s_), .int .i64 q.2.at_]])) (fun v => ∃ e, r = .pan e ∧ v = .iface 24 (.int .i64 e)) := by
 refine fnp_of_run Tryz.func48 rfl Tryz.ntmps48 rfl (fun w0 o0 => ?_)
 refine run_seq ?_
 refine run_region' ?_
 refine ot rfl rfl (t_alloc Tryz.zeroValue44) ?_
 rintro _ _ ⟨b1, rfl, rfl⟩
 refine ops_nil ?_
 refine goes_code ?_
 refine run_seq ?_
 refine run_region' ?_
 refine oy rfl rfl (y_assign rfl) ?_
 refine ops_nil ?_
 refine goes_code ?_
 obtain ⟨o3, h, ho4⟩ := bindJ_some h
 refine run_cut ((Int) × (Unit)) (fun σ => [(3, .int .i64 σ.1), (0, boxP r_0b 0), (2, boxP b1 0)]) (fun σ => [box r_0b [.string (bs r_0.s_), .int .i64 r_0.at_], box b1 [.int .i64 0, .int .i64 0, .string (bs [])], globA]) (fun σ => o3 = .go σ.1) (fun L6 hL5 => ?_) ?_
 ·
  refine run_seq ?_
  refine run_draw (by kernel_rfl) (by kernel_rfl) ?_
  refine sy rfl rfl (y_move rfl) ?_
  refine sy rfl rfl (y_nilBox rfl) ?_
  refine sy rfl rfl (y_fieldAddr_box (sz := 0) Tryz.runUnderlying63 rfl Tryz.sizeOf9 rfl) ?_
  refine sy rfl rfl (y_load_box 0 Tryz.isAgg9 rfl rfl rfl) ?_
  refine sy rfl rfl (y_move rfl) ?_
  refine sy rfl rfl (y_nilBox rfl) ?_
  refine sy rfl rfl (y_fieldAddr_box (sz := 0) Tryz.runUnderlying63 rfl Tryz.sizeOf3 rfl) ?_
  refine sy rfl rfl (y_load_box 0 Tryz.isAgg3 rfl rfl rfl) ?_
  refine sy rfl rfl (y_move rfl) ?_
  refine sy rfl rfl (y_nilBox rfl) ?_
  refine sy rfl rfl (y_fieldAddr_box (sz := 0) Tryz.runUnderlying63 rfl Tryz.sizeOf3 rfl) ?_
  refine sy rfl rfl (y_load_box 0 Tryz.isAgg3 rfl rfl rfl) ?_
  refine sy rfl rfl (y_add rfl rfl) ?_
  refine sy rfl rfl (y_move rfl) ?_
  refine sy rfl rfl (y_nilBox rfl) ?_
  refine sy rfl rfl (y_fieldAddr_box (sz := 0) Tryz.runUnderlying63 rfl Tryz.sizeOf9 rfl) ?_
  refine sy rfl rfl (y_load_box 0 Tryz.isAgg9 rfl rfl rfl) ?_
  refine sy rfl rfl (y_len_str rfl Tryz.runUnderlying9 rfl) ?_
  refine sy rfl rfl (y_min rfl rfl) ?_
  obtain ⟨hb7, h⟩ := need_some h
  refine sy rfl rfl (y_slice_str (l := r_0.at_) (r := (min (IntKind.i64.wrap (r_0.at_ + 2)) (r_0.s_.length : Int))) Tryz.runUnderlying9 rfl (bi1 (kd := .i64) rfl) (bi1 (kd := .i64) rfl) hb7.1 hb7.2.1 hb7.2.2) ?_
  refine sy rfl rfl (y_assign rfl) ?_
  refine still_nil ?_
  refine goes_code ?_
  refine run_seq ?_
  refine run_weak [(0, boxP r_0b 0), (2, boxP b1 0), (3, .int .i64 1), (4, .string (bs ((r_0.s_.take (((min (IntKind.i64.wrap (r_0.at_ + 2)) (r_0.s_.length : Int))).toNat)).drop ((r_0.at_).toNat))))] [0, 1, 2] [box r_0b [.string (bs r_0.s_), .int .i64 r_0.at_], globA, box b1 [.int .i64 0, .int .i64 0, .string (bs [])]] (qv4 rfl rfl rfl rfl) (by decide) rfl ?_
  refine run_region' ?_
  refine oy rfl rfl (y_move rfl) ?_
  refine oy rfl rfl (y_len_str rfl Tryz.runUnderlying9 rfl) ?_
  refine oy rfl rfl (y_eql rfl rfl) ?_
  refine oy rfl rfl (y_move rfl) ?_
  obtain ⟨o9, h, ho10⟩ := bindJ_some h
  refine ops_cut 4 (Bool) (fun σ => [(0, boxP r_0b 0), (2, boxP b1 0), (3, .int .i64 1), (33, .bool σ)]) (fun σ => [box r_0b [.string (bs r_0.s_), .int .i64 r_0.at_], globA, box b1 [.int .i64 0, .int .i64 0, .string (bs [])]]) (fun σ => o9 = .go σ) (fun L11 hL12 => ?_) ?_
  ·refine ops_split 29 (decide ((((r_0.s_.take (((min (IntKind.i64.wrap (r_0.at_ + 2)) (r_0.s_.length : Int))).toNat)).drop ((r_0.at_).toNat)).length : Int) = 2)) rfl (fun hg13 => ?_) (fun hg13 => ?_)
   ·replace h := cond_t h hg13
    obtain ⟨r14, hr15, h⟩ := obind_some h
    refine ops_t (wg 3 true 29 rfl rfl rfl rfl) rfl (t_callx (vs := [.string (bs [61, 61, 32, 33, 61, 32, 60, 61, 32, 62, 61, 32, 46, 46])]) (cs := []) [(1, 0)] rfl Tryz.call33 rfl (fieldsH_ok  [61, 61, 32, 33, 61, 32, 60, 61, 32, 62, 61, 32, 46, 46]  hr15) (showsX_view 1 rfl views_glob showsX_nil) rfl (.inl rfl)) ?_
    rintro v16 _ ⟨_, ⟨_, rfl, rfl⟩, rfl⟩
    refine ops_y (wg 3 true 29 rfl rfl rfl rfl) rfl (y_move rfl) ?_
    obtain ⟨r17, hr18, h⟩ := obind_some h
    refine ops_t (wg 3 true 29 rfl rfl rfl rfl) rfl (t_callx (vs := [v16, .string (bs ((r_0.s_.take (((min (IntKind.i64.wrap (r_0.at_ + 2)) (r_0.s_.length : Int))).toNat)).drop ((r_0.at_).toNat)))]) (cs := []) [(3, 1)] rfl Tryz.call34 rfl (slices_Contains_string_string_34_ok n  r14 ((r_0.s_.take (((min (IntKind.i64.wrap (r_0.at_ + 2)) (r_0.s_.length : Int))).toNat)).drop ((r_0.at_).toNat)) v16 hr18) (showsX_look 3 rfl views_row showsX_nil) rfl (.inr (by rintro _ _ ⟨rfl, rfl⟩ g hg; first | (cases hg; done) | (simp only [List.mem_cons, List.not_mem_nil, or_false] at hg; first | (subst hg; first | exact strict_row | exact strict_box) | (rcases hg with rfl | rfl <;> first | exact strict_row | exact strict_box) | (rcases hg with rfl | rfl | rfl <;> first | exact strict_row | exact strict_box))))) ?_
    rintro _ _ ⟨_, ⟨rfl, rfl⟩, rfl⟩
    refine oy rfl rfl (y_pick (b := true) rfl rfl) ?_
    refine ops_nil ?_
    obtain rfl := some_eq h
    exact goes_cut hL12 r17 [0, 1, 2] (qv4 rfl rfl rfl rfl) (by decide) rfl rfl
   ·replace h := cond_f h hg13
    refine ops_no 3 true 29 rfl rfl rfl rfl rfl ?_
    refine ops_no 3 true 29 rfl rfl rfl rfl rfl ?_
    refine ops_no 3 true 29 rfl rfl rfl rfl rfl ?_
    refine oy rfl rfl (y_pick (b := false) rfl rfl) ?_
    refine ops_nil ?_
    obtain rfl := some_eq h
    exact goes_cut hL12 false [0, 1, 2] (qv4 rfl rfl rfl rfl) (by decide) rfl rfl
  rintro b8 hj
  obtain rfl : o9 = _ := hj
  replace h := after_go ho10
  clear ho10
  refine ops_nil ?_
  refine goes_code ?_
  refine run_cond b8 rfl (fun hc19 => ?_) (fun hc19 => ?_)
  ·replace h := cond_t h hc19
   refine run_region' ?_
   refine oy rfl rfl (y_assign rfl) ?_
   refine ops_nil ?_
   obtain rfl := some_eq h
   exact goes_cut hL5 (2, ()) [0, 2, 1] (qv3 rfl rfl rfl) (by decide) rfl rfl
  ·replace h := cond_f h hc19
   refine run_skip ?_
   obtain rfl := some_eq h
   exact goes_cut hL5 (1, ()) [0, 2, 1] (qv3 rfl rfl rfl) (by decide) rfl rfl
 rintro ⟨n_2, _⟩ hj
 obtain rfl : o3 = _ := hj
 replace h := after_go ho4
 clear ho4
 change Run _ _ _ (VF.of [(3, .int .i64 n_2), (0, boxP r_0b 0), (2, boxP b1 0)]) [box r_0b [.string (bs r_0.s_), .int .i64 r_0.at_], box b1 [.int .i64 0, .int .i64 0, .string (bs [])], globA]
 refine run_seq ?_
 refine run_draw (by kernel_rfl) (by kernel_rfl) ?_
 refine sy rfl rfl (y_move rfl) ?_
 refine sy rfl rfl (y_nilBox rfl) ?_
 refine sy rfl rfl (y_fieldAddr_box (sz := 0) Tryz.runUnderlying63 rfl Tryz.sizeOf9 rfl) ?_
 refine sy rfl rfl (y_load_box 0 Tryz.isAgg9 rfl rfl rfl) ?_
 refine sy rfl rfl (y_move rfl) ?_
 refine sy rfl rfl (y_nilBox rfl) ?_
 refine sy rfl rfl (y_fieldAddr_box (sz := 0) Tryz.runUnderlying63 rfl Tryz.sizeOf3 rfl) ?_
 refine sy rfl rfl (y_load_box 0 Tryz.isAgg3 rfl rfl rfl) ?_
 refine sy rfl rfl (y_move rfl) ?_
 refine sy rfl rfl (y_nilBox rfl) ?_
 refine sy rfl rfl (y_fieldAddr_box (sz := 0) Tryz.runUnderlying63 rfl Tryz.sizeOf3 rfl) ?_
 refine sy rfl rfl (y_load_box 0 Tryz.isAgg3 rfl rfl rfl) ?_
 refine sy rfl rfl (y_move rfl) ?_
 refine sy rfl rfl (y_add rfl rfl) ?_
 obtain ⟨hb20, h⟩ := need_some h
 refine sy rfl rfl (y_slice_str (l := r_0.at_) (r := (IntKind.i64.wrap (r_0.at_ + n_2))) Tryz.runUnderlying9 rfl (bi1 (kd := .i64) rfl) (bi1 (kd := .i64) rfl) hb20.1 hb20.2.1 hb20.2.2) ?_
 refine sy rfl rfl (y_assign rfl) ?_
 refine still_nil ?_
 refine goes_code ?_
 refine run_seq ?_
 refine run_weak [(3, .int .i64 n_2), (0, boxP r_0b 0), (2, boxP b1 0), (5, .string (bs ((r_0.s_.take (((IntKind.i64.wrap (r_0.at_ + n_2))).toNat)).drop ((r_0.at_).toNat))))] [0, 1, 2] [box r_0b [.string (bs r_0.s_), .int .i64 r_0.at_], box b1 [.int .i64 0, .int .i64 0, .string (bs [])], globA] (qv4 rfl rfl rfl rfl) (by decide) rfl ?_
 refine run_region' ?_
 refine oy rfl rfl (y_move rfl) ?_
 refine oy rfl rfl (y_eql rfl rfl) ?_
 refine oy rfl rfl (y_move rfl) ?_
 obtain ⟨o22, h, ho23⟩ := bindJ_some h
 refine ops_cut 5 (Bool) (fun σ => [(3, .int .i64 n_2), (0, boxP r_0b 0), (2, boxP b1 0), (5, .string (bs ((r_0.s_.take (((IntKind.i64.wrap (r_0.at_ + n_2))).toNat)).drop ((r_0.at_).toNat)))), (56, .bool σ)]) (fun σ => [box r_0b [.string (bs r_0.s_), .int .i64 r_0.at_], box b1 [.int .i64 0, .int .i64 0, .string (bs [])], globA]) (fun σ => o22 = .go σ) (fun L24 hL25 => ?_) ?_
 ·refine ops_split 51 (decide (n_2 = 1)) rfl (fun hg26 => ?_) (fun hg26 => ?_)
  ·replace h := cond_t h hg26
   refine ops_y (wg 2 true 51 rfl rfl rfl rfl) rfl (y_move rfl) ?_
   obtain ⟨c27, hzc27, hlc27, hxc27, h⟩ := idx_some h
   refine ops_y (wg 2 true 51 rfl rfl rfl rfl) rfl (y_index_strI (kd := .i64) (i := 0) Tryz.runUnderlying9 rfl rfl hzc27 hxc27) ?_
   obtain ⟨r28, hr29, h⟩ := obind_some h
   refine ops_t (wg 2 true 51 rfl rfl rfl rfl) rfl (t_callx (vs := [.string (bs [123, 125, 40, 41, 91, 93, 44, 59, 58, 61, 60, 62, 43, 45, 42, 47, 37]), .int .u8 (c27.toNat : Int)]) (cs := []) [] rfl Tryz.call74 rfl (idxH_ok  [123, 125, 40, 41, 91, 93, 44, 59, 58, 61, 60, 62, 43, 45, 42, 47, 37] (c27.toNat : Int)  hr29) showsX_nil rfl (.inl rfl)) ?_
   rintro _ _ ⟨_, ⟨rfl, rfl⟩, rfl⟩
   refine ops_y (wg 2 true 51 rfl rfl rfl rfl) rfl (y_lss rfl rfl) ?_
   refine oy rfl rfl (y_pick (b := true) rfl rfl) ?_
   refine ops_nil ?_
   obtain rfl := some_eq h
   exact goes_cut hL25 (decide (r28 < 0)) [0, 1, 2] (qv5 rfl rfl rfl rfl rfl) (by decide) rfl rfl
  ·replace h := cond_f h hg26
   refine ops_no 2 true 51 rfl rfl rfl rfl rfl ?_
   refine ops_no 2 true 51 rfl rfl rfl rfl rfl ?_
   refine ops_no 2 true 51 rfl rfl rfl rfl rfl ?_
   refine ops_no 2 true 51 rfl rfl rfl rfl rfl ?_
   refine oy rfl rfl (y_pick (b := false) rfl rfl) ?_
   refine ops_nil ?_
   obtain rfl := some_eq h
   exact goes_cut hL25 false [0, 1, 2] (qv5 rfl rfl rfl rfl rfl) (by decide) rfl rfl
 rintro b21 hj
 obtain rfl : o22 = _ := hj
 replace h := after_go ho23
 clear ho23
 obtain ⟨r30, hr31, h⟩ := obind_some h
 rcases r30 with q32 | e33
 rotate_left
 ·replace h := pbind_pan h
  refine ops_tp (wn rfl) rfl (t_callp (vs := [.bool b21, .int .i64 180]) (cs := []) [] rfl Tryz.call73 rfl (lexer_fail_ok  b21 180  hr31) showsX_nil rfl (.inl rfl)) (by rintro _ _ ⟨_, ⟨_, hq, _⟩, _⟩; cases hq) ?_
  rintro _ ⟨_, he, rfl⟩
  obtain rfl := Pn.pan.inj he
  obtain rfl := some_eq h
  exact finP ⟨_, rfl, rfl⟩
 replace h := pbind_ret h
 refine ot rfl rfl (t_callx (vs := [.bool b21, .int .i64 180]) (cs := []) [] rfl Tryz.call73 rfl (mp_ret (lexer_fail_ok  b21 180  hr31)) showsX_nil rfl (.inl rfl)) ?_
 rintro _ _ ⟨_, ⟨rfl, rfl⟩, rfl⟩
 refine ops_nil ?_
 refine goes_code ?_
 refine run_seq ?_
 refine run_region' ?_
 refine oy rfl rfl (y_move rfl) ?_
 refine oy rfl rfl (y_nilBox rfl) ?_
 refine oy rfl rfl (y_fieldAddr_box (sz := 0) Tryz.runUnderlying63 rfl Tryz.sizeOf3 rfl) ?_
 refine oy rfl rfl (y_load_box 0 Tryz.isAgg3 rfl rfl rfl) ?_
 refine oy rfl rfl (y_move rfl) ?_
 refine oy rfl rfl (y_add rfl rfl) ?_
 refine oy rfl rfl (y_nilBox rfl) ?_
 refine oy rfl rfl (y_fieldAddr_box (sz := 0) Tryz.runUnderlying63 rfl Tryz.sizeOf3 rfl) ?_
 refine ot rfl rfl (t_store 0 Tryz.sizeOf3 rfl rfl rfl rfl (by simp [Value.cells, boxP]) (by simp [Value.cells, Value.oneCell', boxP])) ?_
 rintro _ _ ⟨rfl, rfl⟩
 refine ops_turn (retell 0 (g := box r_0b [.string (bs r_0.s_), .int .i64 (IntKind.i64.wrap (r_0.at_ + n_2))]) rfl rfl) ?_
 refine ops_nil ?_
 refine goes_code ?_
 refine run_seq ?_
 refine run_weak [(2, boxP b1 0), (5, .string (bs ((r_0.s_.take (((IntKind.i64.wrap (r_0.at_ + n_2))).toNat)).drop ((r_0.at_).toNat))))] [0, 1, 2] [box r_0b [.string (bs r_0.s_), .int .i64 (IntKind.i64.wrap (r_0.at_ + n_2))], box b1 [.int .i64 0, .int .i64 0, .string (bs [])], globA] (qv2 rfl rfl) (by decide) rfl ?_
 refine run_region' ?_
 refine oy rfl rfl (y_move rfl) ?_
 refine oy rfl rfl (y_build_struct (cells := #[.int .i64 5, .int .i64 0, .string (bs ((r_0.s_.take (((IntKind.i64.wrap (r_0.at_ + n_2))).toNat)).drop ((r_0.at_).toNat)))]) [(0, .int .i64 5), (2, .string (bs ((r_0.s_.take (((IntKind.i64.wrap (r_0.at_ + n_2))).toNat)).drop ((r_0.at_).toNat))))] [(0, [.int .i64 5]), (2, [.string (bs ((r_0.s_.take (((IntKind.i64.wrap (r_0.at_ + n_2))).toNat)).drop ((r_0.at_).toNat)))])] Tryz.zeroValue44 Tryz.runUnderlying44 (fs_cons Tryz.sizeOf3 (fs_cons Tryz.sizeOf3 (fs_cons Tryz.sizeOf9 fs_nil))) rfl rfl rfl) ?_
 refine ot rfl rfl (t_store 1 Tryz.sizeOf44 rfl rfl rfl rfl (by simp [Value.cells, boxP]) (by simp [Value.cells, Value.oneCell', boxP])) ?_
 rintro _ _ ⟨rfl, rfl⟩
 refine ops_turn (retell 1 (g := box b1 [.int .i64 5, .int .i64 0, .string (bs ((r_0.s_.take (((IntKind.i64.wrap (r_0.at_ + n_2))).toNat)).drop ((r_0.at_).toNat)))]) rfl rfl) ?_
 refine ops_nil ?_
 refine goes_code ?_
 refine run_ret ?_
 obtain rfl := some_eq h
 refine fin_res [.cell 2 44] [.agg #[.int .i64 5, .int .i64 0, .string (bs ((r_0.s_.take (((IntKind.i64.wrap (r_0.at_ + n_2))).toNat)).drop ((r_0.at_).toNat)))]] [0] [box r_0b [.string (bs r_0.s_), .int .i64 (IntKind.i64.wrap (r_0.at_ + n_2))]] Tryz.results48 rfl (rescons (res_box 1 Tryz.isAgg44 Tryz.sizeOf44 rfl rfl rfl) resnil) (by decide) rfl ?_
 exact ⟨_, rfl, rfl, rfl⟩

end Go.Proofs.YtgibkdldfnlglaaGreatDoor
