/-
  The functions of the bucket laws, lifted: one bucket.
-/
import Derived.Test.YtpalglggjndmlaaChecked
import Derived.Test.YtpalglggjndmlaaAbsLift2
namespace Go.Proofs.Ytpalglggjndmlaa
open Go.Abs
set_option linter.unusedVariables false
set_option linter.unusedSimpArgs false
set_option maxRecDepth 20000

structure S_api_Bucket where
  Cap : Int
  Num : Int
  Den : Int
  Level : Int
  At : Int
  deriving DecidableEq, Repr
def S_api_Bucket.enc (x : S_api_Bucket) : List Value := [.int .i64 x.Cap, .int .i64 x.Num, .int .i64 x.Den, .int .i64 x.Level, .int .i64 x.At]
theorem S_api_Bucket.enc_ok (x : S_api_Bucket) : (S_api_Bucket.enc x).length = 5 ∧ ∀ u ∈ S_api_Bucket.enc x, u.oneCell' = true := by
  constructor
  · rfl
  · intro u hu; simp only [S_api_Bucket.enc, List.mem_cons, List.not_mem_nil, or_false] at hu; rcases hu with rfl | rfl | rfl | rfl | rfl <;> rfl
structure S_ref12_Made where
  B : S_api_Bucket
  E : Int
  deriving DecidableEq, Repr
def S_ref12_Made.enc (x : S_ref12_Made) : List Value := [.int .i64 x.B.Cap, .int .i64 x.B.Num, .int .i64 x.B.Den, .int .i64 x.B.Level, .int .i64 x.B.At, .int .i64 x.E]
theorem S_ref12_Made.enc_ok (x : S_ref12_Made) : (S_ref12_Made.enc x).length = 6 ∧ ∀ u ∈ S_ref12_Made.enc x, u.oneCell' = true := by
  constructor
  · rfl
  · intro u hu; simp only [S_ref12_Made.enc, List.mem_cons, List.not_mem_nil, or_false] at hu; rcases hu with rfl | rfl | rfl | rfl | rfl | rfl <;> rfl
structure S_ref12_Number where
  N : Int
  E : Int
  deriving DecidableEq, Repr
def S_ref12_Number.enc (x : S_ref12_Number) : List Value := [.int .i64 x.N, .int .i64 x.E]
theorem S_ref12_Number.enc_ok (x : S_ref12_Number) : (S_ref12_Number.enc x).length = 2 ∧ ∀ u ∈ S_ref12_Number.enc x, u.oneCell' = true := by
  constructor
  · rfl
  · intro u hu; simp only [S_ref12_Number.enc, List.mem_cons, List.not_mem_nil, or_false] at hu; rcases hu with rfl | rfl <;> rfl
structure S_ref12_Parts where
  L : (List S_api_Bucket)
  E : Int
  deriving DecidableEq, Repr
structure S_law12_Try where
  After : Int
  N : Int
  Part : Int
  deriving DecidableEq, Repr
def S_law12_Try.enc (x : S_law12_Try) : List Value := [.int .u8 x.After, .int .u8 x.N, .int .u8 x.Part]
theorem S_law12_Try.enc_ok (x : S_law12_Try) : (S_law12_Try.enc x).length = 3 ∧ ∀ u ∈ S_law12_Try.enc x, u.oneCell' = true := by
  constructor
  · rfl
  · intro u hu; simp only [S_law12_Try.enc, List.mem_cons, List.not_mem_nil, or_false] at hu; rcases hu with rfl | rfl | rfl <;> rfl

def bucket_within_int_29 (x_0 : Int) (lo_1 : Int) (hi_2 : Int) : Option (Bool) :=
  some (decide (lo_1 ≤ x_0) && decide (x_0 ≤ hi_2))
theorem bucket_within_int_29_ok (x_0 : Int) (lo_1 : Int) (hi_2 : Int)  {r : Bool} (h : bucket_within_int_29 x_0 lo_1 hi_2 = some r) :
    Meets Try.prog 29 [.int .i64 x_0, .int .i64 lo_1, .int .i64 hi_2] [] (fun v G => v = .bool r ∧ G = []) := by
  refine fn_of_run Try.func29 rfl Try.ntmps29 rfl (fun w0 o0 => ?_)
  refine run_seq ?_
  refine run_region' ?_
  refine ops_y (wn rfl) rfl (y_assign rfl) ?_
  refine ops_nil ?_
  refine goes_code ?_
  refine run_seq ?_
  refine run_region' ?_
  refine ops_y (wn rfl) rfl (y_move rfl) ?_
  refine ops_y (wn rfl) rfl (y_move rfl) ?_
  refine ops_y (wn rfl) rfl (y_geq rfl rfl) ?_
  refine ops_y (wn rfl) rfl (y_move rfl) ?_
  refine ops_cut 4 Bool (fun σ => [(14, .bool σ)]) (fun σ => []) (fun σ => σ = (decide (lo_1 ≤ x_0) && decide (x_0 ≤ hi_2))) (fun L1 hL2 => ?_) ?_
  · refine ops_split 10 (decide (lo_1 ≤ x_0)) rfl (fun hg3 => ?_) (fun hg3 => ?_)
    · skip
      refine ops_y (wg 3 true 10 rfl rfl rfl rfl) rfl (y_move rfl) ?_
      refine ops_y (wg 3 true 10 rfl rfl rfl rfl) rfl (y_move rfl) ?_
      refine ops_y (wg 3 true 10 rfl rfl rfl rfl) rfl (y_leq rfl rfl) ?_
      refine ops_y (wn rfl) rfl (y_pick (b := true) rfl rfl) ?_
      refine ops_nil ?_
      exact goes_cut hL2 (decide (x_0 ≤ hi_2)) [] (vcons rfl (vnil)) (by decide) rfl (by rw [hg3]; simp)
    · skip
      refine ops_no 3 true 10 rfl rfl rfl rfl rfl ?_
      refine ops_no 3 true 10 rfl rfl rfl rfl rfl ?_
      refine ops_no 3 true 10 rfl rfl rfl rfl rfl ?_
      refine ops_y (wn rfl) rfl (y_pick (b := false) rfl rfl) ?_
      refine ops_nil ?_
      exact goes_cut hL2 false [] (vcons rfl (vnil)) (by decide) rfl (by rw [hg3]; simp)
  rintro _ rfl
  refine ops_y (wn rfl) rfl (y_assign rfl) ?_
  refine ops_nil ?_
  refine goes_code ?_
  refine run_ret ?_
  obtain rfl := some_eq h
  refine fin_slots [6] [.bool (decide (lo_1 ≤ x_0) && decide (x_0 ≤ hi_2))] [] [] Try.results29 rfl (by decide) rfl ?_
  exact ⟨rfl, rfl⟩

def bucket_Valid (b_0 : S_api_Bucket) : Option (Bool) :=
  (bucket_within_int_29 b_0.Cap 0 1073741824).bind fun r2 =>
  bindJ (S := Bool)
    (cond r2
      ((bucket_within_int_29 b_0.Num 0 1048576).bind fun r10 =>
      some (.go r10))
      (some (.go false)))
  (fun b4 =>
    bindJ (S := Bool)
      (cond b4
        ((bucket_within_int_29 b_0.Den 1 1048576).bind fun r18 =>
        some (.go r18))
        (some (.go false)))
    (fun b12 =>
      bindJ (S := Bool)
        (cond b12
          ((bucket_within_int_29 b_0.Level 0 (IntKind.i64.wrap (b_0.Cap * b_0.Den))).bind fun r26 =>
          some (.go r26))
          (some (.go false)))
      (fun b20 =>
        bindJ (S := Bool)
          (cond b20
            ((bucket_within_int_29 b_0.At 0 1099511627776).bind fun r34 =>
            some (.go r34))
            (some (.go false)))
        (fun b28 =>
          some b28))))
theorem bucket_Valid_ok (b_0 : S_api_Bucket)  {r : Bool} (h : bucket_Valid b_0 = some r) :
    Meets Try.prog 20 [.agg #[.int .i64 b_0.Cap, .int .i64 b_0.Num, .int .i64 b_0.Den, .int .i64 b_0.Level, .int .i64 b_0.At]] [] (fun v G => v = .bool r ∧ G = []) := by
  refine fn_of_run Try.func20 rfl Try.ntmps20 rfl (fun w0 o0 => ?_)
  refine run_seq ?_
  refine run_region' ?_
  refine ops_t (wn rfl) rfl (t_box rfl) ?_
  rintro _ _ ⟨b1, rfl, rfl⟩
  refine ops_y (wn rfl) rfl (y_assign rfl) ?_
  refine ops_nil ?_
  refine goes_code ?_
  refine run_seq ?_
  refine run_region' ?_
  refine ops_y (wn rfl) rfl (y_fieldAddr_box (sz := 0) Try.runUnderlying23 rfl Try.sizeOf3 rfl) ?_
  refine ops_y (wn rfl) rfl (y_load_box 0 Try.isAgg3 rfl rfl rfl) ?_
  obtain ⟨r2, hr3, h⟩ := bind_some h
  refine ops_t (wn rfl) rfl (t_call (vs := [.int .i64 b_0.Cap, .int .i64 0, .int .i64 1073741824]) (cs := []) [] rfl Try.call29 rfl (bucket_within_int_29_ok b_0.Cap 0 1073741824  hr3) shows_nil (.inl rfl)) ?_
  rintro _ _ ⟨_, ⟨rfl, rfl⟩, rfl⟩
  refine ops_y (wn rfl) rfl (y_move rfl) ?_
  obtain ⟨o5, h, ho6⟩ := bindJ_some h
  refine ops_cut 4 Bool (fun σ => [(1, boxP b1 0), (10, .bool σ)]) (fun σ => [box b1 [.int .i64 b_0.Cap, .int .i64 b_0.Num, .int .i64 b_0.Den, .int .i64 b_0.Level, .int .i64 b_0.At]]) (fun σ => o5 = .go σ) (fun L7 hL8 => ?_) ?_
  · refine ops_split 6 r2 rfl (fun hg9 => ?_) (fun hg9 => ?_)
    · replace h := cond_t h hg9
      refine ops_y (wg 3 true 6 rfl rfl rfl rfl) rfl (y_fieldAddr_box (sz := 0) Try.runUnderlying23 rfl Try.sizeOf3 rfl) ?_
      refine ops_y (wg 3 true 6 rfl rfl rfl rfl) rfl (y_load_box 0 Try.isAgg3 rfl rfl rfl) ?_
      obtain ⟨r10, hr11, h⟩ := bind_some h
      refine ops_t (wg 3 true 6 rfl rfl rfl rfl) rfl (t_call (vs := [.int .i64 b_0.Num, .int .i64 0, .int .i64 1048576]) (cs := []) [] rfl Try.call29 rfl (bucket_within_int_29_ok b_0.Num 0 1048576  hr11) shows_nil (.inl rfl)) ?_
      rintro _ _ ⟨_, ⟨rfl, rfl⟩, rfl⟩
      refine ops_y (wn rfl) rfl (y_pick (b := true) rfl rfl) ?_
      refine ops_nil ?_
      obtain rfl := some_eq h
      exact goes_cut hL8 r10 [0] (vcons rfl (vcons rfl (vnil))) (by decide) rfl rfl
    · replace h := cond_f h hg9
      refine ops_no 3 true 6 rfl rfl rfl rfl rfl ?_
      refine ops_no 3 true 6 rfl rfl rfl rfl rfl ?_
      refine ops_no 3 true 6 rfl rfl rfl rfl rfl ?_
      refine ops_y (wn rfl) rfl (y_pick (b := false) rfl rfl) ?_
      refine ops_nil ?_
      obtain rfl := some_eq h
      exact goes_cut hL8 false [0] (vcons rfl (vcons rfl (vnil))) (by decide) rfl rfl
  rintro b4 hj
  obtain rfl : o5 = _ := hj
  replace h := after_go ho6
  clear ho6
  refine ops_y (wn rfl) rfl (y_move rfl) ?_
  obtain ⟨o13, h, ho14⟩ := bindJ_some h
  refine ops_cut 4 Bool (fun σ => [(1, boxP b1 0), (15, .bool σ)]) (fun σ => [box b1 [.int .i64 b_0.Cap, .int .i64 b_0.Num, .int .i64 b_0.Den, .int .i64 b_0.Level, .int .i64 b_0.At]]) (fun σ => o13 = .go σ) (fun L15 hL16 => ?_) ?_
  · refine ops_split 11 b4 rfl (fun hg17 => ?_) (fun hg17 => ?_)
    · replace h := cond_t h hg17
      refine ops_y (wg 8 true 11 rfl rfl rfl rfl) rfl (y_fieldAddr_box (sz := 0) Try.runUnderlying23 rfl Try.sizeOf3 rfl) ?_
      refine ops_y (wg 8 true 11 rfl rfl rfl rfl) rfl (y_load_box 0 Try.isAgg3 rfl rfl rfl) ?_
      obtain ⟨r18, hr19, h⟩ := bind_some h
      refine ops_t (wg 8 true 11 rfl rfl rfl rfl) rfl (t_call (vs := [.int .i64 b_0.Den, .int .i64 1, .int .i64 1048576]) (cs := []) [] rfl Try.call29 rfl (bucket_within_int_29_ok b_0.Den 1 1048576  hr19) shows_nil (.inl rfl)) ?_
      rintro _ _ ⟨_, ⟨rfl, rfl⟩, rfl⟩
      refine ops_y (wn rfl) rfl (y_pick (b := true) rfl rfl) ?_
      refine ops_nil ?_
      obtain rfl := some_eq h
      exact goes_cut hL16 r18 [0] (vcons rfl (vcons rfl (vnil))) (by decide) rfl rfl
    · replace h := cond_f h hg17
      refine ops_no 8 true 11 rfl rfl rfl rfl rfl ?_
      refine ops_no 8 true 11 rfl rfl rfl rfl rfl ?_
      refine ops_no 8 true 11 rfl rfl rfl rfl rfl ?_
      refine ops_y (wn rfl) rfl (y_pick (b := false) rfl rfl) ?_
      refine ops_nil ?_
      obtain rfl := some_eq h
      exact goes_cut hL16 false [0] (vcons rfl (vcons rfl (vnil))) (by decide) rfl rfl
  rintro b12 hj
  obtain rfl : o13 = _ := hj
  replace h := after_go ho14
  clear ho14
  refine ops_y (wn rfl) rfl (y_move rfl) ?_
  obtain ⟨o21, h, ho22⟩ := bindJ_some h
  refine ops_cut 9 Bool (fun σ => [(1, boxP b1 0), (25, .bool σ)]) (fun σ => [box b1 [.int .i64 b_0.Cap, .int .i64 b_0.Num, .int .i64 b_0.Den, .int .i64 b_0.Level, .int .i64 b_0.At]]) (fun σ => o21 = .go σ) (fun L23 hL24 => ?_) ?_
  · refine ops_split 16 b12 rfl (fun hg25 => ?_) (fun hg25 => ?_)
    · replace h := cond_t h hg25
      refine ops_y (wg 13 true 16 rfl rfl rfl rfl) rfl (y_fieldAddr_box (sz := 0) Try.runUnderlying23 rfl Try.sizeOf3 rfl) ?_
      refine ops_y (wg 13 true 16 rfl rfl rfl rfl) rfl (y_load_box 0 Try.isAgg3 rfl rfl rfl) ?_
      refine ops_y (wg 13 true 16 rfl rfl rfl rfl) rfl (y_fieldAddr_box (sz := 0) Try.runUnderlying23 rfl Try.sizeOf3 rfl) ?_
      refine ops_y (wg 13 true 16 rfl rfl rfl rfl) rfl (y_load_box 0 Try.isAgg3 rfl rfl rfl) ?_
      refine ops_y (wg 13 true 16 rfl rfl rfl rfl) rfl (y_fieldAddr_box (sz := 0) Try.runUnderlying23 rfl Try.sizeOf3 rfl) ?_
      refine ops_y (wg 13 true 16 rfl rfl rfl rfl) rfl (y_load_box 0 Try.isAgg3 rfl rfl rfl) ?_
      refine ops_y (wg 13 true 16 rfl rfl rfl rfl) rfl (y_mul rfl rfl) ?_
      obtain ⟨r26, hr27, h⟩ := bind_some h
      refine ops_t (wg 13 true 16 rfl rfl rfl rfl) rfl (t_call (vs := [.int .i64 b_0.Level, .int .i64 0, .int .i64 (IntKind.i64.wrap (b_0.Cap * b_0.Den))]) (cs := []) [] rfl Try.call29 rfl (bucket_within_int_29_ok b_0.Level 0 (IntKind.i64.wrap (b_0.Cap * b_0.Den))  hr27) shows_nil (.inl rfl)) ?_
      rintro _ _ ⟨_, ⟨rfl, rfl⟩, rfl⟩
      refine ops_y (wn rfl) rfl (y_pick (b := true) rfl rfl) ?_
      refine ops_nil ?_
      obtain rfl := some_eq h
      exact goes_cut hL24 r26 [0] (vcons rfl (vcons rfl (vnil))) (by decide) rfl rfl
    · replace h := cond_f h hg25
      refine ops_no 13 true 16 rfl rfl rfl rfl rfl ?_
      refine ops_no 13 true 16 rfl rfl rfl rfl rfl ?_
      refine ops_no 13 true 16 rfl rfl rfl rfl rfl ?_
      refine ops_no 13 true 16 rfl rfl rfl rfl rfl ?_
      refine ops_no 13 true 16 rfl rfl rfl rfl rfl ?_
      refine ops_no 13 true 16 rfl rfl rfl rfl rfl ?_
      refine ops_no 13 true 16 rfl rfl rfl rfl rfl ?_
      refine ops_no 13 true 16 rfl rfl rfl rfl rfl ?_
      refine ops_y (wn rfl) rfl (y_pick (b := false) rfl rfl) ?_
      refine ops_nil ?_
      obtain rfl := some_eq h
      exact goes_cut hL24 false [0] (vcons rfl (vcons rfl (vnil))) (by decide) rfl rfl
  rintro b20 hj
  obtain rfl : o21 = _ := hj
  replace h := after_go ho22
  clear ho22
  refine ops_y (wn rfl) rfl (y_move rfl) ?_
  obtain ⟨o29, h, ho30⟩ := bindJ_some h
  refine ops_cut 4 Bool (fun σ => [(30, .bool σ)]) (fun σ => [box b1 [.int .i64 b_0.Cap, .int .i64 b_0.Num, .int .i64 b_0.Den, .int .i64 b_0.Level, .int .i64 b_0.At]]) (fun σ => o29 = .go σ) (fun L31 hL32 => ?_) ?_
  · refine ops_split 26 b20 rfl (fun hg33 => ?_) (fun hg33 => ?_)
    · replace h := cond_t h hg33
      refine ops_y (wg 23 true 26 rfl rfl rfl rfl) rfl (y_fieldAddr_box (sz := 0) Try.runUnderlying23 rfl Try.sizeOf3 rfl) ?_
      refine ops_y (wg 23 true 26 rfl rfl rfl rfl) rfl (y_load_box 0 Try.isAgg3 rfl rfl rfl) ?_
      obtain ⟨r34, hr35, h⟩ := bind_some h
      refine ops_t (wg 23 true 26 rfl rfl rfl rfl) rfl (t_call (vs := [.int .i64 b_0.At, .int .i64 0, .int .i64 1099511627776]) (cs := []) [] rfl Try.call29 rfl (bucket_within_int_29_ok b_0.At 0 1099511627776  hr35) shows_nil (.inl rfl)) ?_
      rintro _ _ ⟨_, ⟨rfl, rfl⟩, rfl⟩
      refine ops_y (wn rfl) rfl (y_pick (b := true) rfl rfl) ?_
      refine ops_nil ?_
      obtain rfl := some_eq h
      exact goes_cut hL32 r34 [0] (vcons rfl (vnil)) (by decide) rfl rfl
    · replace h := cond_f h hg33
      refine ops_no 23 true 26 rfl rfl rfl rfl rfl ?_
      refine ops_no 23 true 26 rfl rfl rfl rfl rfl ?_
      refine ops_no 23 true 26 rfl rfl rfl rfl rfl ?_
      refine ops_y (wn rfl) rfl (y_pick (b := false) rfl rfl) ?_
      refine ops_nil ?_
      obtain rfl := some_eq h
      exact goes_cut hL32 false [0] (vcons rfl (vnil)) (by decide) rfl rfl
  rintro b28 hj
  obtain rfl : o29 = _ := hj
  replace h := after_go ho30
  clear ho30
  refine ops_y (wn rfl) rfl (y_assign rfl) ?_
  refine ops_nil ?_
  refine goes_code ?_
  refine run_ret ?_
  obtain rfl := some_eq h
  refine fin_slots [2] [.bool b28] [] [] Try.results20 rfl (by decide) rfl ?_
  exact ⟨rfl, rfl⟩

def bucket_valid (b_0 : S_api_Bucket) : Option (S_api_Bucket × Int) :=
  (bucket_Valid b_0).bind fun r3 =>
  cond (!r3)
    (some ((S_api_Bucket.mk 0 0 0 0 0), 1))
    (some (b_0, 0))
theorem bucket_valid_ok (b_0 : S_api_Bucket)  {r : S_api_Bucket × Int} (h : bucket_valid b_0 = some r) :
    Meets Try.prog 30 [.agg #[.int .i64 b_0.Cap, .int .i64 b_0.Num, .int .i64 b_0.Den, .int .i64 b_0.Level, .int .i64 b_0.At]] [] (fun v G => v = .tuple #[.agg #[.int .i64 r.1.Cap, .int .i64 r.1.Num, .int .i64 r.1.Den, .int .i64 r.1.Level, .int .i64 r.1.At], .int .i64 r.2] ∧ G = []) := by
  refine fn_of_run Try.func30 rfl Try.ntmps30 rfl (fun w0 o0 => ?_)
  refine run_seq ?_
  refine run_region' ?_
  refine ops_t (wn rfl) rfl (t_box rfl) ?_
  rintro _ _ ⟨b1, rfl, rfl⟩
  refine ops_t (wn rfl) rfl (t_alloc Try.zeroValue23) ?_
  rintro _ _ ⟨b2, rfl, rfl⟩
  refine ops_y (wn rfl) rfl (y_assign rfl) ?_
  refine ops_nil ?_
  refine goes_code ?_
  refine run_seq ?_
  refine run_seq ?_
  refine run_region' ?_
  refine ops_y (wn rfl) rfl (y_load_boxagg (c := [.int .i64 b_0.Cap, .int .i64 b_0.Num, .int .i64 b_0.Den, .int .i64 b_0.Level, .int .i64 b_0.At]) 0 Try.isAgg23 Try.sizeOf23 rfl rfl rfl) ?_
  obtain ⟨r3, hr4, h⟩ := bind_some h
  refine ops_t (wn rfl) rfl (t_call (vs := [.agg #[.int .i64 b_0.Cap, .int .i64 b_0.Num, .int .i64 b_0.Den, .int .i64 b_0.Level, .int .i64 b_0.At]]) (cs := []) [] rfl Try.call20 rfl (bucket_Valid_ok b_0  hr4) shows_nil (.inl rfl)) ?_
  rintro _ _ ⟨_, ⟨rfl, rfl⟩, rfl⟩
  refine ops_y (wn rfl) rfl (y_not rfl) ?_
  refine ops_nil ?_
  refine goes_code ?_
  refine run_cond (!r3) rfl (fun hc5 => ?_) (fun hc5 => ?_)
  · replace h := cond_t h hc5
    refine run_seq ?_
    refine run_region' ?_
    refine ops_y (wn rfl) rfl (y_build_struct (cells := #[.int .i64 0, .int .i64 0, .int .i64 0, .int .i64 0, .int .i64 0]) [] [] Try.zeroValue23 Try.runUnderlying23 (fs_cons Try.sizeOf3 (fs_cons Try.sizeOf3 (fs_cons Try.sizeOf3 (fs_cons Try.sizeOf3 (fs_cons Try.sizeOf3 fs_nil))))) rfl rfl rfl) ?_
    refine ops_t (wn rfl) rfl (t_store 1 Try.sizeOf23 rfl rfl rfl rfl (by simp [Value.cells]) (by simp [Value.cells, Value.oneCell'])) ?_
    rintro _ _ ⟨rfl, rfl⟩
    refine ops_turn (retell 1 (g := box b2 [.int .i64 0, .int .i64 0, .int .i64 0, .int .i64 0, .int .i64 0]) rfl rfl) ?_
    refine ops_y (wn rfl) rfl (y_assign rfl) ?_
    refine ops_nil ?_
    refine goes_code ?_
    refine run_ret ?_
    obtain rfl := some_eq h
    refine fin_res [.cell 2 23, .tmp 3] [.agg #[.int .i64 0, .int .i64 0, .int .i64 0, .int .i64 0, .int .i64 0], .int .i64 1] [] [] Try.results30 rfl (rescons (res_box 1 Try.isAgg23 Try.sizeOf23 rfl rfl rfl) (rescons (res_tmp rfl) resnil)) (by decide) rfl ?_
    exact ⟨rfl, rfl⟩
  · replace h := cond_f h hc5
    refine run_skip ?_
    refine goes_code ?_
    refine run_seq ?_
    refine run_region' ?_
    refine ops_y (wn rfl) rfl (y_load_boxagg (c := [.int .i64 b_0.Cap, .int .i64 b_0.Num, .int .i64 b_0.Den, .int .i64 b_0.Level, .int .i64 b_0.At]) 0 Try.isAgg23 Try.sizeOf23 rfl rfl rfl) ?_
    refine ops_t (wn rfl) rfl (t_store 1 Try.sizeOf23 rfl rfl rfl rfl (by simp [Value.cells]) (by simp [Value.cells, Value.oneCell'])) ?_
    rintro _ _ ⟨rfl, rfl⟩
    refine ops_turn (retell 1 (g := box b2 [.int .i64 b_0.Cap, .int .i64 b_0.Num, .int .i64 b_0.Den, .int .i64 b_0.Level, .int .i64 b_0.At]) rfl rfl) ?_
    refine ops_y (wn rfl) rfl (y_assign rfl) ?_
    refine ops_nil ?_
    refine goes_code ?_
    refine run_ret ?_
    obtain rfl := some_eq h
    refine fin_res [.cell 2 23, .tmp 3] [.agg #[.int .i64 b_0.Cap, .int .i64 b_0.Num, .int .i64 b_0.Den, .int .i64 b_0.Level, .int .i64 b_0.At], .int .i64 0] [] [] Try.results30 rfl (rescons (res_box 1 Try.isAgg23 Try.sizeOf23 rfl rfl rfl) (rescons (res_tmp rfl) resnil)) (by decide) rfl ?_
    exact ⟨rfl, rfl⟩

def bucket_New (cap_0 : Int) (num_1 : Int) (den_2 : Int) (at_3 : Int) : Option (S_api_Bucket × Int) :=
  (bucket_within_int_29 cap_0 0 1073741824).bind fun r2 =>
  bindJ (S := Bool)
    (cond (!r2)
      (some (.go true))
      ((bucket_within_int_29 den_2 1 1048576).bind fun r10 =>
      some (.go (!r10))))
  (fun b4 =>
    cond b4
      (some ((S_api_Bucket.mk 0 0 0 0 0), 1))
      ((bucket_valid (S_api_Bucket.mk cap_0 num_1 den_2 (IntKind.i64.wrap (cap_0 * den_2)) at_3)).bind fun r13 =>
      some (r13.1, r13.2)))
theorem bucket_New_ok (cap_0 : Int) (num_1 : Int) (den_2 : Int) (at_3 : Int)  {r : S_api_Bucket × Int} (h : bucket_New cap_0 num_1 den_2 at_3 = some r) :
    Meets Try.prog 9 [.int .i64 cap_0, .int .i64 num_1, .int .i64 den_2, .int .i64 at_3] [] (fun v G => v = .tuple #[.agg #[.int .i64 r.1.Cap, .int .i64 r.1.Num, .int .i64 r.1.Den, .int .i64 r.1.Level, .int .i64 r.1.At], .int .i64 r.2] ∧ G = []) := by
  refine fn_of_run Try.func9 rfl Try.ntmps9 rfl (fun w0 o0 => ?_)
  refine run_seq ?_
  refine run_region' ?_
  refine ops_t (wn rfl) rfl (t_alloc Try.zeroValue23) ?_
  rintro _ _ ⟨b1, rfl, rfl⟩
  refine ops_y (wn rfl) rfl (y_assign rfl) ?_
  refine ops_nil ?_
  refine goes_code ?_
  refine run_seq ?_
  refine run_seq ?_
  refine run_region' ?_
  refine ops_y (wn rfl) rfl (y_move rfl) ?_
  obtain ⟨r2, hr3, h⟩ := bind_some h
  refine ops_t (wn rfl) rfl (t_call (vs := [.int .i64 cap_0, .int .i64 0, .int .i64 1073741824]) (cs := []) [] rfl Try.call29 rfl (bucket_within_int_29_ok cap_0 0 1073741824  hr3) shows_nil (.inl rfl)) ?_
  rintro _ _ ⟨_, ⟨rfl, rfl⟩, rfl⟩
  refine ops_y (wn rfl) rfl (y_not rfl) ?_
  refine ops_y (wn rfl) rfl (y_move rfl) ?_
  obtain ⟨o5, h, ho6⟩ := bindJ_some h
  refine ops_cut 4 Bool (fun σ => [(0, .int .i64 cap_0), (1, .int .i64 num_1), (2, .int .i64 den_2), (3, .int .i64 at_3), (8, boxP b1 0), (17, .bool σ)]) (fun σ => [box b1 [.int .i64 0, .int .i64 0, .int .i64 0, .int .i64 0, .int .i64 0]]) (fun σ => o5 = .go σ) (fun L7 hL8 => ?_) ?_
  · refine ops_split 13 (!r2) rfl (fun hg9 => ?_) (fun hg9 => ?_)
    · replace h := cond_t h hg9
      refine ops_no 3 false 13 rfl rfl rfl rfl rfl ?_
      refine ops_no 3 false 13 rfl rfl rfl rfl rfl ?_
      refine ops_no 3 false 13 rfl rfl rfl rfl rfl ?_
      refine ops_y (wn rfl) rfl (y_pick (b := true) rfl rfl) ?_
      refine ops_nil ?_
      obtain rfl := some_eq h
      exact goes_cut hL8 true [0] (vcons rfl (vcons rfl (vcons rfl (vcons rfl (vcons rfl (vcons rfl (vnil))))))) (by decide) rfl rfl
    · replace h := cond_f h hg9
      refine ops_y (wg 3 false 13 rfl rfl rfl rfl) rfl (y_move rfl) ?_
      obtain ⟨r10, hr11, h⟩ := bind_some h
      refine ops_t (wg 3 false 13 rfl rfl rfl rfl) rfl (t_call (vs := [.int .i64 den_2, .int .i64 1, .int .i64 1048576]) (cs := []) [] rfl Try.call29 rfl (bucket_within_int_29_ok den_2 1 1048576  hr11) shows_nil (.inl rfl)) ?_
      rintro _ _ ⟨_, ⟨rfl, rfl⟩, rfl⟩
      refine ops_y (wg 3 false 13 rfl rfl rfl rfl) rfl (y_not rfl) ?_
      refine ops_y (wn rfl) rfl (y_pick (b := false) rfl rfl) ?_
      refine ops_nil ?_
      obtain rfl := some_eq h
      exact goes_cut hL8 (!r10) [0] (vcons rfl (vcons rfl (vcons rfl (vcons rfl (vcons rfl (vcons rfl (vnil))))))) (by decide) rfl rfl
  rintro b4 hj
  obtain rfl : o5 = _ := hj
  replace h := after_go ho6
  clear ho6
  refine ops_nil ?_
  refine goes_code ?_
  refine run_cond b4 rfl (fun hc12 => ?_) (fun hc12 => ?_)
  · replace h := cond_t h hc12
    refine run_seq ?_
    refine run_region' ?_
    refine ops_y (wn rfl) rfl (y_build_struct (cells := #[.int .i64 0, .int .i64 0, .int .i64 0, .int .i64 0, .int .i64 0]) [] [] Try.zeroValue23 Try.runUnderlying23 (fs_cons Try.sizeOf3 (fs_cons Try.sizeOf3 (fs_cons Try.sizeOf3 (fs_cons Try.sizeOf3 (fs_cons Try.sizeOf3 fs_nil))))) rfl rfl rfl) ?_
    refine ops_t (wn rfl) rfl (t_store 0 Try.sizeOf23 rfl rfl rfl rfl (by simp [Value.cells]) (by simp [Value.cells, Value.oneCell'])) ?_
    rintro _ _ ⟨rfl, rfl⟩
    refine ops_turn (retell 0 (g := box b1 [.int .i64 0, .int .i64 0, .int .i64 0, .int .i64 0, .int .i64 0]) rfl rfl) ?_
    refine ops_y (wn rfl) rfl (y_assign rfl) ?_
    refine ops_nil ?_
    refine goes_code ?_
    refine run_ret ?_
    obtain rfl := some_eq h
    refine fin_res [.cell 8 23, .tmp 9] [.agg #[.int .i64 0, .int .i64 0, .int .i64 0, .int .i64 0, .int .i64 0], .int .i64 1] [] [] Try.results9 rfl (rescons (res_box 0 Try.isAgg23 Try.sizeOf23 rfl rfl rfl) (rescons (res_tmp rfl) resnil)) (by decide) rfl ?_
    exact ⟨rfl, rfl⟩
  · replace h := cond_f h hc12
    refine run_skip ?_
    refine goes_code ?_
    refine run_seq ?_
    refine run_region' ?_
    refine ops_y (wn rfl) rfl (y_move rfl) ?_
    refine ops_y (wn rfl) rfl (y_move rfl) ?_
    refine ops_y (wn rfl) rfl (y_move rfl) ?_
    refine ops_y (wn rfl) rfl (y_move rfl) ?_
    refine ops_y (wn rfl) rfl (y_move rfl) ?_
    refine ops_y (wn rfl) rfl (y_mul rfl rfl) ?_
    refine ops_y (wn rfl) rfl (y_move rfl) ?_
    refine ops_y (wn rfl) rfl (y_build_struct (cells := #[.int .i64 cap_0, .int .i64 num_1, .int .i64 den_2, .int .i64 (IntKind.i64.wrap (cap_0 * den_2)), .int .i64 at_3]) [(0, .int .i64 cap_0), (1, .int .i64 num_1), (2, .int .i64 den_2), (3, .int .i64 (IntKind.i64.wrap (cap_0 * den_2))), (4, .int .i64 at_3)] [(0, [.int .i64 cap_0]), (1, [.int .i64 num_1]), (2, [.int .i64 den_2]), (3, [.int .i64 (IntKind.i64.wrap (cap_0 * den_2))]), (4, [.int .i64 at_3])] Try.zeroValue23 Try.runUnderlying23 (fs_cons Try.sizeOf3 (fs_cons Try.sizeOf3 (fs_cons Try.sizeOf3 (fs_cons Try.sizeOf3 (fs_cons Try.sizeOf3 fs_nil))))) rfl rfl rfl) ?_
    obtain ⟨r13, hr14, h⟩ := bind_some h
    refine ops_t (wn rfl) rfl (t_call (vs := [.agg #[.int .i64 cap_0, .int .i64 num_1, .int .i64 den_2, .int .i64 (IntKind.i64.wrap (cap_0 * den_2)), .int .i64 at_3]]) (cs := []) [] rfl Try.call30 rfl (bucket_valid_ok (S_api_Bucket.mk cap_0 num_1 den_2 (IntKind.i64.wrap (cap_0 * den_2)) at_3)  hr14) shows_nil (.inl rfl)) ?_
    rintro _ _ ⟨_, ⟨rfl, rfl⟩, rfl⟩
    refine ops_y (wn rfl) rfl (y_extract rfl rfl) ?_
    refine ops_y (wn rfl) rfl (y_extract rfl rfl) ?_
    refine ops_t (wn rfl) rfl (t_store 0 Try.sizeOf23 rfl rfl rfl rfl (by simp [Value.cells]) (by simp [Value.cells, Value.oneCell'])) ?_
    rintro _ _ ⟨rfl, rfl⟩
    refine ops_turn (retell 0 (g := box b1 [.int .i64 r13.1.Cap, .int .i64 r13.1.Num, .int .i64 r13.1.Den, .int .i64 r13.1.Level, .int .i64 r13.1.At]) rfl rfl) ?_
    refine ops_y (wn rfl) rfl (y_assign rfl) ?_
    refine ops_nil ?_
    refine goes_code ?_
    refine run_ret ?_
    obtain rfl := some_eq h
    refine fin_res [.cell 8 23, .tmp 9] [.agg #[.int .i64 r13.1.Cap, .int .i64 r13.1.Num, .int .i64 r13.1.Den, .int .i64 r13.1.Level, .int .i64 r13.1.At], .int .i64 r13.2] [] [] Try.results9 rfl (rescons (res_box 0 Try.isAgg23 Try.sizeOf23 rfl rfl rfl) (rescons (res_tmp rfl) resnil)) (by decide) rfl ?_
    exact ⟨rfl, rfl⟩

def bucket_Refill (b_0 : S_api_Bucket) (t_1 : Int) : Option (S_api_Bucket × Int) :=
  (bucket_Valid b_0).bind fun r3 =>
  cond (!r3)
    (some ((S_api_Bucket.mk 0 0 0 0 0), 1))
    ((bucket_within_int_29 t_1 b_0.At 1099511627776).bind fun r6 =>
    cond (!r6)
      (some ((S_api_Bucket.mk 0 0 0 0 0), 9))
      (some ((S_api_Bucket.mk b_0.Cap b_0.Num b_0.Den (min (IntKind.i64.wrap (b_0.Cap * b_0.Den)) (IntKind.i64.wrap (b_0.Level + (IntKind.i64.wrap (b_0.Num * (IntKind.i64.wrap (t_1 - b_0.At))))))) t_1), 0)))
theorem bucket_Refill_ok (b_0 : S_api_Bucket) (t_1 : Int)  {r : S_api_Bucket × Int} (h : bucket_Refill b_0 t_1 = some r) :
    Meets Try.prog 10 [.agg #[.int .i64 b_0.Cap, .int .i64 b_0.Num, .int .i64 b_0.Den, .int .i64 b_0.Level, .int .i64 b_0.At], .int .i64 t_1] [] (fun v G => v = .tuple #[.agg #[.int .i64 r.1.Cap, .int .i64 r.1.Num, .int .i64 r.1.Den, .int .i64 r.1.Level, .int .i64 r.1.At], .int .i64 r.2] ∧ G = []) := by
  refine fn_of_run Try.func10 rfl Try.ntmps10 rfl (fun w0 o0 => ?_)
  refine run_seq ?_
  refine run_region' ?_
  refine ops_t (wn rfl) rfl (t_box rfl) ?_
  rintro _ _ ⟨b1, rfl, rfl⟩
  refine ops_t (wn rfl) rfl (t_alloc Try.zeroValue23) ?_
  rintro _ _ ⟨b2, rfl, rfl⟩
  refine ops_y (wn rfl) rfl (y_assign rfl) ?_
  refine ops_nil ?_
  refine goes_code ?_
  refine run_seq ?_
  refine run_block ?_
  refine run_seq ?_
  refine run_region' ?_
  refine ops_y (wn rfl) rfl (y_load_boxagg (c := [.int .i64 b_0.Cap, .int .i64 b_0.Num, .int .i64 b_0.Den, .int .i64 b_0.Level, .int .i64 b_0.At]) 0 Try.isAgg23 Try.sizeOf23 rfl rfl rfl) ?_
  obtain ⟨r3, hr4, h⟩ := bind_some h
  refine ops_t (wn rfl) rfl (t_call (vs := [.agg #[.int .i64 b_0.Cap, .int .i64 b_0.Num, .int .i64 b_0.Den, .int .i64 b_0.Level, .int .i64 b_0.At]]) (cs := []) [] rfl Try.call20 rfl (bucket_Valid_ok b_0  hr4) shows_nil (.inl rfl)) ?_
  rintro _ _ ⟨_, ⟨rfl, rfl⟩, rfl⟩
  refine ops_y (wn rfl) rfl (y_not rfl) ?_
  refine ops_y (wn rfl) rfl (y_assign rfl) ?_
  refine ops_nil ?_
  refine goes_code ?_
  refine run_cond (!r3) rfl (fun hc5 => ?_) (fun hc5 => ?_)
  · replace h := cond_t h hc5
    refine run_seq ?_
    refine run_region' ?_
    refine ops_y (wn rfl) rfl (y_build_struct (cells := #[.int .i64 0, .int .i64 0, .int .i64 0, .int .i64 0, .int .i64 0]) [] [] Try.zeroValue23 Try.runUnderlying23 (fs_cons Try.sizeOf3 (fs_cons Try.sizeOf3 (fs_cons Try.sizeOf3 (fs_cons Try.sizeOf3 (fs_cons Try.sizeOf3 fs_nil))))) rfl rfl rfl) ?_
    refine ops_t (wn rfl) rfl (t_store 1 Try.sizeOf23 rfl rfl rfl rfl (by simp [Value.cells]) (by simp [Value.cells, Value.oneCell'])) ?_
    rintro _ _ ⟨rfl, rfl⟩
    refine ops_turn (retell 1 (g := box b2 [.int .i64 0, .int .i64 0, .int .i64 0, .int .i64 0, .int .i64 0]) rfl rfl) ?_
    refine ops_y (wn rfl) rfl (y_assign rfl) ?_
    refine ops_nil ?_
    refine goes_code ?_
    refine run_ret ?_
    obtain rfl := some_eq h
    refine fin_res [.cell 4 23, .tmp 5] [.agg #[.int .i64 0, .int .i64 0, .int .i64 0, .int .i64 0, .int .i64 0], .int .i64 1] [] [] Try.results10 rfl (rescons (res_box 1 Try.isAgg23 Try.sizeOf23 rfl rfl rfl) (rescons (res_tmp rfl) resnil)) (by decide) rfl ?_
    exact ⟨rfl, rfl⟩
  · replace h := cond_f h hc5
    refine run_seq ?_
    refine run_region' ?_
    refine ops_y (wn rfl) rfl (y_move rfl) ?_
    refine ops_y (wn rfl) rfl (y_fieldAddr_box (sz := 0) Try.runUnderlying23 rfl Try.sizeOf3 rfl) ?_
    refine ops_y (wn rfl) rfl (y_load_box 0 Try.isAgg3 rfl rfl rfl) ?_
    obtain ⟨r6, hr7, h⟩ := bind_some h
    refine ops_t (wn rfl) rfl (t_call (vs := [.int .i64 t_1, .int .i64 b_0.At, .int .i64 1099511627776]) (cs := []) [] rfl Try.call29 rfl (bucket_within_int_29_ok t_1 b_0.At 1099511627776  hr7) shows_nil (.inl rfl)) ?_
    rintro _ _ ⟨_, ⟨rfl, rfl⟩, rfl⟩
    refine ops_y (wn rfl) rfl (y_not rfl) ?_
    refine ops_y (wn rfl) rfl (y_assign rfl) ?_
    refine ops_nil ?_
    refine goes_code ?_
    refine run_cond (!r6) rfl (fun hc8 => ?_) (fun hc8 => ?_)
    · replace h := cond_t h hc8
      refine run_seq ?_
      refine run_weak [(4, boxP b2 0)] [1] [box b2 [.int .i64 0, .int .i64 0, .int .i64 0, .int .i64 0, .int .i64 0]] (vcons rfl (vnil)) (by decide) rfl ?_
      refine run_region' ?_
      refine ops_y (wn rfl) rfl (y_build_struct (cells := #[.int .i64 0, .int .i64 0, .int .i64 0, .int .i64 0, .int .i64 0]) [] [] Try.zeroValue23 Try.runUnderlying23 (fs_cons Try.sizeOf3 (fs_cons Try.sizeOf3 (fs_cons Try.sizeOf3 (fs_cons Try.sizeOf3 (fs_cons Try.sizeOf3 fs_nil))))) rfl rfl rfl) ?_
      refine ops_t (wn rfl) rfl (t_store 0 Try.sizeOf23 rfl rfl rfl rfl (by simp [Value.cells]) (by simp [Value.cells, Value.oneCell'])) ?_
      rintro _ _ ⟨rfl, rfl⟩
      refine ops_turn (retell 0 (g := box b2 [.int .i64 0, .int .i64 0, .int .i64 0, .int .i64 0, .int .i64 0]) rfl rfl) ?_
      refine ops_y (wn rfl) rfl (y_assign rfl) ?_
      refine ops_nil ?_
      refine goes_code ?_
      refine run_ret ?_
      obtain rfl := some_eq h
      refine fin_res [.cell 4 23, .tmp 5] [.agg #[.int .i64 0, .int .i64 0, .int .i64 0, .int .i64 0, .int .i64 0], .int .i64 9] [] [] Try.results10 rfl (rescons (res_box 0 Try.isAgg23 Try.sizeOf23 rfl rfl rfl) (rescons (res_tmp rfl) resnil)) (by decide) rfl ?_
      exact ⟨rfl, rfl⟩
    · replace h := cond_f h hc8
      refine run_skip ?_
      refine goes_blk ?_
      refine goes_code ?_
      refine run_seq ?_
      refine run_weak [(1, .int .i64 t_1), (2, boxP b1 0), (4, boxP b2 0)] [0, 1] [box b1 [.int .i64 b_0.Cap, .int .i64 b_0.Num, .int .i64 b_0.Den, .int .i64 b_0.Level, .int .i64 b_0.At], box b2 [.int .i64 0, .int .i64 0, .int .i64 0, .int .i64 0, .int .i64 0]] (vcons rfl (vcons rfl (vcons rfl (vnil)))) (by decide) rfl ?_
      refine run_region' ?_
      refine ops_y (wn rfl) rfl (y_fieldAddr_box (sz := 0) Try.runUnderlying23 rfl Try.sizeOf3 rfl) ?_
      refine ops_y (wn rfl) rfl (y_load_box 0 Try.isAgg3 rfl rfl rfl) ?_
      refine ops_y (wn rfl) rfl (y_fieldAddr_box (sz := 0) Try.runUnderlying23 rfl Try.sizeOf3 rfl) ?_
      refine ops_y (wn rfl) rfl (y_load_box 0 Try.isAgg3 rfl rfl rfl) ?_
      refine ops_y (wn rfl) rfl (y_mul rfl rfl) ?_
      refine ops_y (wn rfl) rfl (y_fieldAddr_box (sz := 0) Try.runUnderlying23 rfl Try.sizeOf3 rfl) ?_
      refine ops_y (wn rfl) rfl (y_load_box 0 Try.isAgg3 rfl rfl rfl) ?_
      refine ops_y (wn rfl) rfl (y_fieldAddr_box (sz := 0) Try.runUnderlying23 rfl Try.sizeOf3 rfl) ?_
      refine ops_y (wn rfl) rfl (y_load_box 0 Try.isAgg3 rfl rfl rfl) ?_
      refine ops_y (wn rfl) rfl (y_move rfl) ?_
      refine ops_y (wn rfl) rfl (y_fieldAddr_box (sz := 0) Try.runUnderlying23 rfl Try.sizeOf3 rfl) ?_
      refine ops_y (wn rfl) rfl (y_load_box 0 Try.isAgg3 rfl rfl rfl) ?_
      refine ops_y (wn rfl) rfl (y_sub rfl rfl) ?_
      refine ops_y (wn rfl) rfl (y_mul rfl rfl) ?_
      refine ops_y (wn rfl) rfl (y_add rfl rfl) ?_
      refine ops_y (wn rfl) rfl (y_min rfl rfl) ?_
      refine ops_weak [(1, .int .i64 t_1), (2, boxP b1 0), (4, boxP b2 0), (33, .int .i64 (min (IntKind.i64.wrap (b_0.Cap * b_0.Den)) (IntKind.i64.wrap (b_0.Level + (IntKind.i64.wrap (b_0.Num * (IntKind.i64.wrap (t_1 - b_0.At))))))))] [0, 1] [box b1 [.int .i64 b_0.Cap, .int .i64 b_0.Num, .int .i64 b_0.Den, .int .i64 b_0.Level, .int .i64 b_0.At], box b2 [.int .i64 0, .int .i64 0, .int .i64 0, .int .i64 0, .int .i64 0]] (vcons rfl (vcons rfl (vcons rfl (vcons rfl (vnil))))) (by decide) rfl ?_
      refine ops_y (wn rfl) rfl (y_fieldAddr_box (sz := 0) Try.runUnderlying23 rfl Try.sizeOf3 rfl) ?_
      refine ops_t (wn rfl) rfl (t_store 0 Try.sizeOf3 rfl rfl rfl rfl (by simp [Value.cells]) (by simp [Value.cells, Value.oneCell'])) ?_
      rintro _ _ ⟨rfl, rfl⟩
      refine ops_turn (retell 0 (g := box b1 [.int .i64 b_0.Cap, .int .i64 b_0.Num, .int .i64 b_0.Den, .int .i64 (min (IntKind.i64.wrap (b_0.Cap * b_0.Den)) (IntKind.i64.wrap (b_0.Level + (IntKind.i64.wrap (b_0.Num * (IntKind.i64.wrap (t_1 - b_0.At))))))), .int .i64 b_0.At]) rfl rfl) ?_
      refine ops_nil ?_
      refine goes_code ?_
      refine run_seq ?_
      refine run_region' ?_
      refine ops_y (wn rfl) rfl (y_move rfl) ?_
      refine ops_y (wn rfl) rfl (y_fieldAddr_box (sz := 0) Try.runUnderlying23 rfl Try.sizeOf3 rfl) ?_
      refine ops_t (wn rfl) rfl (t_store 0 Try.sizeOf3 rfl rfl rfl rfl (by simp [Value.cells]) (by simp [Value.cells, Value.oneCell'])) ?_
      rintro _ _ ⟨rfl, rfl⟩
      refine ops_turn (retell 0 (g := box b1 [.int .i64 b_0.Cap, .int .i64 b_0.Num, .int .i64 b_0.Den, .int .i64 (min (IntKind.i64.wrap (b_0.Cap * b_0.Den)) (IntKind.i64.wrap (b_0.Level + (IntKind.i64.wrap (b_0.Num * (IntKind.i64.wrap (t_1 - b_0.At))))))), .int .i64 t_1]) rfl rfl) ?_
      refine ops_nil ?_
      refine goes_code ?_
      refine run_seq ?_
      refine run_region' ?_
      refine ops_y (wn rfl) rfl (y_load_boxagg (c := [.int .i64 b_0.Cap, .int .i64 b_0.Num, .int .i64 b_0.Den, .int .i64 (min (IntKind.i64.wrap (b_0.Cap * b_0.Den)) (IntKind.i64.wrap (b_0.Level + (IntKind.i64.wrap (b_0.Num * (IntKind.i64.wrap (t_1 - b_0.At))))))), .int .i64 t_1]) 0 Try.isAgg23 Try.sizeOf23 rfl rfl rfl) ?_
      refine ops_t (wn rfl) rfl (t_store 1 Try.sizeOf23 rfl rfl rfl rfl (by simp [Value.cells]) (by simp [Value.cells, Value.oneCell'])) ?_
      rintro _ _ ⟨rfl, rfl⟩
      refine ops_turn (retell 1 (g := box b2 [.int .i64 b_0.Cap, .int .i64 b_0.Num, .int .i64 b_0.Den, .int .i64 (min (IntKind.i64.wrap (b_0.Cap * b_0.Den)) (IntKind.i64.wrap (b_0.Level + (IntKind.i64.wrap (b_0.Num * (IntKind.i64.wrap (t_1 - b_0.At))))))), .int .i64 t_1]) rfl rfl) ?_
      refine ops_y (wn rfl) rfl (y_assign rfl) ?_
      refine ops_nil ?_
      refine goes_code ?_
      refine run_ret ?_
      obtain rfl := some_eq h
      refine fin_res [.cell 4 23, .tmp 5] [.agg #[.int .i64 b_0.Cap, .int .i64 b_0.Num, .int .i64 b_0.Den, .int .i64 (min (IntKind.i64.wrap (b_0.Cap * b_0.Den)) (IntKind.i64.wrap (b_0.Level + (IntKind.i64.wrap (b_0.Num * (IntKind.i64.wrap (t_1 - b_0.At))))))), .int .i64 t_1], .int .i64 0] [] [] Try.results10 rfl (rescons (res_box 1 Try.isAgg23 Try.sizeOf23 rfl rfl rfl) (rescons (res_tmp rfl) resnil)) (by decide) rfl ?_
      exact ⟨rfl, rfl⟩

def bucket_Take (b_0 : S_api_Bucket) (t_1 : Int) (n_2 : Int) : Option (S_api_Bucket × Int) :=
  (bucket_Valid b_0).bind fun r3 =>
  bindJ (S := Bool)
    (cond (!r3)
      (some (.go true))
      ((bucket_within_int_29 n_2 1 1073741824).bind fun r11 =>
      some (.go (!r11))))
  (fun b5 =>
    cond b5
      (some ((S_api_Bucket.mk 0 0 0 0 0), 1))
      ((bucket_Refill b_0 t_1).bind fun r14 =>
      cond (decide (r14.2 ≠ 0))
        (some ((S_api_Bucket.mk 0 0 0 0 0), r14.2))
        (cond (decide ((IntKind.i64.wrap (r14.1.Level - (IntKind.i64.wrap (n_2 * r14.1.Den)))) < 0))
          (some ((S_api_Bucket.mk 0 0 0 0 0), 4))
          (some ((S_api_Bucket.mk r14.1.Cap r14.1.Num r14.1.Den (IntKind.i64.wrap (r14.1.Level - (IntKind.i64.wrap (n_2 * r14.1.Den)))) r14.1.At), 0)))))
theorem bucket_Take_ok (b_0 : S_api_Bucket) (t_1 : Int) (n_2 : Int)  {r : S_api_Bucket × Int} (h : bucket_Take b_0 t_1 n_2 = some r) :
    Meets Try.prog 11 [.agg #[.int .i64 b_0.Cap, .int .i64 b_0.Num, .int .i64 b_0.Den, .int .i64 b_0.Level, .int .i64 b_0.At], .int .i64 t_1, .int .i64 n_2] [] (fun v G => v = .tuple #[.agg #[.int .i64 r.1.Cap, .int .i64 r.1.Num, .int .i64 r.1.Den, .int .i64 r.1.Level, .int .i64 r.1.At], .int .i64 r.2] ∧ G = []) := by
  refine fn_of_run Try.func11 rfl Try.ntmps11 rfl (fun w0 o0 => ?_)
  refine run_seq ?_
  refine run_region' ?_
  refine ops_t (wn rfl) rfl (t_box rfl) ?_
  rintro _ _ ⟨b1, rfl, rfl⟩
  refine ops_t (wn rfl) rfl (t_alloc Try.zeroValue23) ?_
  rintro _ _ ⟨b2, rfl, rfl⟩
  refine ops_y (wn rfl) rfl (y_assign rfl) ?_
  refine ops_nil ?_
  refine goes_code ?_
  refine run_seq ?_
  refine run_seq ?_
  refine run_region' ?_
  refine ops_y (wn rfl) rfl (y_load_boxagg (c := [.int .i64 b_0.Cap, .int .i64 b_0.Num, .int .i64 b_0.Den, .int .i64 b_0.Level, .int .i64 b_0.At]) 0 Try.isAgg23 Try.sizeOf23 rfl rfl rfl) ?_
  obtain ⟨r3, hr4, h⟩ := bind_some h
  refine ops_t (wn rfl) rfl (t_call (vs := [.agg #[.int .i64 b_0.Cap, .int .i64 b_0.Num, .int .i64 b_0.Den, .int .i64 b_0.Level, .int .i64 b_0.At]]) (cs := []) [] rfl Try.call20 rfl (bucket_Valid_ok b_0  hr4) shows_nil (.inl rfl)) ?_
  rintro _ _ ⟨_, ⟨rfl, rfl⟩, rfl⟩
  refine ops_y (wn rfl) rfl (y_not rfl) ?_
  refine ops_y (wn rfl) rfl (y_move rfl) ?_
  obtain ⟨o6, h, ho7⟩ := bindJ_some h
  refine ops_cut 4 Bool (fun σ => [(1, .int .i64 t_1), (2, .int .i64 n_2), (3, boxP b1 0), (6, boxP b2 0), (17, .bool σ)]) (fun σ => [box b1 [.int .i64 b_0.Cap, .int .i64 b_0.Num, .int .i64 b_0.Den, .int .i64 b_0.Level, .int .i64 b_0.At], box b2 [.int .i64 0, .int .i64 0, .int .i64 0, .int .i64 0, .int .i64 0]]) (fun σ => o6 = .go σ) (fun L8 hL9 => ?_) ?_
  · refine ops_split 13 (!r3) rfl (fun hg10 => ?_) (fun hg10 => ?_)
    · replace h := cond_t h hg10
      refine ops_no 3 false 13 rfl rfl rfl rfl rfl ?_
      refine ops_no 3 false 13 rfl rfl rfl rfl rfl ?_
      refine ops_no 3 false 13 rfl rfl rfl rfl rfl ?_
      refine ops_y (wn rfl) rfl (y_pick (b := true) rfl rfl) ?_
      refine ops_nil ?_
      obtain rfl := some_eq h
      exact goes_cut hL9 true [0, 1] (vcons rfl (vcons rfl (vcons rfl (vcons rfl (vcons rfl (vnil)))))) (by decide) rfl rfl
    · replace h := cond_f h hg10
      refine ops_y (wg 3 false 13 rfl rfl rfl rfl) rfl (y_move rfl) ?_
      obtain ⟨r11, hr12, h⟩ := bind_some h
      refine ops_t (wg 3 false 13 rfl rfl rfl rfl) rfl (t_call (vs := [.int .i64 n_2, .int .i64 1, .int .i64 1073741824]) (cs := []) [] rfl Try.call29 rfl (bucket_within_int_29_ok n_2 1 1073741824  hr12) shows_nil (.inl rfl)) ?_
      rintro _ _ ⟨_, ⟨rfl, rfl⟩, rfl⟩
      refine ops_y (wg 3 false 13 rfl rfl rfl rfl) rfl (y_not rfl) ?_
      refine ops_y (wn rfl) rfl (y_pick (b := false) rfl rfl) ?_
      refine ops_nil ?_
      obtain rfl := some_eq h
      exact goes_cut hL9 (!r11) [0, 1] (vcons rfl (vcons rfl (vcons rfl (vcons rfl (vcons rfl (vnil)))))) (by decide) rfl rfl
  rintro b5 hj
  obtain rfl : o6 = _ := hj
  replace h := after_go ho7
  clear ho7
  refine ops_nil ?_
  refine goes_code ?_
  refine run_cond b5 rfl (fun hc13 => ?_) (fun hc13 => ?_)
  · replace h := cond_t h hc13
    refine run_seq ?_
    refine run_region' ?_
    refine ops_y (wn rfl) rfl (y_build_struct (cells := #[.int .i64 0, .int .i64 0, .int .i64 0, .int .i64 0, .int .i64 0]) [] [] Try.zeroValue23 Try.runUnderlying23 (fs_cons Try.sizeOf3 (fs_cons Try.sizeOf3 (fs_cons Try.sizeOf3 (fs_cons Try.sizeOf3 (fs_cons Try.sizeOf3 fs_nil))))) rfl rfl rfl) ?_
    refine ops_t (wn rfl) rfl (t_store 1 Try.sizeOf23 rfl rfl rfl rfl (by simp [Value.cells]) (by simp [Value.cells, Value.oneCell'])) ?_
    rintro _ _ ⟨rfl, rfl⟩
    refine ops_turn (retell 1 (g := box b2 [.int .i64 0, .int .i64 0, .int .i64 0, .int .i64 0, .int .i64 0]) rfl rfl) ?_
    refine ops_y (wn rfl) rfl (y_assign rfl) ?_
    refine ops_nil ?_
    refine goes_code ?_
    refine run_ret ?_
    obtain rfl := some_eq h
    refine fin_res [.cell 6 23, .tmp 7] [.agg #[.int .i64 0, .int .i64 0, .int .i64 0, .int .i64 0, .int .i64 0], .int .i64 1] [] [] Try.results11 rfl (rescons (res_box 1 Try.isAgg23 Try.sizeOf23 rfl rfl rfl) (rescons (res_tmp rfl) resnil)) (by decide) rfl ?_
    exact ⟨rfl, rfl⟩
  · replace h := cond_f h hc13
    refine run_skip ?_
    refine goes_code ?_
    refine run_seq ?_
    refine run_region' ?_
    refine ops_y (wn rfl) rfl (y_load_boxagg (c := [.int .i64 b_0.Cap, .int .i64 b_0.Num, .int .i64 b_0.Den, .int .i64 b_0.Level, .int .i64 b_0.At]) 0 Try.isAgg23 Try.sizeOf23 rfl rfl rfl) ?_
    refine ops_y (wn rfl) rfl (y_move rfl) ?_
    obtain ⟨r14, hr15, h⟩ := bind_some h
    refine ops_t (wn rfl) rfl (t_call (vs := [.agg #[.int .i64 b_0.Cap, .int .i64 b_0.Num, .int .i64 b_0.Den, .int .i64 b_0.Level, .int .i64 b_0.At], .int .i64 t_1]) (cs := []) [] rfl Try.call10 rfl (bucket_Refill_ok b_0 t_1  hr15) shows_nil (.inl rfl)) ?_
    rintro _ _ ⟨_, ⟨rfl, rfl⟩, rfl⟩
    refine ops_y (wn rfl) rfl (y_move rfl) ?_
    refine ops_y (wn rfl) rfl (y_extract rfl rfl) ?_
    refine ops_y (wn rfl) rfl (y_extract rfl rfl) ?_
    refine ops_t (wn rfl) rfl (t_alloc Try.zeroValue23) ?_
    rintro _ _ ⟨b16, rfl, rfl⟩
    refine ops_t (wn rfl) rfl (t_store 2 Try.sizeOf23 rfl rfl rfl rfl (by simp [Value.cells]) (by simp [Value.cells, Value.oneCell'])) ?_
    rintro _ _ ⟨rfl, rfl⟩
    refine ops_turn (retell 2 (g := box b16 [.int .i64 r14.1.Cap, .int .i64 r14.1.Num, .int .i64 r14.1.Den, .int .i64 r14.1.Level, .int .i64 r14.1.At]) rfl rfl) ?_
    refine ops_y (wn rfl) rfl (y_assign rfl) ?_
    refine ops_nil ?_
    refine goes_code ?_
    refine run_seq ?_
    refine run_seq ?_
    refine run_weak [(2, .int .i64 n_2), (6, boxP b2 0), (8, boxP b16 0), (9, .int .i64 r14.2)] [1, 2] [box b2 [.int .i64 0, .int .i64 0, .int .i64 0, .int .i64 0, .int .i64 0], box b16 [.int .i64 r14.1.Cap, .int .i64 r14.1.Num, .int .i64 r14.1.Den, .int .i64 r14.1.Level, .int .i64 r14.1.At]] (vcons rfl (vcons rfl (vcons rfl (vcons rfl (vnil))))) (by decide) rfl ?_
    refine run_region' ?_
    refine ops_y (wn rfl) rfl (y_move rfl) ?_
    refine ops_y (wn rfl) rfl (y_neq rfl rfl) ?_
    refine ops_nil ?_
    refine goes_code ?_
    refine run_cond (decide (r14.2 ≠ 0)) rfl (fun hc17 => ?_) (fun hc17 => ?_)
    · replace h := cond_t h hc17
      refine run_seq ?_
      refine run_region' ?_
      refine ops_y (wn rfl) rfl (y_build_struct (cells := #[.int .i64 0, .int .i64 0, .int .i64 0, .int .i64 0, .int .i64 0]) [] [] Try.zeroValue23 Try.runUnderlying23 (fs_cons Try.sizeOf3 (fs_cons Try.sizeOf3 (fs_cons Try.sizeOf3 (fs_cons Try.sizeOf3 (fs_cons Try.sizeOf3 fs_nil))))) rfl rfl rfl) ?_
      refine ops_y (wn rfl) rfl (y_move rfl) ?_
      refine ops_t (wn rfl) rfl (t_store 0 Try.sizeOf23 rfl rfl rfl rfl (by simp [Value.cells]) (by simp [Value.cells, Value.oneCell'])) ?_
      rintro _ _ ⟨rfl, rfl⟩
      refine ops_turn (retell 0 (g := box b2 [.int .i64 0, .int .i64 0, .int .i64 0, .int .i64 0, .int .i64 0]) rfl rfl) ?_
      refine ops_y (wn rfl) rfl (y_assign rfl) ?_
      refine ops_nil ?_
      refine goes_code ?_
      refine run_ret ?_
      obtain rfl := some_eq h
      refine fin_res [.cell 6 23, .tmp 7] [.agg #[.int .i64 0, .int .i64 0, .int .i64 0, .int .i64 0, .int .i64 0], .int .i64 r14.2] [] [] Try.results11 rfl (rescons (res_box 0 Try.isAgg23 Try.sizeOf23 rfl rfl rfl) (rescons (res_tmp rfl) resnil)) (by decide) rfl ?_
      exact ⟨rfl, rfl⟩
    · replace h := cond_f h hc17
      refine run_skip ?_
      refine goes_code ?_
      refine run_seq ?_
      refine run_seq ?_
      refine run_region' ?_
      refine ops_y (wn rfl) rfl (y_fieldAddr_box (sz := 0) Try.runUnderlying23 rfl Try.sizeOf3 rfl) ?_
      refine ops_y (wn rfl) rfl (y_load_box 1 Try.isAgg3 rfl rfl rfl) ?_
      refine ops_y (wn rfl) rfl (y_move rfl) ?_
      refine ops_y (wn rfl) rfl (y_fieldAddr_box (sz := 0) Try.runUnderlying23 rfl Try.sizeOf3 rfl) ?_
      refine ops_y (wn rfl) rfl (y_load_box 1 Try.isAgg3 rfl rfl rfl) ?_
      refine ops_y (wn rfl) rfl (y_mul rfl rfl) ?_
      refine ops_y (wn rfl) rfl (y_sub rfl rfl) ?_
      refine ops_y (wn rfl) rfl (y_fieldAddr_box (sz := 0) Try.runUnderlying23 rfl Try.sizeOf3 rfl) ?_
      refine ops_t (wn rfl) rfl (t_store 1 Try.sizeOf3 rfl rfl rfl rfl (by simp [Value.cells]) (by simp [Value.cells, Value.oneCell'])) ?_
      rintro _ _ ⟨rfl, rfl⟩
      refine ops_turn (retell 1 (g := box b16 [.int .i64 r14.1.Cap, .int .i64 r14.1.Num, .int .i64 r14.1.Den, .int .i64 (IntKind.i64.wrap (r14.1.Level - (IntKind.i64.wrap (n_2 * r14.1.Den)))), .int .i64 r14.1.At]) rfl rfl) ?_
      refine ops_nil ?_
      refine goes_code ?_
      refine run_seq ?_
      refine run_weak [(6, boxP b2 0), (8, boxP b16 0)] [0, 1] [box b2 [.int .i64 0, .int .i64 0, .int .i64 0, .int .i64 0, .int .i64 0], box b16 [.int .i64 r14.1.Cap, .int .i64 r14.1.Num, .int .i64 r14.1.Den, .int .i64 (IntKind.i64.wrap (r14.1.Level - (IntKind.i64.wrap (n_2 * r14.1.Den)))), .int .i64 r14.1.At]] (vcons rfl (vcons rfl (vnil))) (by decide) rfl ?_
      refine run_region' ?_
      refine ops_y (wn rfl) rfl (y_fieldAddr_box (sz := 0) Try.runUnderlying23 rfl Try.sizeOf3 rfl) ?_
      refine ops_y (wn rfl) rfl (y_load_box 1 Try.isAgg3 rfl rfl rfl) ?_
      refine ops_y (wn rfl) rfl (y_lss rfl rfl) ?_
      refine ops_nil ?_
      refine goes_code ?_
      refine run_cond (decide ((IntKind.i64.wrap (r14.1.Level - (IntKind.i64.wrap (n_2 * r14.1.Den)))) < 0)) rfl (fun hc18 => ?_) (fun hc18 => ?_)
      · replace h := cond_t h hc18
        refine run_seq ?_
        refine run_region' ?_
        refine ops_y (wn rfl) rfl (y_build_struct (cells := #[.int .i64 0, .int .i64 0, .int .i64 0, .int .i64 0, .int .i64 0]) [] [] Try.zeroValue23 Try.runUnderlying23 (fs_cons Try.sizeOf3 (fs_cons Try.sizeOf3 (fs_cons Try.sizeOf3 (fs_cons Try.sizeOf3 (fs_cons Try.sizeOf3 fs_nil))))) rfl rfl rfl) ?_
        refine ops_t (wn rfl) rfl (t_store 0 Try.sizeOf23 rfl rfl rfl rfl (by simp [Value.cells]) (by simp [Value.cells, Value.oneCell'])) ?_
        rintro _ _ ⟨rfl, rfl⟩
        refine ops_turn (retell 0 (g := box b2 [.int .i64 0, .int .i64 0, .int .i64 0, .int .i64 0, .int .i64 0]) rfl rfl) ?_
        refine ops_y (wn rfl) rfl (y_assign rfl) ?_
        refine ops_nil ?_
        refine goes_code ?_
        refine run_ret ?_
        obtain rfl := some_eq h
        refine fin_res [.cell 6 23, .tmp 7] [.agg #[.int .i64 0, .int .i64 0, .int .i64 0, .int .i64 0, .int .i64 0], .int .i64 4] [] [] Try.results11 rfl (rescons (res_box 0 Try.isAgg23 Try.sizeOf23 rfl rfl rfl) (rescons (res_tmp rfl) resnil)) (by decide) rfl ?_
        exact ⟨rfl, rfl⟩
      · replace h := cond_f h hc18
        refine run_skip ?_
        refine goes_code ?_
        refine run_seq ?_
        refine run_region' ?_
        refine ops_y (wn rfl) rfl (y_load_boxagg (c := [.int .i64 r14.1.Cap, .int .i64 r14.1.Num, .int .i64 r14.1.Den, .int .i64 (IntKind.i64.wrap (r14.1.Level - (IntKind.i64.wrap (n_2 * r14.1.Den)))), .int .i64 r14.1.At]) 1 Try.isAgg23 Try.sizeOf23 rfl rfl rfl) ?_
        refine ops_t (wn rfl) rfl (t_store 0 Try.sizeOf23 rfl rfl rfl rfl (by simp [Value.cells]) (by simp [Value.cells, Value.oneCell'])) ?_
        rintro _ _ ⟨rfl, rfl⟩
        refine ops_turn (retell 0 (g := box b2 [.int .i64 r14.1.Cap, .int .i64 r14.1.Num, .int .i64 r14.1.Den, .int .i64 (IntKind.i64.wrap (r14.1.Level - (IntKind.i64.wrap (n_2 * r14.1.Den)))), .int .i64 r14.1.At]) rfl rfl) ?_
        refine ops_y (wn rfl) rfl (y_assign rfl) ?_
        refine ops_nil ?_
        refine goes_code ?_
        refine run_ret ?_
        obtain rfl := some_eq h
        refine fin_res [.cell 6 23, .tmp 7] [.agg #[.int .i64 r14.1.Cap, .int .i64 r14.1.Num, .int .i64 r14.1.Den, .int .i64 (IntKind.i64.wrap (r14.1.Level - (IntKind.i64.wrap (n_2 * r14.1.Den)))), .int .i64 r14.1.At], .int .i64 0] [] [] Try.results11 rfl (rescons (res_box 0 Try.isAgg23 Try.sizeOf23 rfl rfl rfl) (rescons (res_tmp rfl) resnil)) (by decide) rfl ?_
        exact ⟨rfl, rfl⟩

def bucket_Wait (b_0 : S_api_Bucket) (n_1 : Int) : Option (Int × Int) :=
  (bucket_Valid b_0).bind fun r2 =>
  bindJ (S := Bool)
    (cond (!r2)
      (some (.go true))
      ((bucket_within_int_29 n_1 1 1073741824).bind fun r10 =>
      some (.go (!r10))))
  (fun b4 =>
    cond b4
      (some (0, 1))
      (cond (decide (b_0.Cap < n_1))
        (some (0, 2))
        (cond (decide ((IntKind.i64.wrap ((IntKind.i64.wrap (n_1 * b_0.Den)) - b_0.Level)) ≤ 0))
          (some (b_0.At, 0))
          (cond (decide (b_0.Num = 0) || decide ((IntKind.i64.wrap (b_0.Num * (IntKind.i64.wrap (1099511627776 - b_0.At)))) < (IntKind.i64.wrap ((IntKind.i64.wrap (n_1 * b_0.Den)) - b_0.Level))))
            (some (0, 4))
            (need (b_0.Num ≠ 0) (
            some ((IntKind.i64.wrap ((IntKind.i64.wrap (b_0.At + (IntKind.i64.wrap ((IntKind.i64.wrap ((IntKind.i64.wrap ((IntKind.i64.wrap (n_1 * b_0.Den)) - b_0.Level)) - 1)).tdiv b_0.Num)))) + 1)), 0)))))))
theorem bucket_Wait_ok (b_0 : S_api_Bucket) (n_1 : Int)  {r : Int × Int} (h : bucket_Wait b_0 n_1 = some r) :
    Meets Try.prog 12 [.agg #[.int .i64 b_0.Cap, .int .i64 b_0.Num, .int .i64 b_0.Den, .int .i64 b_0.Level, .int .i64 b_0.At], .int .i64 n_1] [] (fun v G => v = .tuple #[.int .i64 r.1, .int .i64 r.2] ∧ G = []) := by
  refine fn_of_run Try.func12 rfl Try.ntmps12 rfl (fun w0 o0 => ?_)
  refine run_seq ?_
  refine run_region' ?_
  refine ops_t (wn rfl) rfl (t_box rfl) ?_
  rintro _ _ ⟨b1, rfl, rfl⟩
  refine ops_y (wn rfl) rfl (y_assign rfl) ?_
  refine ops_y (wn rfl) rfl (y_assign rfl) ?_
  refine ops_nil ?_
  refine goes_code ?_
  refine run_seq ?_
  refine run_seq ?_
  refine run_region' ?_
  refine ops_y (wn rfl) rfl (y_load_boxagg (c := [.int .i64 b_0.Cap, .int .i64 b_0.Num, .int .i64 b_0.Den, .int .i64 b_0.Level, .int .i64 b_0.At]) 0 Try.isAgg23 Try.sizeOf23 rfl rfl rfl) ?_
  obtain ⟨r2, hr3, h⟩ := bind_some h
  refine ops_t (wn rfl) rfl (t_call (vs := [.agg #[.int .i64 b_0.Cap, .int .i64 b_0.Num, .int .i64 b_0.Den, .int .i64 b_0.Level, .int .i64 b_0.At]]) (cs := []) [] rfl Try.call20 rfl (bucket_Valid_ok b_0  hr3) shows_nil (.inl rfl)) ?_
  rintro _ _ ⟨_, ⟨rfl, rfl⟩, rfl⟩
  refine ops_y (wn rfl) rfl (y_not rfl) ?_
  refine ops_y (wn rfl) rfl (y_move rfl) ?_
  obtain ⟨o5, h, ho6⟩ := bindJ_some h
  refine ops_cut 4 Bool (fun σ => [(1, .int .i64 n_1), (2, boxP b1 0), (14, .bool σ)]) (fun σ => [box b1 [.int .i64 b_0.Cap, .int .i64 b_0.Num, .int .i64 b_0.Den, .int .i64 b_0.Level, .int .i64 b_0.At]]) (fun σ => o5 = .go σ) (fun L7 hL8 => ?_) ?_
  · refine ops_split 10 (!r2) rfl (fun hg9 => ?_) (fun hg9 => ?_)
    · replace h := cond_t h hg9
      refine ops_no 3 false 10 rfl rfl rfl rfl rfl ?_
      refine ops_no 3 false 10 rfl rfl rfl rfl rfl ?_
      refine ops_no 3 false 10 rfl rfl rfl rfl rfl ?_
      refine ops_y (wn rfl) rfl (y_pick (b := true) rfl rfl) ?_
      refine ops_nil ?_
      obtain rfl := some_eq h
      exact goes_cut hL8 true [0] (vcons rfl (vcons rfl (vcons rfl (vnil)))) (by decide) rfl rfl
    · replace h := cond_f h hg9
      refine ops_y (wg 3 false 10 rfl rfl rfl rfl) rfl (y_move rfl) ?_
      obtain ⟨r10, hr11, h⟩ := bind_some h
      refine ops_t (wg 3 false 10 rfl rfl rfl rfl) rfl (t_call (vs := [.int .i64 n_1, .int .i64 1, .int .i64 1073741824]) (cs := []) [] rfl Try.call29 rfl (bucket_within_int_29_ok n_1 1 1073741824  hr11) shows_nil (.inl rfl)) ?_
      rintro _ _ ⟨_, ⟨rfl, rfl⟩, rfl⟩
      refine ops_y (wg 3 false 10 rfl rfl rfl rfl) rfl (y_not rfl) ?_
      refine ops_y (wn rfl) rfl (y_pick (b := false) rfl rfl) ?_
      refine ops_nil ?_
      obtain rfl := some_eq h
      exact goes_cut hL8 (!r10) [0] (vcons rfl (vcons rfl (vcons rfl (vnil)))) (by decide) rfl rfl
  rintro b4 hj
  obtain rfl : o5 = _ := hj
  replace h := after_go ho6
  clear ho6
  refine ops_nil ?_
  refine goes_code ?_
  refine run_cond b4 rfl (fun hc12 => ?_) (fun hc12 => ?_)
  · replace h := cond_t h hc12
    refine run_seq ?_
    refine run_region' ?_
    refine ops_y (wn rfl) rfl (y_assign rfl) ?_
    refine ops_y (wn rfl) rfl (y_assign rfl) ?_
    refine ops_nil ?_
    refine goes_code ?_
    refine run_ret ?_
    obtain rfl := some_eq h
    refine fin_slots [4, 5] [.int .i64 0, .int .i64 1] [] [] Try.results12 rfl (by decide) rfl ?_
    exact ⟨rfl, rfl⟩
  · replace h := cond_f h hc12
    refine run_skip ?_
    refine goes_code ?_
    refine run_seq ?_
    refine run_region' ?_
    refine ops_y (wn rfl) rfl (y_move rfl) ?_
    refine ops_y (wn rfl) rfl (y_fieldAddr_box (sz := 0) Try.runUnderlying23 rfl Try.sizeOf3 rfl) ?_
    refine ops_y (wn rfl) rfl (y_load_box 0 Try.isAgg3 rfl rfl rfl) ?_
    refine ops_y (wn rfl) rfl (y_mul rfl rfl) ?_
    refine ops_y (wn rfl) rfl (y_fieldAddr_box (sz := 0) Try.runUnderlying23 rfl Try.sizeOf3 rfl) ?_
    refine ops_y (wn rfl) rfl (y_load_box 0 Try.isAgg3 rfl rfl rfl) ?_
    refine ops_y (wn rfl) rfl (y_sub rfl rfl) ?_
    refine ops_y (wn rfl) rfl (y_assign rfl) ?_
    refine ops_nil ?_
    refine goes_code ?_
    refine run_block ?_
    refine run_seq ?_
    refine run_weak [(1, .int .i64 n_1), (2, boxP b1 0), (6, .int .i64 (IntKind.i64.wrap ((IntKind.i64.wrap (n_1 * b_0.Den)) - b_0.Level)))] [0] [box b1 [.int .i64 b_0.Cap, .int .i64 b_0.Num, .int .i64 b_0.Den, .int .i64 b_0.Level, .int .i64 b_0.At]] (vcons rfl (vcons rfl (vcons rfl (vnil)))) (by decide) rfl ?_
    refine run_region' ?_
    refine ops_y (wn rfl) rfl (y_move rfl) ?_
    refine ops_y (wn rfl) rfl (y_fieldAddr_box (sz := 0) Try.runUnderlying23 rfl Try.sizeOf3 rfl) ?_
    refine ops_y (wn rfl) rfl (y_load_box 0 Try.isAgg3 rfl rfl rfl) ?_
    refine ops_y (wn rfl) rfl (y_gtr rfl rfl) ?_
    refine ops_y (wn rfl) rfl (y_assign rfl) ?_
    refine ops_nil ?_
    refine goes_code ?_
    refine run_cond (decide (b_0.Cap < n_1)) rfl (fun hc13 => ?_) (fun hc13 => ?_)
    · replace h := cond_t h hc13
      refine run_seq ?_
      refine run_region' ?_
      refine ops_y (wn rfl) rfl (y_assign rfl) ?_
      refine ops_y (wn rfl) rfl (y_assign rfl) ?_
      refine ops_nil ?_
      refine goes_code ?_
      refine run_ret ?_
      obtain rfl := some_eq h
      refine fin_slots [4, 5] [.int .i64 0, .int .i64 2] [] [] Try.results12 rfl (by decide) rfl ?_
      exact ⟨rfl, rfl⟩
    · replace h := cond_f h hc13
      refine run_seq ?_
      refine run_region' ?_
      refine ops_y (wn rfl) rfl (y_move rfl) ?_
      refine ops_y (wn rfl) rfl (y_leq rfl rfl) ?_
      refine ops_y (wn rfl) rfl (y_assign rfl) ?_
      refine ops_nil ?_
      refine goes_code ?_
      refine run_cond (decide ((IntKind.i64.wrap ((IntKind.i64.wrap (n_1 * b_0.Den)) - b_0.Level)) ≤ 0)) rfl (fun hc14 => ?_) (fun hc14 => ?_)
      · replace h := cond_t h hc14
        refine run_seq ?_
        refine run_weak [(2, boxP b1 0)] [0] [box b1 [.int .i64 b_0.Cap, .int .i64 b_0.Num, .int .i64 b_0.Den, .int .i64 b_0.Level, .int .i64 b_0.At]] (vcons rfl (vnil)) (by decide) rfl ?_
        refine run_region' ?_
        refine ops_y (wn rfl) rfl (y_fieldAddr_box (sz := 0) Try.runUnderlying23 rfl Try.sizeOf3 rfl) ?_
        refine ops_y (wn rfl) rfl (y_load_box 0 Try.isAgg3 rfl rfl rfl) ?_
        refine ops_y (wn rfl) rfl (y_assign rfl) ?_
        refine ops_y (wn rfl) rfl (y_assign rfl) ?_
        refine ops_nil ?_
        refine goes_code ?_
        refine run_ret ?_
        obtain rfl := some_eq h
        refine fin_slots [4, 5] [.int .i64 b_0.At, .int .i64 0] [] [] Try.results12 rfl (by decide) rfl ?_
        exact ⟨rfl, rfl⟩
      · replace h := cond_f h hc14
        refine run_seq ?_
        refine run_weak [(2, boxP b1 0), (6, .int .i64 (IntKind.i64.wrap ((IntKind.i64.wrap (n_1 * b_0.Den)) - b_0.Level)))] [0] [box b1 [.int .i64 b_0.Cap, .int .i64 b_0.Num, .int .i64 b_0.Den, .int .i64 b_0.Level, .int .i64 b_0.At]] (vcons rfl (vcons rfl (vnil))) (by decide) rfl ?_
        refine run_region' ?_
        refine ops_y (wn rfl) rfl (y_fieldAddr_box (sz := 0) Try.runUnderlying23 rfl Try.sizeOf3 rfl) ?_
        refine ops_y (wn rfl) rfl (y_load_box 0 Try.isAgg3 rfl rfl rfl) ?_
        refine ops_y (wn rfl) rfl (y_eql rfl rfl) ?_
        refine ops_y (wn rfl) rfl (y_move rfl) ?_
        refine ops_cut 9 Bool (fun σ => [(2, boxP b1 0), (6, .int .i64 (IntKind.i64.wrap ((IntKind.i64.wrap (n_1 * b_0.Den)) - b_0.Level))), (54, .bool σ)]) (fun σ => [box b1 [.int .i64 b_0.Cap, .int .i64 b_0.Num, .int .i64 b_0.Den, .int .i64 b_0.Level, .int .i64 b_0.At]]) (fun σ => σ = (decide (b_0.Num = 0) || decide ((IntKind.i64.wrap (b_0.Num * (IntKind.i64.wrap (1099511627776 - b_0.At)))) < (IntKind.i64.wrap ((IntKind.i64.wrap (n_1 * b_0.Den)) - b_0.Level))))) (fun L15 hL16 => ?_) ?_
        · refine ops_split 45 (decide (b_0.Num = 0)) rfl (fun hg17 => ?_) (fun hg17 => ?_)
          · skip
            refine ops_no 3 false 45 rfl rfl rfl rfl rfl ?_
            refine ops_no 3 false 45 rfl rfl rfl rfl rfl ?_
            refine ops_no 3 false 45 rfl rfl rfl rfl rfl ?_
            refine ops_no 3 false 45 rfl rfl rfl rfl rfl ?_
            refine ops_no 3 false 45 rfl rfl rfl rfl rfl ?_
            refine ops_no 3 false 45 rfl rfl rfl rfl rfl ?_
            refine ops_no 3 false 45 rfl rfl rfl rfl rfl ?_
            refine ops_no 3 false 45 rfl rfl rfl rfl rfl ?_
            refine ops_y (wn rfl) rfl (y_pick (b := true) rfl rfl) ?_
            refine ops_nil ?_
            exact goes_cut hL16 true [0] (vcons rfl (vcons rfl (vcons rfl (vnil)))) (by decide) rfl (by rw [hg17]; simp)
          · skip
            refine ops_y (wg 3 false 45 rfl rfl rfl rfl) rfl (y_move rfl) ?_
            refine ops_y (wg 3 false 45 rfl rfl rfl rfl) rfl (y_fieldAddr_box (sz := 0) Try.runUnderlying23 rfl Try.sizeOf3 rfl) ?_
            refine ops_y (wg 3 false 45 rfl rfl rfl rfl) rfl (y_load_box 0 Try.isAgg3 rfl rfl rfl) ?_
            refine ops_y (wg 3 false 45 rfl rfl rfl rfl) rfl (y_fieldAddr_box (sz := 0) Try.runUnderlying23 rfl Try.sizeOf3 rfl) ?_
            refine ops_y (wg 3 false 45 rfl rfl rfl rfl) rfl (y_load_box 0 Try.isAgg3 rfl rfl rfl) ?_
            refine ops_y (wg 3 false 45 rfl rfl rfl rfl) rfl (y_sub rfl rfl) ?_
            refine ops_y (wg 3 false 45 rfl rfl rfl rfl) rfl (y_mul rfl rfl) ?_
            refine ops_y (wg 3 false 45 rfl rfl rfl rfl) rfl (y_gtr rfl rfl) ?_
            refine ops_y (wn rfl) rfl (y_pick (b := false) rfl rfl) ?_
            refine ops_nil ?_
            exact goes_cut hL16 (decide ((IntKind.i64.wrap (b_0.Num * (IntKind.i64.wrap (1099511627776 - b_0.At)))) < (IntKind.i64.wrap ((IntKind.i64.wrap (n_1 * b_0.Den)) - b_0.Level)))) [0] (vcons rfl (vcons rfl (vcons rfl (vnil)))) (by decide) rfl (by rw [hg17]; simp)
        rintro _ rfl
        refine ops_y (wn rfl) rfl (y_assign rfl) ?_
        refine ops_nil ?_
        refine goes_code ?_
        refine run_cond (decide (b_0.Num = 0) || decide ((IntKind.i64.wrap (b_0.Num * (IntKind.i64.wrap (1099511627776 - b_0.At)))) < (IntKind.i64.wrap ((IntKind.i64.wrap (n_1 * b_0.Den)) - b_0.Level)))) rfl (fun hc18 => ?_) (fun hc18 => ?_)
        · replace h := cond_t h hc18
          refine run_seq ?_
          refine run_region' ?_
          refine ops_y (wn rfl) rfl (y_assign rfl) ?_
          refine ops_y (wn rfl) rfl (y_assign rfl) ?_
          refine ops_nil ?_
          refine goes_code ?_
          refine run_ret ?_
          obtain rfl := some_eq h
          refine fin_slots [4, 5] [.int .i64 0, .int .i64 4] [] [] Try.results12 rfl (by decide) rfl ?_
          exact ⟨rfl, rfl⟩
        · replace h := cond_f h hc18
          refine run_seq ?_
          refine run_draw (by kernel_rfl) (by kernel_rfl) ?_
          refine still_y (wn rfl) rfl (y_fieldAddr_box (sz := 0) Try.runUnderlying23 rfl Try.sizeOf3 rfl) ?_
          refine still_y (wn rfl) rfl (y_load_box 0 Try.isAgg3 rfl rfl rfl) ?_
          refine still_y (wn rfl) rfl (y_move rfl) ?_
          refine still_y (wn rfl) rfl (y_sub rfl rfl) ?_
          refine still_y (wn rfl) rfl (y_fieldAddr_box (sz := 0) Try.runUnderlying23 rfl Try.sizeOf3 rfl) ?_
          refine still_y (wn rfl) rfl (y_load_box 0 Try.isAgg3 rfl rfl rfl) ?_
          obtain ⟨hd19, h⟩ := need_some h
          refine still_y (wn rfl) rfl (y_quo rfl rfl hd19) ?_
          refine still_y (wn rfl) rfl (y_add rfl rfl) ?_
          refine still_y (wn rfl) rfl (y_add rfl rfl) ?_
          refine still_y (wn rfl) rfl (y_assign rfl) ?_
          refine still_y (wn rfl) rfl (y_assign rfl) ?_
          refine still_nil ?_
          refine goes_code ?_
          refine run_ret ?_
          obtain rfl := some_eq h
          refine fin_slots [4, 5] [.int .i64 (IntKind.i64.wrap ((IntKind.i64.wrap (b_0.At + (IntKind.i64.wrap ((IntKind.i64.wrap ((IntKind.i64.wrap ((IntKind.i64.wrap (n_1 * b_0.Den)) - b_0.Level)) - 1)).tdiv b_0.Num)))) + 1)), .int .i64 0] [] [] Try.results12 rfl (by decide) rfl ?_
          exact ⟨rfl, rfl⟩

def bucket_Most (b_0 : S_api_Bucket) (from_1 : Int) (to_2 : Int) : Option (Int × Int) :=
  (bucket_Valid b_0).bind fun r2 =>
  cond ((!r2) || decide (to_2 < from_1))
    (some (0, 1))
    ((bucket_Refill b_0 from_1).bind fun r8 =>
    cond (decide (r8.2 ≠ 0))
      (some (0, r8.2))
      (cond (decide (from_1 = to_2))
        (some (0, 0))
        (cond (decide (1099511627776 < to_2))
          (some (0, 9))
          (need (r8.1.Den ≠ 0) (
          some ((IntKind.i64.wrap ((IntKind.i64.wrap (r8.1.Level + (IntKind.i64.wrap (r8.1.Num * (IntKind.i64.wrap ((IntKind.i64.wrap (to_2 - 1)) - from_1)))))).tdiv r8.1.Den)), 0))))))
theorem bucket_Most_ok (b_0 : S_api_Bucket) (from_1 : Int) (to_2 : Int)  {r : Int × Int} (h : bucket_Most b_0 from_1 to_2 = some r) :
    Meets Try.prog 13 [.agg #[.int .i64 b_0.Cap, .int .i64 b_0.Num, .int .i64 b_0.Den, .int .i64 b_0.Level, .int .i64 b_0.At], .int .i64 from_1, .int .i64 to_2] [] (fun v G => v = .tuple #[.int .i64 r.1, .int .i64 r.2] ∧ G = []) := by
  refine fn_of_run Try.func13 rfl Try.ntmps13 rfl (fun w0 o0 => ?_)
  refine run_seq ?_
  refine run_region' ?_
  refine ops_t (wn rfl) rfl (t_box rfl) ?_
  rintro _ _ ⟨b1, rfl, rfl⟩
  refine ops_y (wn rfl) rfl (y_assign rfl) ?_
  refine ops_y (wn rfl) rfl (y_assign rfl) ?_
  refine ops_nil ?_
  refine goes_code ?_
  refine run_seq ?_
  refine run_seq ?_
  refine run_region' ?_
  refine ops_y (wn rfl) rfl (y_load_boxagg (c := [.int .i64 b_0.Cap, .int .i64 b_0.Num, .int .i64 b_0.Den, .int .i64 b_0.Level, .int .i64 b_0.At]) 0 Try.isAgg23 Try.sizeOf23 rfl rfl rfl) ?_
  obtain ⟨r2, hr3, h⟩ := bind_some h
  refine ops_t (wn rfl) rfl (t_call (vs := [.agg #[.int .i64 b_0.Cap, .int .i64 b_0.Num, .int .i64 b_0.Den, .int .i64 b_0.Level, .int .i64 b_0.At]]) (cs := []) [] rfl Try.call20 rfl (bucket_Valid_ok b_0  hr3) shows_nil (.inl rfl)) ?_
  rintro _ _ ⟨_, ⟨rfl, rfl⟩, rfl⟩
  refine ops_y (wn rfl) rfl (y_not rfl) ?_
  refine ops_y (wn rfl) rfl (y_move rfl) ?_
  refine ops_cut 4 Bool (fun σ => [(1, .int .i64 from_1), (2, .int .i64 to_2), (3, boxP b1 0), (17, .bool σ)]) (fun σ => [box b1 [.int .i64 b_0.Cap, .int .i64 b_0.Num, .int .i64 b_0.Den, .int .i64 b_0.Level, .int .i64 b_0.At]]) (fun σ => σ = ((!r2) || decide (to_2 < from_1))) (fun L4 hL5 => ?_) ?_
  · refine ops_split 13 (!r2) rfl (fun hg6 => ?_) (fun hg6 => ?_)
    · skip
      refine ops_no 3 false 13 rfl rfl rfl rfl rfl ?_
      refine ops_no 3 false 13 rfl rfl rfl rfl rfl ?_
      refine ops_no 3 false 13 rfl rfl rfl rfl rfl ?_
      refine ops_y (wn rfl) rfl (y_pick (b := true) rfl rfl) ?_
      refine ops_nil ?_
      exact goes_cut hL5 true [0] (vcons rfl (vcons rfl (vcons rfl (vcons rfl (vnil))))) (by decide) rfl (by rw [hg6]; simp)
    · skip
      refine ops_y (wg 3 false 13 rfl rfl rfl rfl) rfl (y_move rfl) ?_
      refine ops_y (wg 3 false 13 rfl rfl rfl rfl) rfl (y_move rfl) ?_
      refine ops_y (wg 3 false 13 rfl rfl rfl rfl) rfl (y_gtr rfl rfl) ?_
      refine ops_y (wn rfl) rfl (y_pick (b := false) rfl rfl) ?_
      refine ops_nil ?_
      exact goes_cut hL5 (decide (to_2 < from_1)) [0] (vcons rfl (vcons rfl (vcons rfl (vcons rfl (vnil))))) (by decide) rfl (by rw [hg6]; simp)
  rintro _ rfl
  refine ops_nil ?_
  refine goes_code ?_
  refine run_cond ((!r2) || decide (to_2 < from_1)) rfl (fun hc7 => ?_) (fun hc7 => ?_)
  · replace h := cond_t h hc7
    refine run_seq ?_
    refine run_region' ?_
    refine ops_y (wn rfl) rfl (y_assign rfl) ?_
    refine ops_y (wn rfl) rfl (y_assign rfl) ?_
    refine ops_nil ?_
    refine goes_code ?_
    refine run_ret ?_
    obtain rfl := some_eq h
    refine fin_slots [6, 7] [.int .i64 0, .int .i64 1] [] [] Try.results13 rfl (by decide) rfl ?_
    exact ⟨rfl, rfl⟩
  · replace h := cond_f h hc7
    refine run_skip ?_
    refine goes_code ?_
    refine run_seq ?_
    refine run_region' ?_
    refine ops_y (wn rfl) rfl (y_load_boxagg (c := [.int .i64 b_0.Cap, .int .i64 b_0.Num, .int .i64 b_0.Den, .int .i64 b_0.Level, .int .i64 b_0.At]) 0 Try.isAgg23 Try.sizeOf23 rfl rfl rfl) ?_
    refine ops_y (wn rfl) rfl (y_move rfl) ?_
    obtain ⟨r8, hr9, h⟩ := bind_some h
    refine ops_t (wn rfl) rfl (t_call (vs := [.agg #[.int .i64 b_0.Cap, .int .i64 b_0.Num, .int .i64 b_0.Den, .int .i64 b_0.Level, .int .i64 b_0.At], .int .i64 from_1]) (cs := []) [] rfl Try.call10 rfl (bucket_Refill_ok b_0 from_1  hr9) shows_nil (.inl rfl)) ?_
    rintro _ _ ⟨_, ⟨rfl, rfl⟩, rfl⟩
    refine ops_y (wn rfl) rfl (y_move rfl) ?_
    refine ops_y (wn rfl) rfl (y_extract rfl rfl) ?_
    refine ops_y (wn rfl) rfl (y_extract rfl rfl) ?_
    refine ops_t (wn rfl) rfl (t_alloc Try.zeroValue23) ?_
    rintro _ _ ⟨b10, rfl, rfl⟩
    refine ops_t (wn rfl) rfl (t_store 1 Try.sizeOf23 rfl rfl rfl rfl (by simp [Value.cells]) (by simp [Value.cells, Value.oneCell'])) ?_
    rintro _ _ ⟨rfl, rfl⟩
    refine ops_turn (retell 1 (g := box b10 [.int .i64 r8.1.Cap, .int .i64 r8.1.Num, .int .i64 r8.1.Den, .int .i64 r8.1.Level, .int .i64 r8.1.At]) rfl rfl) ?_
    refine ops_y (wn rfl) rfl (y_assign rfl) ?_
    refine ops_nil ?_
    refine goes_code ?_
    refine run_seq ?_
    refine run_block ?_
    refine run_seq ?_
    refine run_weak [(1, .int .i64 from_1), (2, .int .i64 to_2), (8, boxP b10 0), (9, .int .i64 r8.2)] [1] [box b10 [.int .i64 r8.1.Cap, .int .i64 r8.1.Num, .int .i64 r8.1.Den, .int .i64 r8.1.Level, .int .i64 r8.1.At]] (vcons rfl (vcons rfl (vcons rfl (vcons rfl (vnil))))) (by decide) rfl ?_
    refine run_region' ?_
    refine ops_y (wn rfl) rfl (y_move rfl) ?_
    refine ops_y (wn rfl) rfl (y_neq rfl rfl) ?_
    refine ops_y (wn rfl) rfl (y_assign rfl) ?_
    refine ops_nil ?_
    refine goes_code ?_
    refine run_cond (decide (r8.2 ≠ 0)) rfl (fun hc11 => ?_) (fun hc11 => ?_)
    · replace h := cond_t h hc11
      refine run_seq ?_
      refine run_region' ?_
      refine ops_y (wn rfl) rfl (y_move rfl) ?_
      refine ops_y (wn rfl) rfl (y_assign rfl) ?_
      refine ops_y (wn rfl) rfl (y_assign rfl) ?_
      refine ops_nil ?_
      refine goes_code ?_
      refine run_ret ?_
      obtain rfl := some_eq h
      refine fin_slots [6, 7] [.int .i64 0, .int .i64 r8.2] [] [] Try.results13 rfl (by decide) rfl ?_
      exact ⟨rfl, rfl⟩
    · replace h := cond_f h hc11
      refine run_seq ?_
      refine run_region' ?_
      refine ops_y (wn rfl) rfl (y_move rfl) ?_
      refine ops_y (wn rfl) rfl (y_move rfl) ?_
      refine ops_y (wn rfl) rfl (y_eql rfl rfl) ?_
      refine ops_y (wn rfl) rfl (y_assign rfl) ?_
      refine ops_nil ?_
      refine goes_code ?_
      refine run_cond (decide (from_1 = to_2)) rfl (fun hc12 => ?_) (fun hc12 => ?_)
      · replace h := cond_t h hc12
        refine run_seq ?_
        refine run_region' ?_
        refine ops_y (wn rfl) rfl (y_assign rfl) ?_
        refine ops_y (wn rfl) rfl (y_assign rfl) ?_
        refine ops_nil ?_
        refine goes_code ?_
        refine run_ret ?_
        obtain rfl := some_eq h
        refine fin_slots [6, 7] [.int .i64 0, .int .i64 0] [] [] Try.results13 rfl (by decide) rfl ?_
        exact ⟨rfl, rfl⟩
      · replace h := cond_f h hc12
        refine run_seq ?_
        refine run_region' ?_
        refine ops_y (wn rfl) rfl (y_move rfl) ?_
        refine ops_y (wn rfl) rfl (y_gtr rfl rfl) ?_
        refine ops_y (wn rfl) rfl (y_assign rfl) ?_
        refine ops_nil ?_
        refine goes_code ?_
        refine run_cond (decide (1099511627776 < to_2)) rfl (fun hc13 => ?_) (fun hc13 => ?_)
        · replace h := cond_t h hc13
          refine run_seq ?_
          refine run_weak [] [] [] vnil (by decide) rfl ?_
          refine run_region' ?_
          refine ops_y (wn rfl) rfl (y_assign rfl) ?_
          refine ops_y (wn rfl) rfl (y_assign rfl) ?_
          refine ops_nil ?_
          refine goes_code ?_
          refine run_ret ?_
          obtain rfl := some_eq h
          refine fin_slots [6, 7] [.int .i64 0, .int .i64 9] [] [] Try.results13 rfl (by decide) rfl ?_
          exact ⟨rfl, rfl⟩
        · replace h := cond_f h hc13
          refine run_skip ?_
          refine goes_blk ?_
          refine goes_code ?_
          refine run_seq ?_
          refine run_weak [(1, .int .i64 from_1), (2, .int .i64 to_2), (8, boxP b10 0)] [0] [box b10 [.int .i64 r8.1.Cap, .int .i64 r8.1.Num, .int .i64 r8.1.Den, .int .i64 r8.1.Level, .int .i64 r8.1.At]] (vcons rfl (vcons rfl (vcons rfl (vnil)))) (by decide) rfl ?_
          refine run_region' ?_
          refine ops_y (wn rfl) rfl (y_fieldAddr_box (sz := 0) Try.runUnderlying23 rfl Try.sizeOf3 rfl) ?_
          refine ops_y (wn rfl) rfl (y_load_box 0 Try.isAgg3 rfl rfl rfl) ?_
          refine ops_y (wn rfl) rfl (y_fieldAddr_box (sz := 0) Try.runUnderlying23 rfl Try.sizeOf3 rfl) ?_
          refine ops_y (wn rfl) rfl (y_load_box 0 Try.isAgg3 rfl rfl rfl) ?_
          refine ops_y (wn rfl) rfl (y_move rfl) ?_
          refine ops_y (wn rfl) rfl (y_sub rfl rfl) ?_
          refine ops_y (wn rfl) rfl (y_move rfl) ?_
          refine ops_y (wn rfl) rfl (y_sub rfl rfl) ?_
          refine ops_y (wn rfl) rfl (y_mul rfl rfl) ?_
          refine ops_y (wn rfl) rfl (y_add rfl rfl) ?_
          refine ops_y (wn rfl) rfl (y_fieldAddr_box (sz := 0) Try.runUnderlying23 rfl Try.sizeOf3 rfl) ?_
          refine ops_y (wn rfl) rfl (y_load_box 0 Try.isAgg3 rfl rfl rfl) ?_
          obtain ⟨hd14, h⟩ := need_some h
          refine ops_y (wn rfl) rfl (y_quo rfl rfl hd14) ?_
          refine ops_y (wn rfl) rfl (y_assign rfl) ?_
          refine ops_y (wn rfl) rfl (y_assign rfl) ?_
          refine ops_nil ?_
          refine goes_code ?_
          refine run_ret ?_
          obtain rfl := some_eq h
          refine fin_slots [6, 7] [.int .i64 (IntKind.i64.wrap ((IntKind.i64.wrap (r8.1.Level + (IntKind.i64.wrap (r8.1.Num * (IntKind.i64.wrap ((IntKind.i64.wrap (to_2 - 1)) - from_1)))))).tdiv r8.1.Den)), .int .i64 0] [] [] Try.results13 rfl (by decide) rfl ?_
          exact ⟨rfl, rfl⟩

def bucket_Tokens (b_0 : S_api_Bucket) : Option (Int) :=
  (bucket_Valid b_0).bind fun r2 =>
  cond (!r2)
    (some 0)
    (need (b_0.Den ≠ 0) (
    some (IntKind.i64.wrap (b_0.Level.tdiv b_0.Den))))
theorem bucket_Tokens_ok (b_0 : S_api_Bucket)  {r : Int} (h : bucket_Tokens b_0 = some r) :
    Meets Try.prog 22 [.agg #[.int .i64 b_0.Cap, .int .i64 b_0.Num, .int .i64 b_0.Den, .int .i64 b_0.Level, .int .i64 b_0.At]] [] (fun v G => v = .int .i64 r ∧ G = []) := by
  refine fn_of_run Try.func22 rfl Try.ntmps22 rfl (fun w0 o0 => ?_)
  refine run_seq ?_
  refine run_region' ?_
  refine ops_t (wn rfl) rfl (t_box rfl) ?_
  rintro _ _ ⟨b1, rfl, rfl⟩
  refine ops_y (wn rfl) rfl (y_assign rfl) ?_
  refine ops_nil ?_
  refine goes_code ?_
  refine run_seq ?_
  refine run_seq ?_
  refine run_region' ?_
  refine ops_y (wn rfl) rfl (y_load_boxagg (c := [.int .i64 b_0.Cap, .int .i64 b_0.Num, .int .i64 b_0.Den, .int .i64 b_0.Level, .int .i64 b_0.At]) 0 Try.isAgg23 Try.sizeOf23 rfl rfl rfl) ?_
  obtain ⟨r2, hr3, h⟩ := bind_some h
  refine ops_t (wn rfl) rfl (t_call (vs := [.agg #[.int .i64 b_0.Cap, .int .i64 b_0.Num, .int .i64 b_0.Den, .int .i64 b_0.Level, .int .i64 b_0.At]]) (cs := []) [] rfl Try.call20 rfl (bucket_Valid_ok b_0  hr3) shows_nil (.inl rfl)) ?_
  rintro _ _ ⟨_, ⟨rfl, rfl⟩, rfl⟩
  refine ops_y (wn rfl) rfl (y_not rfl) ?_
  refine ops_nil ?_
  refine goes_code ?_
  refine run_cond (!r2) rfl (fun hc4 => ?_) (fun hc4 => ?_)
  · replace h := cond_t h hc4
    refine run_seq ?_
    refine run_region' ?_
    refine ops_y (wn rfl) rfl (y_assign rfl) ?_
    refine ops_nil ?_
    refine goes_code ?_
    refine run_ret ?_
    obtain rfl := some_eq h
    refine fin_slots [2] [.int .i64 0] [] [] Try.results22 rfl (by decide) rfl ?_
    exact ⟨rfl, rfl⟩
  · replace h := cond_f h hc4
    refine run_skip ?_
    refine goes_code ?_
    refine run_seq ?_
    refine run_region' ?_
    refine ops_y (wn rfl) rfl (y_fieldAddr_box (sz := 0) Try.runUnderlying23 rfl Try.sizeOf3 rfl) ?_
    refine ops_y (wn rfl) rfl (y_load_box 0 Try.isAgg3 rfl rfl rfl) ?_
    refine ops_y (wn rfl) rfl (y_fieldAddr_box (sz := 0) Try.runUnderlying23 rfl Try.sizeOf3 rfl) ?_
    refine ops_y (wn rfl) rfl (y_load_box 0 Try.isAgg3 rfl rfl rfl) ?_
    obtain ⟨hd5, h⟩ := need_some h
    refine ops_y (wn rfl) rfl (y_quo rfl rfl hd5) ?_
    refine ops_y (wn rfl) rfl (y_assign rfl) ?_
    refine ops_nil ?_
    refine goes_code ?_
    refine run_ret ?_
    obtain rfl := some_eq h
    refine fin_slots [2] [.int .i64 (IntKind.i64.wrap (b_0.Level.tdiv b_0.Den))] [] [] Try.results22 rfl (by decide) rfl ?_
    exact ⟨rfl, rfl⟩

def ref12_Valid (b_0 : S_api_Bucket) : Option (Bool) :=
  cond (((((decide (b_0.Cap < 0) || decide (1073741824 < b_0.Cap)) || decide (b_0.Num < 0)) || decide (1048576 < b_0.Num)) || decide (b_0.Den < 1)) || decide (1048576 < b_0.Den))
    (some false)
    (some (((decide (0 ≤ b_0.Level) && decide (b_0.Level ≤ (IntKind.i64.wrap (b_0.Cap * b_0.Den)))) && decide (0 ≤ b_0.At)) && decide (b_0.At ≤ 1099511627776)))
theorem ref12_Valid_ok (b_0 : S_api_Bucket)  {r : Bool} (h : ref12_Valid b_0 = some r) :
    Meets Try.prog 21 [.agg #[.int .i64 b_0.Cap, .int .i64 b_0.Num, .int .i64 b_0.Den, .int .i64 b_0.Level, .int .i64 b_0.At]] [] (fun v G => v = .bool r ∧ G = []) := by
  refine fn_of_run Try.func21 rfl Try.ntmps21 rfl (fun w0 o0 => ?_)
  refine run_seq ?_
  refine run_region' ?_
  refine ops_t (wn rfl) rfl (t_box rfl) ?_
  rintro _ _ ⟨b1, rfl, rfl⟩
  refine ops_y (wn rfl) rfl (y_assign rfl) ?_
  refine ops_nil ?_
  refine goes_code ?_
  refine run_seq ?_
  refine run_seq ?_
  refine run_region' ?_
  refine ops_y (wn rfl) rfl (y_fieldAddr_box (sz := 0) Try.runUnderlying23 rfl Try.sizeOf3 rfl) ?_
  refine ops_y (wn rfl) rfl (y_load_box 0 Try.isAgg3 rfl rfl rfl) ?_
  refine ops_y (wn rfl) rfl (y_lss rfl rfl) ?_
  refine ops_y (wn rfl) rfl (y_move rfl) ?_
  refine ops_cut 4 Bool (fun σ => [(1, boxP b1 0), (10, .bool σ)]) (fun σ => [box b1 [.int .i64 b_0.Cap, .int .i64 b_0.Num, .int .i64 b_0.Den, .int .i64 b_0.Level, .int .i64 b_0.At]]) (fun σ => σ = (decide (b_0.Cap < 0) || decide (1073741824 < b_0.Cap))) (fun L2 hL3 => ?_) ?_
  · refine ops_split 6 (decide (b_0.Cap < 0)) rfl (fun hg4 => ?_) (fun hg4 => ?_)
    · skip
      refine ops_no 3 false 6 rfl rfl rfl rfl rfl ?_
      refine ops_no 3 false 6 rfl rfl rfl rfl rfl ?_
      refine ops_no 3 false 6 rfl rfl rfl rfl rfl ?_
      refine ops_y (wn rfl) rfl (y_pick (b := true) rfl rfl) ?_
      refine ops_nil ?_
      exact goes_cut hL3 true [0] (vcons rfl (vcons rfl (vnil))) (by decide) rfl (by rw [hg4]; simp)
    · skip
      refine ops_y (wg 3 false 6 rfl rfl rfl rfl) rfl (y_fieldAddr_box (sz := 0) Try.runUnderlying23 rfl Try.sizeOf3 rfl) ?_
      refine ops_y (wg 3 false 6 rfl rfl rfl rfl) rfl (y_load_box 0 Try.isAgg3 rfl rfl rfl) ?_
      refine ops_y (wg 3 false 6 rfl rfl rfl rfl) rfl (y_gtr rfl rfl) ?_
      refine ops_y (wn rfl) rfl (y_pick (b := false) rfl rfl) ?_
      refine ops_nil ?_
      exact goes_cut hL3 (decide (1073741824 < b_0.Cap)) [0] (vcons rfl (vcons rfl (vnil))) (by decide) rfl (by rw [hg4]; simp)
  rintro _ rfl
  refine ops_y (wn rfl) rfl (y_move rfl) ?_
  refine ops_cut 4 Bool (fun σ => [(1, boxP b1 0), (15, .bool σ)]) (fun σ => [box b1 [.int .i64 b_0.Cap, .int .i64 b_0.Num, .int .i64 b_0.Den, .int .i64 b_0.Level, .int .i64 b_0.At]]) (fun σ => σ = ((decide (b_0.Cap < 0) || decide (1073741824 < b_0.Cap)) || decide (b_0.Num < 0))) (fun L5 hL6 => ?_) ?_
  · refine ops_split 11 (decide (b_0.Cap < 0) || decide (1073741824 < b_0.Cap)) rfl (fun hg7 => ?_) (fun hg7 => ?_)
    · skip
      refine ops_no 8 false 11 rfl rfl rfl rfl rfl ?_
      refine ops_no 8 false 11 rfl rfl rfl rfl rfl ?_
      refine ops_no 8 false 11 rfl rfl rfl rfl rfl ?_
      refine ops_y (wn rfl) rfl (y_pick (b := true) rfl rfl) ?_
      refine ops_nil ?_
      exact goes_cut hL6 true [0] (vcons rfl (vcons rfl (vnil))) (by decide) rfl (by rw [hg7]; simp)
    · skip
      refine ops_y (wg 8 false 11 rfl rfl rfl rfl) rfl (y_fieldAddr_box (sz := 0) Try.runUnderlying23 rfl Try.sizeOf3 rfl) ?_
      refine ops_y (wg 8 false 11 rfl rfl rfl rfl) rfl (y_load_box 0 Try.isAgg3 rfl rfl rfl) ?_
      refine ops_y (wg 8 false 11 rfl rfl rfl rfl) rfl (y_lss rfl rfl) ?_
      refine ops_y (wn rfl) rfl (y_pick (b := false) rfl rfl) ?_
      refine ops_nil ?_
      exact goes_cut hL6 (decide (b_0.Num < 0)) [0] (vcons rfl (vcons rfl (vnil))) (by decide) rfl (by rw [hg7]; simp)
  rintro _ rfl
  refine ops_y (wn rfl) rfl (y_move rfl) ?_
  refine ops_cut 4 Bool (fun σ => [(1, boxP b1 0), (20, .bool σ)]) (fun σ => [box b1 [.int .i64 b_0.Cap, .int .i64 b_0.Num, .int .i64 b_0.Den, .int .i64 b_0.Level, .int .i64 b_0.At]]) (fun σ => σ = (((decide (b_0.Cap < 0) || decide (1073741824 < b_0.Cap)) || decide (b_0.Num < 0)) || decide (1048576 < b_0.Num))) (fun L8 hL9 => ?_) ?_
  · refine ops_split 16 ((decide (b_0.Cap < 0) || decide (1073741824 < b_0.Cap)) || decide (b_0.Num < 0)) rfl (fun hg10 => ?_) (fun hg10 => ?_)
    · skip
      refine ops_no 13 false 16 rfl rfl rfl rfl rfl ?_
      refine ops_no 13 false 16 rfl rfl rfl rfl rfl ?_
      refine ops_no 13 false 16 rfl rfl rfl rfl rfl ?_
      refine ops_y (wn rfl) rfl (y_pick (b := true) rfl rfl) ?_
      refine ops_nil ?_
      exact goes_cut hL9 true [0] (vcons rfl (vcons rfl (vnil))) (by decide) rfl (by rw [hg10]; simp)
    · skip
      refine ops_y (wg 13 false 16 rfl rfl rfl rfl) rfl (y_fieldAddr_box (sz := 0) Try.runUnderlying23 rfl Try.sizeOf3 rfl) ?_
      refine ops_y (wg 13 false 16 rfl rfl rfl rfl) rfl (y_load_box 0 Try.isAgg3 rfl rfl rfl) ?_
      refine ops_y (wg 13 false 16 rfl rfl rfl rfl) rfl (y_gtr rfl rfl) ?_
      refine ops_y (wn rfl) rfl (y_pick (b := false) rfl rfl) ?_
      refine ops_nil ?_
      exact goes_cut hL9 (decide (1048576 < b_0.Num)) [0] (vcons rfl (vcons rfl (vnil))) (by decide) rfl (by rw [hg10]; simp)
  rintro _ rfl
  refine ops_y (wn rfl) rfl (y_move rfl) ?_
  refine ops_cut 4 Bool (fun σ => [(1, boxP b1 0), (25, .bool σ)]) (fun σ => [box b1 [.int .i64 b_0.Cap, .int .i64 b_0.Num, .int .i64 b_0.Den, .int .i64 b_0.Level, .int .i64 b_0.At]]) (fun σ => σ = ((((decide (b_0.Cap < 0) || decide (1073741824 < b_0.Cap)) || decide (b_0.Num < 0)) || decide (1048576 < b_0.Num)) || decide (b_0.Den < 1))) (fun L11 hL12 => ?_) ?_
  · refine ops_split 21 (((decide (b_0.Cap < 0) || decide (1073741824 < b_0.Cap)) || decide (b_0.Num < 0)) || decide (1048576 < b_0.Num)) rfl (fun hg13 => ?_) (fun hg13 => ?_)
    · skip
      refine ops_no 18 false 21 rfl rfl rfl rfl rfl ?_
      refine ops_no 18 false 21 rfl rfl rfl rfl rfl ?_
      refine ops_no 18 false 21 rfl rfl rfl rfl rfl ?_
      refine ops_y (wn rfl) rfl (y_pick (b := true) rfl rfl) ?_
      refine ops_nil ?_
      exact goes_cut hL12 true [0] (vcons rfl (vcons rfl (vnil))) (by decide) rfl (by rw [hg13]; simp)
    · skip
      refine ops_y (wg 18 false 21 rfl rfl rfl rfl) rfl (y_fieldAddr_box (sz := 0) Try.runUnderlying23 rfl Try.sizeOf3 rfl) ?_
      refine ops_y (wg 18 false 21 rfl rfl rfl rfl) rfl (y_load_box 0 Try.isAgg3 rfl rfl rfl) ?_
      refine ops_y (wg 18 false 21 rfl rfl rfl rfl) rfl (y_lss rfl rfl) ?_
      refine ops_y (wn rfl) rfl (y_pick (b := false) rfl rfl) ?_
      refine ops_nil ?_
      exact goes_cut hL12 (decide (b_0.Den < 1)) [0] (vcons rfl (vcons rfl (vnil))) (by decide) rfl (by rw [hg13]; simp)
  rintro _ rfl
  refine ops_y (wn rfl) rfl (y_move rfl) ?_
  refine ops_cut 4 Bool (fun σ => [(1, boxP b1 0), (30, .bool σ)]) (fun σ => [box b1 [.int .i64 b_0.Cap, .int .i64 b_0.Num, .int .i64 b_0.Den, .int .i64 b_0.Level, .int .i64 b_0.At]]) (fun σ => σ = (((((decide (b_0.Cap < 0) || decide (1073741824 < b_0.Cap)) || decide (b_0.Num < 0)) || decide (1048576 < b_0.Num)) || decide (b_0.Den < 1)) || decide (1048576 < b_0.Den))) (fun L14 hL15 => ?_) ?_
  · refine ops_split 26 ((((decide (b_0.Cap < 0) || decide (1073741824 < b_0.Cap)) || decide (b_0.Num < 0)) || decide (1048576 < b_0.Num)) || decide (b_0.Den < 1)) rfl (fun hg16 => ?_) (fun hg16 => ?_)
    · skip
      refine ops_no 23 false 26 rfl rfl rfl rfl rfl ?_
      refine ops_no 23 false 26 rfl rfl rfl rfl rfl ?_
      refine ops_no 23 false 26 rfl rfl rfl rfl rfl ?_
      refine ops_y (wn rfl) rfl (y_pick (b := true) rfl rfl) ?_
      refine ops_nil ?_
      exact goes_cut hL15 true [0] (vcons rfl (vcons rfl (vnil))) (by decide) rfl (by rw [hg16]; simp)
    · skip
      refine ops_y (wg 23 false 26 rfl rfl rfl rfl) rfl (y_fieldAddr_box (sz := 0) Try.runUnderlying23 rfl Try.sizeOf3 rfl) ?_
      refine ops_y (wg 23 false 26 rfl rfl rfl rfl) rfl (y_load_box 0 Try.isAgg3 rfl rfl rfl) ?_
      refine ops_y (wg 23 false 26 rfl rfl rfl rfl) rfl (y_gtr rfl rfl) ?_
      refine ops_y (wn rfl) rfl (y_pick (b := false) rfl rfl) ?_
      refine ops_nil ?_
      exact goes_cut hL15 (decide (1048576 < b_0.Den)) [0] (vcons rfl (vcons rfl (vnil))) (by decide) rfl (by rw [hg16]; simp)
  rintro _ rfl
  refine ops_nil ?_
  refine goes_code ?_
  refine run_cond (((((decide (b_0.Cap < 0) || decide (1073741824 < b_0.Cap)) || decide (b_0.Num < 0)) || decide (1048576 < b_0.Num)) || decide (b_0.Den < 1)) || decide (1048576 < b_0.Den)) rfl (fun hc17 => ?_) (fun hc17 => ?_)
  · replace h := cond_t h hc17
    refine run_seq ?_
    refine run_region' ?_
    refine ops_y (wn rfl) rfl (y_assign rfl) ?_
    refine ops_nil ?_
    refine goes_code ?_
    refine run_ret ?_
    obtain rfl := some_eq h
    refine fin_slots [2] [.bool false] [] [] Try.results21 rfl (by decide) rfl ?_
    exact ⟨rfl, rfl⟩
  · replace h := cond_f h hc17
    refine run_skip ?_
    refine goes_code ?_
    refine run_seq ?_
    refine run_region' ?_
    refine ops_y (wn rfl) rfl (y_fieldAddr_box (sz := 0) Try.runUnderlying23 rfl Try.sizeOf3 rfl) ?_
    refine ops_y (wn rfl) rfl (y_load_box 0 Try.isAgg3 rfl rfl rfl) ?_
    refine ops_y (wn rfl) rfl (y_geq rfl rfl) ?_
    refine ops_y (wn rfl) rfl (y_move rfl) ?_
    refine ops_cut 9 Bool (fun σ => [(1, boxP b1 0), (43, .bool σ)]) (fun σ => [box b1 [.int .i64 b_0.Cap, .int .i64 b_0.Num, .int .i64 b_0.Den, .int .i64 b_0.Level, .int .i64 b_0.At]]) (fun σ => σ = (decide (0 ≤ b_0.Level) && decide (b_0.Level ≤ (IntKind.i64.wrap (b_0.Cap * b_0.Den))))) (fun L18 hL19 => ?_) ?_
    · refine ops_split 34 (decide (0 ≤ b_0.Level)) rfl (fun hg20 => ?_) (fun hg20 => ?_)
      · skip
        refine ops_y (wg 3 true 34 rfl rfl rfl rfl) rfl (y_fieldAddr_box (sz := 0) Try.runUnderlying23 rfl Try.sizeOf3 rfl) ?_
        refine ops_y (wg 3 true 34 rfl rfl rfl rfl) rfl (y_load_box 0 Try.isAgg3 rfl rfl rfl) ?_
        refine ops_y (wg 3 true 34 rfl rfl rfl rfl) rfl (y_fieldAddr_box (sz := 0) Try.runUnderlying23 rfl Try.sizeOf3 rfl) ?_
        refine ops_y (wg 3 true 34 rfl rfl rfl rfl) rfl (y_load_box 0 Try.isAgg3 rfl rfl rfl) ?_
        refine ops_y (wg 3 true 34 rfl rfl rfl rfl) rfl (y_fieldAddr_box (sz := 0) Try.runUnderlying23 rfl Try.sizeOf3 rfl) ?_
        refine ops_y (wg 3 true 34 rfl rfl rfl rfl) rfl (y_load_box 0 Try.isAgg3 rfl rfl rfl) ?_
        refine ops_y (wg 3 true 34 rfl rfl rfl rfl) rfl (y_mul rfl rfl) ?_
        refine ops_y (wg 3 true 34 rfl rfl rfl rfl) rfl (y_leq rfl rfl) ?_
        refine ops_y (wn rfl) rfl (y_pick (b := true) rfl rfl) ?_
        refine ops_nil ?_
        exact goes_cut hL19 (decide (b_0.Level ≤ (IntKind.i64.wrap (b_0.Cap * b_0.Den)))) [0] (vcons rfl (vcons rfl (vnil))) (by decide) rfl (by rw [hg20]; simp)
      · skip
        refine ops_no 3 true 34 rfl rfl rfl rfl rfl ?_
        refine ops_no 3 true 34 rfl rfl rfl rfl rfl ?_
        refine ops_no 3 true 34 rfl rfl rfl rfl rfl ?_
        refine ops_no 3 true 34 rfl rfl rfl rfl rfl ?_
        refine ops_no 3 true 34 rfl rfl rfl rfl rfl ?_
        refine ops_no 3 true 34 rfl rfl rfl rfl rfl ?_
        refine ops_no 3 true 34 rfl rfl rfl rfl rfl ?_
        refine ops_no 3 true 34 rfl rfl rfl rfl rfl ?_
        refine ops_y (wn rfl) rfl (y_pick (b := false) rfl rfl) ?_
        refine ops_nil ?_
        exact goes_cut hL19 false [0] (vcons rfl (vcons rfl (vnil))) (by decide) rfl (by rw [hg20]; simp)
    rintro _ rfl
    refine ops_y (wn rfl) rfl (y_move rfl) ?_
    refine ops_cut 4 Bool (fun σ => [(1, boxP b1 0), (48, .bool σ)]) (fun σ => [box b1 [.int .i64 b_0.Cap, .int .i64 b_0.Num, .int .i64 b_0.Den, .int .i64 b_0.Level, .int .i64 b_0.At]]) (fun σ => σ = ((decide (0 ≤ b_0.Level) && decide (b_0.Level ≤ (IntKind.i64.wrap (b_0.Cap * b_0.Den)))) && decide (0 ≤ b_0.At))) (fun L21 hL22 => ?_) ?_
    · refine ops_split 44 (decide (0 ≤ b_0.Level) && decide (b_0.Level ≤ (IntKind.i64.wrap (b_0.Cap * b_0.Den)))) rfl (fun hg23 => ?_) (fun hg23 => ?_)
      · skip
        refine ops_y (wg 13 true 44 rfl rfl rfl rfl) rfl (y_fieldAddr_box (sz := 0) Try.runUnderlying23 rfl Try.sizeOf3 rfl) ?_
        refine ops_y (wg 13 true 44 rfl rfl rfl rfl) rfl (y_load_box 0 Try.isAgg3 rfl rfl rfl) ?_
        refine ops_y (wg 13 true 44 rfl rfl rfl rfl) rfl (y_geq rfl rfl) ?_
        refine ops_y (wn rfl) rfl (y_pick (b := true) rfl rfl) ?_
        refine ops_nil ?_
        exact goes_cut hL22 (decide (0 ≤ b_0.At)) [0] (vcons rfl (vcons rfl (vnil))) (by decide) rfl (by rw [hg23]; simp)
      · skip
        refine ops_no 13 true 44 rfl rfl rfl rfl rfl ?_
        refine ops_no 13 true 44 rfl rfl rfl rfl rfl ?_
        refine ops_no 13 true 44 rfl rfl rfl rfl rfl ?_
        refine ops_y (wn rfl) rfl (y_pick (b := false) rfl rfl) ?_
        refine ops_nil ?_
        exact goes_cut hL22 false [0] (vcons rfl (vcons rfl (vnil))) (by decide) rfl (by rw [hg23]; simp)
    rintro _ rfl
    refine ops_y (wn rfl) rfl (y_move rfl) ?_
    refine ops_cut 4 Bool (fun σ => [(53, .bool σ)]) (fun σ => [box b1 [.int .i64 b_0.Cap, .int .i64 b_0.Num, .int .i64 b_0.Den, .int .i64 b_0.Level, .int .i64 b_0.At]]) (fun σ => σ = (((decide (0 ≤ b_0.Level) && decide (b_0.Level ≤ (IntKind.i64.wrap (b_0.Cap * b_0.Den)))) && decide (0 ≤ b_0.At)) && decide (b_0.At ≤ 1099511627776))) (fun L24 hL25 => ?_) ?_
    · refine ops_split 49 ((decide (0 ≤ b_0.Level) && decide (b_0.Level ≤ (IntKind.i64.wrap (b_0.Cap * b_0.Den)))) && decide (0 ≤ b_0.At)) rfl (fun hg26 => ?_) (fun hg26 => ?_)
      · skip
        refine ops_y (wg 18 true 49 rfl rfl rfl rfl) rfl (y_fieldAddr_box (sz := 0) Try.runUnderlying23 rfl Try.sizeOf3 rfl) ?_
        refine ops_y (wg 18 true 49 rfl rfl rfl rfl) rfl (y_load_box 0 Try.isAgg3 rfl rfl rfl) ?_
        refine ops_y (wg 18 true 49 rfl rfl rfl rfl) rfl (y_leq rfl rfl) ?_
        refine ops_y (wn rfl) rfl (y_pick (b := true) rfl rfl) ?_
        refine ops_nil ?_
        exact goes_cut hL25 (decide (b_0.At ≤ 1099511627776)) [0] (vcons rfl (vnil)) (by decide) rfl (by rw [hg26]; simp)
      · skip
        refine ops_no 18 true 49 rfl rfl rfl rfl rfl ?_
        refine ops_no 18 true 49 rfl rfl rfl rfl rfl ?_
        refine ops_no 18 true 49 rfl rfl rfl rfl rfl ?_
        refine ops_y (wn rfl) rfl (y_pick (b := false) rfl rfl) ?_
        refine ops_nil ?_
        exact goes_cut hL25 false [0] (vcons rfl (vnil)) (by decide) rfl (by rw [hg26]; simp)
    rintro _ rfl
    refine ops_y (wn rfl) rfl (y_assign rfl) ?_
    refine ops_nil ?_
    refine goes_code ?_
    refine run_ret ?_
    obtain rfl := some_eq h
    refine fin_slots [2] [.bool (((decide (0 ≤ b_0.Level) && decide (b_0.Level ≤ (IntKind.i64.wrap (b_0.Cap * b_0.Den)))) && decide (0 ≤ b_0.At)) && decide (b_0.At ≤ 1099511627776))] [] [] Try.results21 rfl (by decide) rfl ?_
    exact ⟨rfl, rfl⟩

def ref12_New (most_0 : Int) (num_1 : Int) (den_2 : Int) (at_3 : Int) : Option (S_ref12_Made) :=
  cond (((decide (most_0 < 0) || decide (1073741824 < most_0)) || decide (den_2 < 1)) || decide (1048576 < den_2))
    (some (S_ref12_Made.mk (S_api_Bucket.mk 0 0 0 0 0) 1))
    ((ref12_Valid (S_api_Bucket.mk most_0 num_1 den_2 (IntKind.i64.wrap (most_0 * den_2)) at_3)).bind fun r13 =>
    cond (!r13)
      (some (S_ref12_Made.mk (S_api_Bucket.mk 0 0 0 0 0) 1))
      (some (S_ref12_Made.mk (S_api_Bucket.mk most_0 num_1 den_2 (IntKind.i64.wrap (most_0 * den_2)) at_3) 0)))
theorem ref12_New_ok (most_0 : Int) (num_1 : Int) (den_2 : Int) (at_3 : Int)  {r : S_ref12_Made} (h : ref12_New most_0 num_1 den_2 at_3 = some r) :
    Meets Try.prog 14 [.int .i64 most_0, .int .i64 num_1, .int .i64 den_2, .int .i64 at_3] [] (fun v G => v = .agg #[.int .i64 r.B.Cap, .int .i64 r.B.Num, .int .i64 r.B.Den, .int .i64 r.B.Level, .int .i64 r.B.At, .int .i64 r.E] ∧ G = []) := by
  refine fn_of_run Try.func14 rfl Try.ntmps14 rfl (fun w0 o0 => ?_)
  refine run_seq ?_
  refine run_region' ?_
  refine ops_t (wn rfl) rfl (t_alloc Try.zeroValue33) ?_
  rintro _ _ ⟨b1, rfl, rfl⟩
  refine ops_nil ?_
  refine goes_code ?_
  refine run_seq ?_
  refine run_seq ?_
  refine run_region' ?_
  refine ops_y (wn rfl) rfl (y_move rfl) ?_
  refine ops_y (wn rfl) rfl (y_lss rfl rfl) ?_
  refine ops_y (wn rfl) rfl (y_move rfl) ?_
  refine ops_cut 3 Bool (fun σ => [(0, .int .i64 most_0), (1, .int .i64 num_1), (2, .int .i64 den_2), (3, .int .i64 at_3), (8, boxP b1 0), (16, .bool σ)]) (fun σ => [box b1 [.int .i64 0, .int .i64 0, .int .i64 0, .int .i64 0, .int .i64 0, .int .i64 0]]) (fun σ => σ = (decide (most_0 < 0) || decide (1073741824 < most_0))) (fun L2 hL3 => ?_) ?_
  · refine ops_split 13 (decide (most_0 < 0)) rfl (fun hg4 => ?_) (fun hg4 => ?_)
    · skip
      refine ops_no 2 false 13 rfl rfl rfl rfl rfl ?_
      refine ops_no 2 false 13 rfl rfl rfl rfl rfl ?_
      refine ops_y (wn rfl) rfl (y_pick (b := true) rfl rfl) ?_
      refine ops_nil ?_
      exact goes_cut hL3 true [0] (vcons rfl (vcons rfl (vcons rfl (vcons rfl (vcons rfl (vcons rfl (vnil))))))) (by decide) rfl (by rw [hg4]; simp)
    · skip
      refine ops_y (wg 2 false 13 rfl rfl rfl rfl) rfl (y_move rfl) ?_
      refine ops_y (wg 2 false 13 rfl rfl rfl rfl) rfl (y_gtr rfl rfl) ?_
      refine ops_y (wn rfl) rfl (y_pick (b := false) rfl rfl) ?_
      refine ops_nil ?_
      exact goes_cut hL3 (decide (1073741824 < most_0)) [0] (vcons rfl (vcons rfl (vcons rfl (vcons rfl (vcons rfl (vcons rfl (vnil))))))) (by decide) rfl (by rw [hg4]; simp)
  rintro _ rfl
  refine ops_y (wn rfl) rfl (y_move rfl) ?_
  refine ops_cut 3 Bool (fun σ => [(0, .int .i64 most_0), (1, .int .i64 num_1), (2, .int .i64 den_2), (3, .int .i64 at_3), (8, boxP b1 0), (20, .bool σ)]) (fun σ => [box b1 [.int .i64 0, .int .i64 0, .int .i64 0, .int .i64 0, .int .i64 0, .int .i64 0]]) (fun σ => σ = ((decide (most_0 < 0) || decide (1073741824 < most_0)) || decide (den_2 < 1))) (fun L5 hL6 => ?_) ?_
  · refine ops_split 17 (decide (most_0 < 0) || decide (1073741824 < most_0)) rfl (fun hg7 => ?_) (fun hg7 => ?_)
    · skip
      refine ops_no 6 false 17 rfl rfl rfl rfl rfl ?_
      refine ops_no 6 false 17 rfl rfl rfl rfl rfl ?_
      refine ops_y (wn rfl) rfl (y_pick (b := true) rfl rfl) ?_
      refine ops_nil ?_
      exact goes_cut hL6 true [0] (vcons rfl (vcons rfl (vcons rfl (vcons rfl (vcons rfl (vcons rfl (vnil))))))) (by decide) rfl (by rw [hg7]; simp)
    · skip
      refine ops_y (wg 6 false 17 rfl rfl rfl rfl) rfl (y_move rfl) ?_
      refine ops_y (wg 6 false 17 rfl rfl rfl rfl) rfl (y_lss rfl rfl) ?_
      refine ops_y (wn rfl) rfl (y_pick (b := false) rfl rfl) ?_
      refine ops_nil ?_
      exact goes_cut hL6 (decide (den_2 < 1)) [0] (vcons rfl (vcons rfl (vcons rfl (vcons rfl (vcons rfl (vcons rfl (vnil))))))) (by decide) rfl (by rw [hg7]; simp)
  rintro _ rfl
  refine ops_y (wn rfl) rfl (y_move rfl) ?_
  refine ops_cut 3 Bool (fun σ => [(0, .int .i64 most_0), (1, .int .i64 num_1), (2, .int .i64 den_2), (3, .int .i64 at_3), (8, boxP b1 0), (24, .bool σ)]) (fun σ => [box b1 [.int .i64 0, .int .i64 0, .int .i64 0, .int .i64 0, .int .i64 0, .int .i64 0]]) (fun σ => σ = (((decide (most_0 < 0) || decide (1073741824 < most_0)) || decide (den_2 < 1)) || decide (1048576 < den_2))) (fun L8 hL9 => ?_) ?_
  · refine ops_split 21 ((decide (most_0 < 0) || decide (1073741824 < most_0)) || decide (den_2 < 1)) rfl (fun hg10 => ?_) (fun hg10 => ?_)
    · skip
      refine ops_no 10 false 21 rfl rfl rfl rfl rfl ?_
      refine ops_no 10 false 21 rfl rfl rfl rfl rfl ?_
      refine ops_y (wn rfl) rfl (y_pick (b := true) rfl rfl) ?_
      refine ops_nil ?_
      exact goes_cut hL9 true [0] (vcons rfl (vcons rfl (vcons rfl (vcons rfl (vcons rfl (vcons rfl (vnil))))))) (by decide) rfl (by rw [hg10]; simp)
    · skip
      refine ops_y (wg 10 false 21 rfl rfl rfl rfl) rfl (y_move rfl) ?_
      refine ops_y (wg 10 false 21 rfl rfl rfl rfl) rfl (y_gtr rfl rfl) ?_
      refine ops_y (wn rfl) rfl (y_pick (b := false) rfl rfl) ?_
      refine ops_nil ?_
      exact goes_cut hL9 (decide (1048576 < den_2)) [0] (vcons rfl (vcons rfl (vcons rfl (vcons rfl (vcons rfl (vcons rfl (vnil))))))) (by decide) rfl (by rw [hg10]; simp)
  rintro _ rfl
  refine ops_nil ?_
  refine goes_code ?_
  refine run_cond (((decide (most_0 < 0) || decide (1073741824 < most_0)) || decide (den_2 < 1)) || decide (1048576 < den_2)) rfl (fun hc11 => ?_) (fun hc11 => ?_)
  · replace h := cond_t h hc11
    refine run_seq ?_
    refine run_region' ?_
    refine ops_y (wn rfl) rfl (y_build_struct (cells := #[.int .i64 0, .int .i64 0, .int .i64 0, .int .i64 0, .int .i64 0, .int .i64 1]) [(1, .int .i64 1)] [(1, [.int .i64 1])] Try.zeroValue33 Try.runUnderlying33 (fs_cons Try.sizeOf23 (fs_cons Try.sizeOf24 fs_nil)) rfl rfl rfl) ?_
    refine ops_t (wn rfl) rfl (t_store 0 Try.sizeOf33 rfl rfl rfl rfl (by simp [Value.cells]) (by simp [Value.cells, Value.oneCell'])) ?_
    rintro _ _ ⟨rfl, rfl⟩
    refine ops_turn (retell 0 (g := box b1 [.int .i64 0, .int .i64 0, .int .i64 0, .int .i64 0, .int .i64 0, .int .i64 1]) rfl rfl) ?_
    refine ops_nil ?_
    refine goes_code ?_
    refine run_ret ?_
    obtain rfl := some_eq h
    refine fin_res [.cell 8 33] [.agg #[.int .i64 0, .int .i64 0, .int .i64 0, .int .i64 0, .int .i64 0, .int .i64 1]] [] [] Try.results14 rfl (rescons (res_box 0 Try.isAgg33 Try.sizeOf33 rfl rfl rfl) resnil) (by decide) rfl ?_
    exact ⟨rfl, rfl⟩
  · replace h := cond_f h hc11
    refine run_skip ?_
    refine goes_code ?_
    refine run_seq ?_
    refine run_region' ?_
    refine ops_y (wn rfl) rfl (y_move rfl) ?_
    refine ops_y (wn rfl) rfl (y_move rfl) ?_
    refine ops_y (wn rfl) rfl (y_move rfl) ?_
    refine ops_y (wn rfl) rfl (y_move rfl) ?_
    refine ops_y (wn rfl) rfl (y_move rfl) ?_
    refine ops_y (wn rfl) rfl (y_mul rfl rfl) ?_
    refine ops_y (wn rfl) rfl (y_move rfl) ?_
    refine ops_y (wn rfl) rfl (y_build_struct (cells := #[.int .i64 most_0, .int .i64 num_1, .int .i64 den_2, .int .i64 (IntKind.i64.wrap (most_0 * den_2)), .int .i64 at_3]) [(0, .int .i64 most_0), (1, .int .i64 num_1), (2, .int .i64 den_2), (3, .int .i64 (IntKind.i64.wrap (most_0 * den_2))), (4, .int .i64 at_3)] [(0, [.int .i64 most_0]), (1, [.int .i64 num_1]), (2, [.int .i64 den_2]), (3, [.int .i64 (IntKind.i64.wrap (most_0 * den_2))]), (4, [.int .i64 at_3])] Try.zeroValue23 Try.runUnderlying23 (fs_cons Try.sizeOf3 (fs_cons Try.sizeOf3 (fs_cons Try.sizeOf3 (fs_cons Try.sizeOf3 (fs_cons Try.sizeOf3 fs_nil))))) rfl rfl rfl) ?_
    refine ops_t (wn rfl) rfl (t_alloc Try.zeroValue23) ?_
    rintro _ _ ⟨b12, rfl, rfl⟩
    refine ops_t (wn rfl) rfl (t_store 1 Try.sizeOf23 rfl rfl rfl rfl (by simp [Value.cells]) (by simp [Value.cells, Value.oneCell'])) ?_
    rintro _ _ ⟨rfl, rfl⟩
    refine ops_turn (retell 1 (g := box b12 [.int .i64 most_0, .int .i64 num_1, .int .i64 den_2, .int .i64 (IntKind.i64.wrap (most_0 * den_2)), .int .i64 at_3]) rfl rfl) ?_
    refine ops_nil ?_
    refine goes_code ?_
    refine run_seq ?_
    refine run_weak [(8, boxP b1 0), (9, boxP b12 0)] [0, 1] [box b1 [.int .i64 0, .int .i64 0, .int .i64 0, .int .i64 0, .int .i64 0, .int .i64 0], box b12 [.int .i64 most_0, .int .i64 num_1, .int .i64 den_2, .int .i64 (IntKind.i64.wrap (most_0 * den_2)), .int .i64 at_3]] (vcons rfl (vcons rfl (vnil))) (by decide) rfl ?_
    refine run_region' ?_
    refine ops_y (wn rfl) rfl (y_load_boxagg (c := [.int .i64 most_0, .int .i64 num_1, .int .i64 den_2, .int .i64 (IntKind.i64.wrap (most_0 * den_2)), .int .i64 at_3]) 1 Try.isAgg23 Try.sizeOf23 rfl rfl rfl) ?_
    obtain ⟨r13, hr14, h⟩ := bind_some h
    refine ops_t (wn rfl) rfl (t_call (vs := [.agg #[.int .i64 most_0, .int .i64 num_1, .int .i64 den_2, .int .i64 (IntKind.i64.wrap (most_0 * den_2)), .int .i64 at_3]]) (cs := []) [] rfl Try.call21 rfl (ref12_Valid_ok (S_api_Bucket.mk most_0 num_1 den_2 (IntKind.i64.wrap (most_0 * den_2)) at_3)  hr14) shows_nil (.inl rfl)) ?_
    rintro _ _ ⟨_, ⟨rfl, rfl⟩, rfl⟩
    refine ops_y (wn rfl) rfl (y_assign rfl) ?_
    refine ops_nil ?_
    refine goes_code ?_
    refine run_seq ?_
    refine run_seq ?_
    refine run_region' ?_
    refine ops_y (wn rfl) rfl (y_move rfl) ?_
    refine ops_y (wn rfl) rfl (y_not rfl) ?_
    refine ops_nil ?_
    refine goes_code ?_
    refine run_cond (!r13) rfl (fun hc15 => ?_) (fun hc15 => ?_)
    · replace h := cond_t h hc15
      refine run_seq ?_
      refine run_region' ?_
      refine ops_y (wn rfl) rfl (y_build_struct (cells := #[.int .i64 0, .int .i64 0, .int .i64 0, .int .i64 0, .int .i64 0, .int .i64 1]) [(1, .int .i64 1)] [(1, [.int .i64 1])] Try.zeroValue33 Try.runUnderlying33 (fs_cons Try.sizeOf23 (fs_cons Try.sizeOf24 fs_nil)) rfl rfl rfl) ?_
      refine ops_t (wn rfl) rfl (t_store 0 Try.sizeOf33 rfl rfl rfl rfl (by simp [Value.cells]) (by simp [Value.cells, Value.oneCell'])) ?_
      rintro _ _ ⟨rfl, rfl⟩
      refine ops_turn (retell 0 (g := box b1 [.int .i64 0, .int .i64 0, .int .i64 0, .int .i64 0, .int .i64 0, .int .i64 1]) rfl rfl) ?_
      refine ops_nil ?_
      refine goes_code ?_
      refine run_ret ?_
      obtain rfl := some_eq h
      refine fin_res [.cell 8 33] [.agg #[.int .i64 0, .int .i64 0, .int .i64 0, .int .i64 0, .int .i64 0, .int .i64 1]] [] [] Try.results14 rfl (rescons (res_box 0 Try.isAgg33 Try.sizeOf33 rfl rfl rfl) resnil) (by decide) rfl ?_
      exact ⟨rfl, rfl⟩
    · replace h := cond_f h hc15
      refine run_skip ?_
      refine goes_code ?_
      refine run_seq ?_
      refine run_region' ?_
      refine ops_y (wn rfl) rfl (y_load_boxagg (c := [.int .i64 most_0, .int .i64 num_1, .int .i64 den_2, .int .i64 (IntKind.i64.wrap (most_0 * den_2)), .int .i64 at_3]) 1 Try.isAgg23 Try.sizeOf23 rfl rfl rfl) ?_
      refine ops_y (wn rfl) rfl (y_build_struct (cells := #[.int .i64 most_0, .int .i64 num_1, .int .i64 den_2, .int .i64 (IntKind.i64.wrap (most_0 * den_2)), .int .i64 at_3, .int .i64 0]) [(0, .agg #[.int .i64 most_0, .int .i64 num_1, .int .i64 den_2, .int .i64 (IntKind.i64.wrap (most_0 * den_2)), .int .i64 at_3])] [(0, [.int .i64 most_0, .int .i64 num_1, .int .i64 den_2, .int .i64 (IntKind.i64.wrap (most_0 * den_2)), .int .i64 at_3])] Try.zeroValue33 Try.runUnderlying33 (fs_cons Try.sizeOf23 (fs_cons Try.sizeOf24 fs_nil)) rfl rfl rfl) ?_
      refine ops_t (wn rfl) rfl (t_store 0 Try.sizeOf33 rfl rfl rfl rfl (by simp [Value.cells]) (by simp [Value.cells, Value.oneCell'])) ?_
      rintro _ _ ⟨rfl, rfl⟩
      refine ops_turn (retell 0 (g := box b1 [.int .i64 most_0, .int .i64 num_1, .int .i64 den_2, .int .i64 (IntKind.i64.wrap (most_0 * den_2)), .int .i64 at_3, .int .i64 0]) rfl rfl) ?_
      refine ops_nil ?_
      refine goes_code ?_
      refine run_ret ?_
      obtain rfl := some_eq h
      refine fin_res [.cell 8 33] [.agg #[.int .i64 most_0, .int .i64 num_1, .int .i64 den_2, .int .i64 (IntKind.i64.wrap (most_0 * den_2)), .int .i64 at_3, .int .i64 0]] [] [] Try.results14 rfl (rescons (res_box 0 Try.isAgg33 Try.sizeOf33 rfl rfl rfl) resnil) (by decide) rfl ?_
      exact ⟨rfl, rfl⟩

def ref12_Refill (b_0 : S_api_Bucket) (t_1 : Int) : Option (S_ref12_Made) :=
  (ref12_Valid b_0).bind fun r3 =>
  cond (!r3)
    (some (S_ref12_Made.mk (S_api_Bucket.mk 0 0 0 0 0) 1))
    (cond (decide (t_1 < b_0.At) || decide (1099511627776 < t_1))
      (some (S_ref12_Made.mk (S_api_Bucket.mk 0 0 0 0 0) 9))
      (some (S_ref12_Made.mk (S_api_Bucket.mk b_0.Cap b_0.Num b_0.Den (min (IntKind.i64.wrap (b_0.Cap * b_0.Den)) (IntKind.i64.wrap (b_0.Level + (IntKind.i64.wrap (b_0.Num * (IntKind.i64.wrap (t_1 - b_0.At))))))) t_1) 0)))
theorem ref12_Refill_ok (b_0 : S_api_Bucket) (t_1 : Int)  {r : S_ref12_Made} (h : ref12_Refill b_0 t_1 = some r) :
    Meets Try.prog 15 [.agg #[.int .i64 b_0.Cap, .int .i64 b_0.Num, .int .i64 b_0.Den, .int .i64 b_0.Level, .int .i64 b_0.At], .int .i64 t_1] [] (fun v G => v = .agg #[.int .i64 r.B.Cap, .int .i64 r.B.Num, .int .i64 r.B.Den, .int .i64 r.B.Level, .int .i64 r.B.At, .int .i64 r.E] ∧ G = []) := by
  refine fn_of_run Try.func15 rfl Try.ntmps15 rfl (fun w0 o0 => ?_)
  refine run_seq ?_
  refine run_region' ?_
  refine ops_t (wn rfl) rfl (t_box rfl) ?_
  rintro _ _ ⟨b1, rfl, rfl⟩
  refine ops_t (wn rfl) rfl (t_alloc Try.zeroValue33) ?_
  rintro _ _ ⟨b2, rfl, rfl⟩
  refine ops_nil ?_
  refine goes_code ?_
  refine run_seq ?_
  refine run_region' ?_
  refine ops_y (wn rfl) rfl (y_load_boxagg (c := [.int .i64 b_0.Cap, .int .i64 b_0.Num, .int .i64 b_0.Den, .int .i64 b_0.Level, .int .i64 b_0.At]) 0 Try.isAgg23 Try.sizeOf23 rfl rfl rfl) ?_
  obtain ⟨r3, hr4, h⟩ := bind_some h
  refine ops_t (wn rfl) rfl (t_call (vs := [.agg #[.int .i64 b_0.Cap, .int .i64 b_0.Num, .int .i64 b_0.Den, .int .i64 b_0.Level, .int .i64 b_0.At]]) (cs := []) [] rfl Try.call21 rfl (ref12_Valid_ok b_0  hr4) shows_nil (.inl rfl)) ?_
  rintro _ _ ⟨_, ⟨rfl, rfl⟩, rfl⟩
  refine ops_y (wn rfl) rfl (y_assign rfl) ?_
  refine ops_nil ?_
  refine goes_code ?_
  refine run_seq ?_
  refine run_seq ?_
  refine run_region' ?_
  refine ops_y (wn rfl) rfl (y_move rfl) ?_
  refine ops_y (wn rfl) rfl (y_not rfl) ?_
  refine ops_nil ?_
  refine goes_code ?_
  refine run_cond (!r3) rfl (fun hc5 => ?_) (fun hc5 => ?_)
  · replace h := cond_t h hc5
    refine run_seq ?_
    refine run_region' ?_
    refine ops_y (wn rfl) rfl (y_build_struct (cells := #[.int .i64 0, .int .i64 0, .int .i64 0, .int .i64 0, .int .i64 0, .int .i64 1]) [(1, .int .i64 1)] [(1, [.int .i64 1])] Try.zeroValue33 Try.runUnderlying33 (fs_cons Try.sizeOf23 (fs_cons Try.sizeOf24 fs_nil)) rfl rfl rfl) ?_
    refine ops_t (wn rfl) rfl (t_store 1 Try.sizeOf33 rfl rfl rfl rfl (by simp [Value.cells]) (by simp [Value.cells, Value.oneCell'])) ?_
    rintro _ _ ⟨rfl, rfl⟩
    refine ops_turn (retell 1 (g := box b2 [.int .i64 0, .int .i64 0, .int .i64 0, .int .i64 0, .int .i64 0, .int .i64 1]) rfl rfl) ?_
    refine ops_nil ?_
    refine goes_code ?_
    refine run_ret ?_
    obtain rfl := some_eq h
    refine fin_res [.cell 4 33] [.agg #[.int .i64 0, .int .i64 0, .int .i64 0, .int .i64 0, .int .i64 0, .int .i64 1]] [] [] Try.results15 rfl (rescons (res_box 1 Try.isAgg33 Try.sizeOf33 rfl rfl rfl) resnil) (by decide) rfl ?_
    exact ⟨rfl, rfl⟩
  · replace h := cond_f h hc5
    refine run_skip ?_
    refine goes_code ?_
    refine run_seq ?_
    refine run_seq ?_
    refine run_region' ?_
    refine ops_y (wn rfl) rfl (y_move rfl) ?_
    refine ops_y (wn rfl) rfl (y_fieldAddr_box (sz := 0) Try.runUnderlying23 rfl Try.sizeOf3 rfl) ?_
    refine ops_y (wn rfl) rfl (y_load_box 0 Try.isAgg3 rfl rfl rfl) ?_
    refine ops_y (wn rfl) rfl (y_lss rfl rfl) ?_
    refine ops_y (wn rfl) rfl (y_move rfl) ?_
    refine ops_cut 3 Bool (fun σ => [(1, .int .i64 t_1), (2, boxP b1 0), (4, boxP b2 0), (18, .bool σ)]) (fun σ => [box b1 [.int .i64 b_0.Cap, .int .i64 b_0.Num, .int .i64 b_0.Den, .int .i64 b_0.Level, .int .i64 b_0.At], box b2 [.int .i64 0, .int .i64 0, .int .i64 0, .int .i64 0, .int .i64 0, .int .i64 0]]) (fun σ => σ = (decide (t_1 < b_0.At) || decide (1099511627776 < t_1))) (fun L6 hL7 => ?_) ?_
    · refine ops_split 15 (decide (t_1 < b_0.At)) rfl (fun hg8 => ?_) (fun hg8 => ?_)
      · skip
        refine ops_no 4 false 15 rfl rfl rfl rfl rfl ?_
        refine ops_no 4 false 15 rfl rfl rfl rfl rfl ?_
        refine ops_y (wn rfl) rfl (y_pick (b := true) rfl rfl) ?_
        refine ops_nil ?_
        exact goes_cut hL7 true [0, 1] (vcons rfl (vcons rfl (vcons rfl (vcons rfl (vnil))))) (by decide) rfl (by rw [hg8]; simp)
      · skip
        refine ops_y (wg 4 false 15 rfl rfl rfl rfl) rfl (y_move rfl) ?_
        refine ops_y (wg 4 false 15 rfl rfl rfl rfl) rfl (y_gtr rfl rfl) ?_
        refine ops_y (wn rfl) rfl (y_pick (b := false) rfl rfl) ?_
        refine ops_nil ?_
        exact goes_cut hL7 (decide (1099511627776 < t_1)) [0, 1] (vcons rfl (vcons rfl (vcons rfl (vcons rfl (vnil))))) (by decide) rfl (by rw [hg8]; simp)
    rintro _ rfl
    refine ops_nil ?_
    refine goes_code ?_
    refine run_cond (decide (t_1 < b_0.At) || decide (1099511627776 < t_1)) rfl (fun hc9 => ?_) (fun hc9 => ?_)
    · replace h := cond_t h hc9
      refine run_seq ?_
      refine run_region' ?_
      refine ops_y (wn rfl) rfl (y_build_struct (cells := #[.int .i64 0, .int .i64 0, .int .i64 0, .int .i64 0, .int .i64 0, .int .i64 9]) [(1, .int .i64 9)] [(1, [.int .i64 9])] Try.zeroValue33 Try.runUnderlying33 (fs_cons Try.sizeOf23 (fs_cons Try.sizeOf24 fs_nil)) rfl rfl rfl) ?_
      refine ops_t (wn rfl) rfl (t_store 1 Try.sizeOf33 rfl rfl rfl rfl (by simp [Value.cells]) (by simp [Value.cells, Value.oneCell'])) ?_
      rintro _ _ ⟨rfl, rfl⟩
      refine ops_turn (retell 1 (g := box b2 [.int .i64 0, .int .i64 0, .int .i64 0, .int .i64 0, .int .i64 0, .int .i64 9]) rfl rfl) ?_
      refine ops_nil ?_
      refine goes_code ?_
      refine run_ret ?_
      obtain rfl := some_eq h
      refine fin_res [.cell 4 33] [.agg #[.int .i64 0, .int .i64 0, .int .i64 0, .int .i64 0, .int .i64 0, .int .i64 9]] [] [] Try.results15 rfl (rescons (res_box 1 Try.isAgg33 Try.sizeOf33 rfl rfl rfl) resnil) (by decide) rfl ?_
      exact ⟨rfl, rfl⟩
    · replace h := cond_f h hc9
      refine run_skip ?_
      refine goes_code ?_
      refine run_seq ?_
      refine run_region' ?_
      refine ops_y (wn rfl) rfl (y_fieldAddr_box (sz := 0) Try.runUnderlying23 rfl Try.sizeOf3 rfl) ?_
      refine ops_y (wn rfl) rfl (y_load_box 0 Try.isAgg3 rfl rfl rfl) ?_
      refine ops_y (wn rfl) rfl (y_fieldAddr_box (sz := 0) Try.runUnderlying23 rfl Try.sizeOf3 rfl) ?_
      refine ops_y (wn rfl) rfl (y_load_box 0 Try.isAgg3 rfl rfl rfl) ?_
      refine ops_y (wn rfl) rfl (y_mul rfl rfl) ?_
      refine ops_y (wn rfl) rfl (y_fieldAddr_box (sz := 0) Try.runUnderlying23 rfl Try.sizeOf3 rfl) ?_
      refine ops_y (wn rfl) rfl (y_load_box 0 Try.isAgg3 rfl rfl rfl) ?_
      refine ops_y (wn rfl) rfl (y_fieldAddr_box (sz := 0) Try.runUnderlying23 rfl Try.sizeOf3 rfl) ?_
      refine ops_y (wn rfl) rfl (y_load_box 0 Try.isAgg3 rfl rfl rfl) ?_
      refine ops_y (wn rfl) rfl (y_move rfl) ?_
      refine ops_y (wn rfl) rfl (y_fieldAddr_box (sz := 0) Try.runUnderlying23 rfl Try.sizeOf3 rfl) ?_
      refine ops_y (wn rfl) rfl (y_load_box 0 Try.isAgg3 rfl rfl rfl) ?_
      refine ops_y (wn rfl) rfl (y_sub rfl rfl) ?_
      refine ops_y (wn rfl) rfl (y_mul rfl rfl) ?_
      refine ops_y (wn rfl) rfl (y_add rfl rfl) ?_
      refine ops_y (wn rfl) rfl (y_min rfl rfl) ?_
      refine ops_weak [(1, .int .i64 t_1), (2, boxP b1 0), (4, boxP b2 0), (35, .int .i64 (min (IntKind.i64.wrap (b_0.Cap * b_0.Den)) (IntKind.i64.wrap (b_0.Level + (IntKind.i64.wrap (b_0.Num * (IntKind.i64.wrap (t_1 - b_0.At))))))))] [0, 1] [box b1 [.int .i64 b_0.Cap, .int .i64 b_0.Num, .int .i64 b_0.Den, .int .i64 b_0.Level, .int .i64 b_0.At], box b2 [.int .i64 0, .int .i64 0, .int .i64 0, .int .i64 0, .int .i64 0, .int .i64 0]] (vcons rfl (vcons rfl (vcons rfl (vcons rfl (vnil))))) (by decide) rfl ?_
      refine ops_y (wn rfl) rfl (y_fieldAddr_box (sz := 0) Try.runUnderlying23 rfl Try.sizeOf3 rfl) ?_
      refine ops_t (wn rfl) rfl (t_store 0 Try.sizeOf3 rfl rfl rfl rfl (by simp [Value.cells]) (by simp [Value.cells, Value.oneCell'])) ?_
      rintro _ _ ⟨rfl, rfl⟩
      refine ops_turn (retell 0 (g := box b1 [.int .i64 b_0.Cap, .int .i64 b_0.Num, .int .i64 b_0.Den, .int .i64 (min (IntKind.i64.wrap (b_0.Cap * b_0.Den)) (IntKind.i64.wrap (b_0.Level + (IntKind.i64.wrap (b_0.Num * (IntKind.i64.wrap (t_1 - b_0.At))))))), .int .i64 b_0.At]) rfl rfl) ?_
      refine ops_nil ?_
      refine goes_code ?_
      refine run_seq ?_
      refine run_region' ?_
      refine ops_y (wn rfl) rfl (y_move rfl) ?_
      refine ops_y (wn rfl) rfl (y_fieldAddr_box (sz := 0) Try.runUnderlying23 rfl Try.sizeOf3 rfl) ?_
      refine ops_t (wn rfl) rfl (t_store 0 Try.sizeOf3 rfl rfl rfl rfl (by simp [Value.cells]) (by simp [Value.cells, Value.oneCell'])) ?_
      rintro _ _ ⟨rfl, rfl⟩
      refine ops_turn (retell 0 (g := box b1 [.int .i64 b_0.Cap, .int .i64 b_0.Num, .int .i64 b_0.Den, .int .i64 (min (IntKind.i64.wrap (b_0.Cap * b_0.Den)) (IntKind.i64.wrap (b_0.Level + (IntKind.i64.wrap (b_0.Num * (IntKind.i64.wrap (t_1 - b_0.At))))))), .int .i64 t_1]) rfl rfl) ?_
      refine ops_nil ?_
      refine goes_code ?_
      refine run_seq ?_
      refine run_region' ?_
      refine ops_y (wn rfl) rfl (y_load_boxagg (c := [.int .i64 b_0.Cap, .int .i64 b_0.Num, .int .i64 b_0.Den, .int .i64 (min (IntKind.i64.wrap (b_0.Cap * b_0.Den)) (IntKind.i64.wrap (b_0.Level + (IntKind.i64.wrap (b_0.Num * (IntKind.i64.wrap (t_1 - b_0.At))))))), .int .i64 t_1]) 0 Try.isAgg23 Try.sizeOf23 rfl rfl rfl) ?_
      refine ops_y (wn rfl) rfl (y_build_struct (cells := #[.int .i64 b_0.Cap, .int .i64 b_0.Num, .int .i64 b_0.Den, .int .i64 (min (IntKind.i64.wrap (b_0.Cap * b_0.Den)) (IntKind.i64.wrap (b_0.Level + (IntKind.i64.wrap (b_0.Num * (IntKind.i64.wrap (t_1 - b_0.At))))))), .int .i64 t_1, .int .i64 0]) [(0, .agg #[.int .i64 b_0.Cap, .int .i64 b_0.Num, .int .i64 b_0.Den, .int .i64 (min (IntKind.i64.wrap (b_0.Cap * b_0.Den)) (IntKind.i64.wrap (b_0.Level + (IntKind.i64.wrap (b_0.Num * (IntKind.i64.wrap (t_1 - b_0.At))))))), .int .i64 t_1])] [(0, [.int .i64 b_0.Cap, .int .i64 b_0.Num, .int .i64 b_0.Den, .int .i64 (min (IntKind.i64.wrap (b_0.Cap * b_0.Den)) (IntKind.i64.wrap (b_0.Level + (IntKind.i64.wrap (b_0.Num * (IntKind.i64.wrap (t_1 - b_0.At))))))), .int .i64 t_1])] Try.zeroValue33 Try.runUnderlying33 (fs_cons Try.sizeOf23 (fs_cons Try.sizeOf24 fs_nil)) rfl rfl rfl) ?_
      refine ops_t (wn rfl) rfl (t_store 1 Try.sizeOf33 rfl rfl rfl rfl (by simp [Value.cells]) (by simp [Value.cells, Value.oneCell'])) ?_
      rintro _ _ ⟨rfl, rfl⟩
      refine ops_turn (retell 1 (g := box b2 [.int .i64 b_0.Cap, .int .i64 b_0.Num, .int .i64 b_0.Den, .int .i64 (min (IntKind.i64.wrap (b_0.Cap * b_0.Den)) (IntKind.i64.wrap (b_0.Level + (IntKind.i64.wrap (b_0.Num * (IntKind.i64.wrap (t_1 - b_0.At))))))), .int .i64 t_1, .int .i64 0]) rfl rfl) ?_
      refine ops_nil ?_
      refine goes_code ?_
      refine run_ret ?_
      obtain rfl := some_eq h
      refine fin_res [.cell 4 33] [.agg #[.int .i64 b_0.Cap, .int .i64 b_0.Num, .int .i64 b_0.Den, .int .i64 (min (IntKind.i64.wrap (b_0.Cap * b_0.Den)) (IntKind.i64.wrap (b_0.Level + (IntKind.i64.wrap (b_0.Num * (IntKind.i64.wrap (t_1 - b_0.At))))))), .int .i64 t_1, .int .i64 0]] [] [] Try.results15 rfl (rescons (res_box 1 Try.isAgg33 Try.sizeOf33 rfl rfl rfl) resnil) (by decide) rfl ?_
      exact ⟨rfl, rfl⟩

def ref12_Take (b_0 : S_api_Bucket) (t_1 : Int) (n_2 : Int) : Option (S_ref12_Made) :=
  (ref12_Valid b_0).bind fun r3 =>
  cond (((!r3) || decide (n_2 < 1)) || decide (1073741824 < n_2))
    (some (S_ref12_Made.mk (S_api_Bucket.mk 0 0 0 0 0) 1))
    ((ref12_Refill b_0 t_1).bind fun r12 =>
    cond (decide (r12.E ≠ 0))
      (some r12)
      (cond (decide (r12.B.Level < (IntKind.i64.wrap (n_2 * b_0.Den))))
        (some (S_ref12_Made.mk (S_api_Bucket.mk 0 0 0 0 0) 4))
        (some (S_ref12_Made.mk (S_api_Bucket.mk r12.B.Cap r12.B.Num r12.B.Den (IntKind.i64.wrap (r12.B.Level - (IntKind.i64.wrap (n_2 * b_0.Den)))) r12.B.At) r12.E))))
theorem ref12_Take_ok (b_0 : S_api_Bucket) (t_1 : Int) (n_2 : Int)  {r : S_ref12_Made} (h : ref12_Take b_0 t_1 n_2 = some r) :
    Meets Try.prog 16 [.agg #[.int .i64 b_0.Cap, .int .i64 b_0.Num, .int .i64 b_0.Den, .int .i64 b_0.Level, .int .i64 b_0.At], .int .i64 t_1, .int .i64 n_2] [] (fun v G => v = .agg #[.int .i64 r.B.Cap, .int .i64 r.B.Num, .int .i64 r.B.Den, .int .i64 r.B.Level, .int .i64 r.B.At, .int .i64 r.E] ∧ G = []) := by
  refine fn_of_run Try.func16 rfl Try.ntmps16 rfl (fun w0 o0 => ?_)
  refine run_seq ?_
  refine run_region' ?_
  refine ops_t (wn rfl) rfl (t_box rfl) ?_
  rintro _ _ ⟨b1, rfl, rfl⟩
  refine ops_t (wn rfl) rfl (t_alloc Try.zeroValue33) ?_
  rintro _ _ ⟨b2, rfl, rfl⟩
  refine ops_nil ?_
  refine goes_code ?_
  refine run_seq ?_
  refine run_seq ?_
  refine run_region' ?_
  refine ops_y (wn rfl) rfl (y_load_boxagg (c := [.int .i64 b_0.Cap, .int .i64 b_0.Num, .int .i64 b_0.Den, .int .i64 b_0.Level, .int .i64 b_0.At]) 0 Try.isAgg23 Try.sizeOf23 rfl rfl rfl) ?_
  obtain ⟨r3, hr4, h⟩ := bind_some h
  refine ops_t (wn rfl) rfl (t_call (vs := [.agg #[.int .i64 b_0.Cap, .int .i64 b_0.Num, .int .i64 b_0.Den, .int .i64 b_0.Level, .int .i64 b_0.At]]) (cs := []) [] rfl Try.call21 rfl (ref12_Valid_ok b_0  hr4) shows_nil (.inl rfl)) ?_
  rintro _ _ ⟨_, ⟨rfl, rfl⟩, rfl⟩
  refine ops_y (wn rfl) rfl (y_not rfl) ?_
  refine ops_y (wn rfl) rfl (y_move rfl) ?_
  refine ops_cut 3 Bool (fun σ => [(1, .int .i64 t_1), (2, .int .i64 n_2), (3, boxP b1 0), (6, boxP b2 0), (14, .bool σ)]) (fun σ => [box b1 [.int .i64 b_0.Cap, .int .i64 b_0.Num, .int .i64 b_0.Den, .int .i64 b_0.Level, .int .i64 b_0.At], box b2 [.int .i64 0, .int .i64 0, .int .i64 0, .int .i64 0, .int .i64 0, .int .i64 0]]) (fun σ => σ = ((!r3) || decide (n_2 < 1))) (fun L5 hL6 => ?_) ?_
  · refine ops_split 11 (!r3) rfl (fun hg7 => ?_) (fun hg7 => ?_)
    · skip
      refine ops_no 3 false 11 rfl rfl rfl rfl rfl ?_
      refine ops_no 3 false 11 rfl rfl rfl rfl rfl ?_
      refine ops_y (wn rfl) rfl (y_pick (b := true) rfl rfl) ?_
      refine ops_nil ?_
      exact goes_cut hL6 true [0, 1] (vcons rfl (vcons rfl (vcons rfl (vcons rfl (vcons rfl (vnil)))))) (by decide) rfl (by rw [hg7]; simp)
    · skip
      refine ops_y (wg 3 false 11 rfl rfl rfl rfl) rfl (y_move rfl) ?_
      refine ops_y (wg 3 false 11 rfl rfl rfl rfl) rfl (y_lss rfl rfl) ?_
      refine ops_y (wn rfl) rfl (y_pick (b := false) rfl rfl) ?_
      refine ops_nil ?_
      exact goes_cut hL6 (decide (n_2 < 1)) [0, 1] (vcons rfl (vcons rfl (vcons rfl (vcons rfl (vcons rfl (vnil)))))) (by decide) rfl (by rw [hg7]; simp)
  rintro _ rfl
  refine ops_y (wn rfl) rfl (y_move rfl) ?_
  refine ops_cut 3 Bool (fun σ => [(1, .int .i64 t_1), (2, .int .i64 n_2), (3, boxP b1 0), (6, boxP b2 0), (18, .bool σ)]) (fun σ => [box b1 [.int .i64 b_0.Cap, .int .i64 b_0.Num, .int .i64 b_0.Den, .int .i64 b_0.Level, .int .i64 b_0.At], box b2 [.int .i64 0, .int .i64 0, .int .i64 0, .int .i64 0, .int .i64 0, .int .i64 0]]) (fun σ => σ = (((!r3) || decide (n_2 < 1)) || decide (1073741824 < n_2))) (fun L8 hL9 => ?_) ?_
  · refine ops_split 15 ((!r3) || decide (n_2 < 1)) rfl (fun hg10 => ?_) (fun hg10 => ?_)
    · skip
      refine ops_no 7 false 15 rfl rfl rfl rfl rfl ?_
      refine ops_no 7 false 15 rfl rfl rfl rfl rfl ?_
      refine ops_y (wn rfl) rfl (y_pick (b := true) rfl rfl) ?_
      refine ops_nil ?_
      exact goes_cut hL9 true [0, 1] (vcons rfl (vcons rfl (vcons rfl (vcons rfl (vcons rfl (vnil)))))) (by decide) rfl (by rw [hg10]; simp)
    · skip
      refine ops_y (wg 7 false 15 rfl rfl rfl rfl) rfl (y_move rfl) ?_
      refine ops_y (wg 7 false 15 rfl rfl rfl rfl) rfl (y_gtr rfl rfl) ?_
      refine ops_y (wn rfl) rfl (y_pick (b := false) rfl rfl) ?_
      refine ops_nil ?_
      exact goes_cut hL9 (decide (1073741824 < n_2)) [0, 1] (vcons rfl (vcons rfl (vcons rfl (vcons rfl (vcons rfl (vnil)))))) (by decide) rfl (by rw [hg10]; simp)
  rintro _ rfl
  refine ops_nil ?_
  refine goes_code ?_
  refine run_cond (((!r3) || decide (n_2 < 1)) || decide (1073741824 < n_2)) rfl (fun hc11 => ?_) (fun hc11 => ?_)
  · replace h := cond_t h hc11
    refine run_seq ?_
    refine run_region' ?_
    refine ops_y (wn rfl) rfl (y_build_struct (cells := #[.int .i64 0, .int .i64 0, .int .i64 0, .int .i64 0, .int .i64 0, .int .i64 1]) [(1, .int .i64 1)] [(1, [.int .i64 1])] Try.zeroValue33 Try.runUnderlying33 (fs_cons Try.sizeOf23 (fs_cons Try.sizeOf24 fs_nil)) rfl rfl rfl) ?_
    refine ops_t (wn rfl) rfl (t_store 1 Try.sizeOf33 rfl rfl rfl rfl (by simp [Value.cells]) (by simp [Value.cells, Value.oneCell'])) ?_
    rintro _ _ ⟨rfl, rfl⟩
    refine ops_turn (retell 1 (g := box b2 [.int .i64 0, .int .i64 0, .int .i64 0, .int .i64 0, .int .i64 0, .int .i64 1]) rfl rfl) ?_
    refine ops_nil ?_
    refine goes_code ?_
    refine run_ret ?_
    obtain rfl := some_eq h
    refine fin_res [.cell 6 33] [.agg #[.int .i64 0, .int .i64 0, .int .i64 0, .int .i64 0, .int .i64 0, .int .i64 1]] [] [] Try.results16 rfl (rescons (res_box 1 Try.isAgg33 Try.sizeOf33 rfl rfl rfl) resnil) (by decide) rfl ?_
    exact ⟨rfl, rfl⟩
  · replace h := cond_f h hc11
    refine run_skip ?_
    refine goes_code ?_
    refine run_seq ?_
    refine run_region' ?_
    refine ops_y (wn rfl) rfl (y_load_boxagg (c := [.int .i64 b_0.Cap, .int .i64 b_0.Num, .int .i64 b_0.Den, .int .i64 b_0.Level, .int .i64 b_0.At]) 0 Try.isAgg23 Try.sizeOf23 rfl rfl rfl) ?_
    refine ops_y (wn rfl) rfl (y_move rfl) ?_
    obtain ⟨r12, hr13, h⟩ := bind_some h
    refine ops_t (wn rfl) rfl (t_call (vs := [.agg #[.int .i64 b_0.Cap, .int .i64 b_0.Num, .int .i64 b_0.Den, .int .i64 b_0.Level, .int .i64 b_0.At], .int .i64 t_1]) (cs := []) [] rfl Try.call15 rfl (ref12_Refill_ok b_0 t_1  hr13) shows_nil (.inl rfl)) ?_
    rintro _ _ ⟨_, ⟨rfl, rfl⟩, rfl⟩
    refine ops_t (wn rfl) rfl (t_alloc Try.zeroValue33) ?_
    rintro _ _ ⟨b14, rfl, rfl⟩
    refine ops_t (wn rfl) rfl (t_store 2 Try.sizeOf33 rfl rfl rfl rfl (by simp [Value.cells]) (by simp [Value.cells, Value.oneCell'])) ?_
    rintro _ _ ⟨rfl, rfl⟩
    refine ops_turn (retell 2 (g := box b14 [.int .i64 r12.B.Cap, .int .i64 r12.B.Num, .int .i64 r12.B.Den, .int .i64 r12.B.Level, .int .i64 r12.B.At, .int .i64 r12.E]) rfl rfl) ?_
    refine ops_nil ?_
    refine goes_code ?_
    refine run_seq ?_
    refine run_seq ?_
    refine run_region' ?_
    refine ops_y (wn rfl) rfl (y_fieldAddr_box (sz := 0) Try.runUnderlying33 rfl Try.sizeOf24 rfl) ?_
    refine ops_y (wn rfl) rfl (y_load_box 2 Try.isAgg24 rfl rfl rfl) ?_
    refine ops_y (wn rfl) rfl (y_neq rfl rfl) ?_
    refine ops_nil ?_
    refine goes_code ?_
    refine run_cond (decide (r12.E ≠ 0)) rfl (fun hc15 => ?_) (fun hc15 => ?_)
    · replace h := cond_t h hc15
      refine run_seq ?_
      refine run_weak [(6, boxP b2 0), (7, boxP b14 0)] [1, 2] [box b2 [.int .i64 0, .int .i64 0, .int .i64 0, .int .i64 0, .int .i64 0, .int .i64 0], box b14 [.int .i64 r12.B.Cap, .int .i64 r12.B.Num, .int .i64 r12.B.Den, .int .i64 r12.B.Level, .int .i64 r12.B.At, .int .i64 r12.E]] (vcons rfl (vcons rfl (vnil))) (by decide) rfl ?_
      refine run_region' ?_
      refine ops_y (wn rfl) rfl (y_load_boxagg (c := [.int .i64 r12.B.Cap, .int .i64 r12.B.Num, .int .i64 r12.B.Den, .int .i64 r12.B.Level, .int .i64 r12.B.At, .int .i64 r12.E]) 1 Try.isAgg33 Try.sizeOf33 rfl rfl rfl) ?_
      refine ops_t (wn rfl) rfl (t_store 0 Try.sizeOf33 rfl rfl rfl rfl (by simp [Value.cells]) (by simp [Value.cells, Value.oneCell'])) ?_
      rintro _ _ ⟨rfl, rfl⟩
      refine ops_turn (retell 0 (g := box b2 [.int .i64 r12.B.Cap, .int .i64 r12.B.Num, .int .i64 r12.B.Den, .int .i64 r12.B.Level, .int .i64 r12.B.At, .int .i64 r12.E]) rfl rfl) ?_
      refine ops_nil ?_
      refine goes_code ?_
      refine run_ret ?_
      obtain rfl := some_eq h
      refine fin_res [.cell 6 33] [.agg #[.int .i64 r12.B.Cap, .int .i64 r12.B.Num, .int .i64 r12.B.Den, .int .i64 r12.B.Level, .int .i64 r12.B.At, .int .i64 r12.E]] [] [] Try.results16 rfl (rescons (res_box 0 Try.isAgg33 Try.sizeOf33 rfl rfl rfl) resnil) (by decide) rfl ?_
      exact ⟨rfl, rfl⟩
    · replace h := cond_f h hc15
      refine run_skip ?_
      refine goes_code ?_
      refine run_seq ?_
      refine run_seq ?_
      refine run_weak [(2, .int .i64 n_2), (3, boxP b1 0), (6, boxP b2 0), (7, boxP b14 0)] [0, 1, 2] [box b1 [.int .i64 b_0.Cap, .int .i64 b_0.Num, .int .i64 b_0.Den, .int .i64 b_0.Level, .int .i64 b_0.At], box b2 [.int .i64 0, .int .i64 0, .int .i64 0, .int .i64 0, .int .i64 0, .int .i64 0], box b14 [.int .i64 r12.B.Cap, .int .i64 r12.B.Num, .int .i64 r12.B.Den, .int .i64 r12.B.Level, .int .i64 r12.B.At, .int .i64 r12.E]] (vcons rfl (vcons rfl (vcons rfl (vcons rfl (vnil))))) (by decide) rfl ?_
      refine run_region' ?_
      refine ops_y (wn rfl) rfl (y_fieldAddr_box (sz := 4) Try.runUnderlying33 rfl Try.sizeOf23 rfl) ?_
      refine ops_y (wn rfl) rfl (y_fieldAddr_box (sz := 0) Try.runUnderlying23 rfl Try.sizeOf3 rfl) ?_
      refine ops_y (wn rfl) rfl (y_load_box 2 Try.isAgg3 rfl rfl rfl) ?_
      refine ops_y (wn rfl) rfl (y_move rfl) ?_
      refine ops_y (wn rfl) rfl (y_fieldAddr_box (sz := 0) Try.runUnderlying23 rfl Try.sizeOf3 rfl) ?_
      refine ops_y (wn rfl) rfl (y_load_box 0 Try.isAgg3 rfl rfl rfl) ?_
      refine ops_y (wn rfl) rfl (y_mul rfl rfl) ?_
      refine ops_y (wn rfl) rfl (y_lss rfl rfl) ?_
      refine ops_nil ?_
      refine goes_code ?_
      refine run_cond (decide (r12.B.Level < (IntKind.i64.wrap (n_2 * b_0.Den)))) rfl (fun hc16 => ?_) (fun hc16 => ?_)
      · replace h := cond_t h hc16
        refine run_seq ?_
        refine run_weak [(6, boxP b2 0)] [1] [box b2 [.int .i64 0, .int .i64 0, .int .i64 0, .int .i64 0, .int .i64 0, .int .i64 0]] (vcons rfl (vnil)) (by decide) rfl ?_
        refine run_region' ?_
        refine ops_y (wn rfl) rfl (y_build_struct (cells := #[.int .i64 0, .int .i64 0, .int .i64 0, .int .i64 0, .int .i64 0, .int .i64 4]) [(1, .int .i64 4)] [(1, [.int .i64 4])] Try.zeroValue33 Try.runUnderlying33 (fs_cons Try.sizeOf23 (fs_cons Try.sizeOf24 fs_nil)) rfl rfl rfl) ?_
        refine ops_t (wn rfl) rfl (t_store 0 Try.sizeOf33 rfl rfl rfl rfl (by simp [Value.cells]) (by simp [Value.cells, Value.oneCell'])) ?_
        rintro _ _ ⟨rfl, rfl⟩
        refine ops_turn (retell 0 (g := box b2 [.int .i64 0, .int .i64 0, .int .i64 0, .int .i64 0, .int .i64 0, .int .i64 4]) rfl rfl) ?_
        refine ops_nil ?_
        refine goes_code ?_
        refine run_ret ?_
        obtain rfl := some_eq h
        refine fin_res [.cell 6 33] [.agg #[.int .i64 0, .int .i64 0, .int .i64 0, .int .i64 0, .int .i64 0, .int .i64 4]] [] [] Try.results16 rfl (rescons (res_box 0 Try.isAgg33 Try.sizeOf33 rfl rfl rfl) resnil) (by decide) rfl ?_
        exact ⟨rfl, rfl⟩
      · replace h := cond_f h hc16
        refine run_skip ?_
        refine goes_code ?_
        refine run_seq ?_
        refine run_weak [(2, .int .i64 n_2), (3, boxP b1 0), (6, boxP b2 0), (7, boxP b14 0)] [0, 1, 2] [box b1 [.int .i64 b_0.Cap, .int .i64 b_0.Num, .int .i64 b_0.Den, .int .i64 b_0.Level, .int .i64 b_0.At], box b2 [.int .i64 0, .int .i64 0, .int .i64 0, .int .i64 0, .int .i64 0, .int .i64 0], box b14 [.int .i64 r12.B.Cap, .int .i64 r12.B.Num, .int .i64 r12.B.Den, .int .i64 r12.B.Level, .int .i64 r12.B.At, .int .i64 r12.E]] (vcons rfl (vcons rfl (vcons rfl (vcons rfl (vnil))))) (by decide) rfl ?_
        refine run_region' ?_
        refine ops_y (wn rfl) rfl (y_fieldAddr_box (sz := 4) Try.runUnderlying33 rfl Try.sizeOf23 rfl) ?_
        refine ops_y (wn rfl) rfl (y_fieldAddr_box (sz := 0) Try.runUnderlying23 rfl Try.sizeOf3 rfl) ?_
        refine ops_y (wn rfl) rfl (y_load_box 2 Try.isAgg3 rfl rfl rfl) ?_
        refine ops_y (wn rfl) rfl (y_move rfl) ?_
        refine ops_y (wn rfl) rfl (y_fieldAddr_box (sz := 0) Try.runUnderlying23 rfl Try.sizeOf3 rfl) ?_
        refine ops_y (wn rfl) rfl (y_load_box 0 Try.isAgg3 rfl rfl rfl) ?_
        refine ops_y (wn rfl) rfl (y_mul rfl rfl) ?_
        refine ops_y (wn rfl) rfl (y_sub rfl rfl) ?_
        refine ops_y (wn rfl) rfl (y_fieldAddr_box (sz := 4) Try.runUnderlying33 rfl Try.sizeOf23 rfl) ?_
        refine ops_y (wn rfl) rfl (y_fieldAddr_box (sz := 0) Try.runUnderlying23 rfl Try.sizeOf3 rfl) ?_
        refine ops_t (wn rfl) rfl (t_store 2 Try.sizeOf3 rfl rfl rfl rfl (by simp [Value.cells]) (by simp [Value.cells, Value.oneCell'])) ?_
        rintro _ _ ⟨rfl, rfl⟩
        refine ops_turn (retell 2 (g := box b14 [.int .i64 r12.B.Cap, .int .i64 r12.B.Num, .int .i64 r12.B.Den, .int .i64 (IntKind.i64.wrap (r12.B.Level - (IntKind.i64.wrap (n_2 * b_0.Den)))), .int .i64 r12.B.At, .int .i64 r12.E]) rfl rfl) ?_
        refine ops_nil ?_
        refine goes_code ?_
        refine run_seq ?_
        refine run_weak [(6, boxP b2 0), (7, boxP b14 0)] [1, 2] [box b2 [.int .i64 0, .int .i64 0, .int .i64 0, .int .i64 0, .int .i64 0, .int .i64 0], box b14 [.int .i64 r12.B.Cap, .int .i64 r12.B.Num, .int .i64 r12.B.Den, .int .i64 (IntKind.i64.wrap (r12.B.Level - (IntKind.i64.wrap (n_2 * b_0.Den)))), .int .i64 r12.B.At, .int .i64 r12.E]] (vcons rfl (vcons rfl (vnil))) (by decide) rfl ?_
        refine run_region' ?_
        refine ops_y (wn rfl) rfl (y_load_boxagg (c := [.int .i64 r12.B.Cap, .int .i64 r12.B.Num, .int .i64 r12.B.Den, .int .i64 (IntKind.i64.wrap (r12.B.Level - (IntKind.i64.wrap (n_2 * b_0.Den)))), .int .i64 r12.B.At, .int .i64 r12.E]) 1 Try.isAgg33 Try.sizeOf33 rfl rfl rfl) ?_
        refine ops_t (wn rfl) rfl (t_store 0 Try.sizeOf33 rfl rfl rfl rfl (by simp [Value.cells]) (by simp [Value.cells, Value.oneCell'])) ?_
        rintro _ _ ⟨rfl, rfl⟩
        refine ops_turn (retell 0 (g := box b2 [.int .i64 r12.B.Cap, .int .i64 r12.B.Num, .int .i64 r12.B.Den, .int .i64 (IntKind.i64.wrap (r12.B.Level - (IntKind.i64.wrap (n_2 * b_0.Den)))), .int .i64 r12.B.At, .int .i64 r12.E]) rfl rfl) ?_
        refine ops_nil ?_
        refine goes_code ?_
        refine run_ret ?_
        obtain rfl := some_eq h
        refine fin_res [.cell 6 33] [.agg #[.int .i64 r12.B.Cap, .int .i64 r12.B.Num, .int .i64 r12.B.Den, .int .i64 (IntKind.i64.wrap (r12.B.Level - (IntKind.i64.wrap (n_2 * b_0.Den)))), .int .i64 r12.B.At, .int .i64 r12.E]] [] [] Try.results16 rfl (rescons (res_box 0 Try.isAgg33 Try.sizeOf33 rfl rfl rfl) resnil) (by decide) rfl ?_
        exact ⟨rfl, rfl⟩

def ref12_Wait (b_0 : S_api_Bucket) (n_1 : Int) : Option (S_ref12_Number) :=
  (ref12_Valid b_0).bind fun r3 =>
  cond (((!r3) || decide (n_1 < 1)) || decide (1073741824 < n_1))
    (some (S_ref12_Number.mk 0 1))
    (cond (decide (b_0.Cap < n_1))
      (some (S_ref12_Number.mk 0 2))
      (cond (decide ((IntKind.i64.wrap ((IntKind.i64.wrap (n_1 * b_0.Den)) - b_0.Level)) ≤ 0))
        (some (S_ref12_Number.mk b_0.At 0))
        (cond (decide (b_0.Num = 0))
          (some (S_ref12_Number.mk 0 4))
          (need (b_0.Num ≠ 0) (
          cond (decide (1099511627776 < (IntKind.i64.wrap (b_0.At + (IntKind.i64.wrap ((IntKind.i64.wrap ((IntKind.i64.wrap ((IntKind.i64.wrap ((IntKind.i64.wrap (n_1 * b_0.Den)) - b_0.Level)) + b_0.Num)) - 1)).tdiv b_0.Num))))))
            (some (S_ref12_Number.mk 0 4))
            (some (S_ref12_Number.mk (IntKind.i64.wrap (b_0.At + (IntKind.i64.wrap ((IntKind.i64.wrap ((IntKind.i64.wrap ((IntKind.i64.wrap ((IntKind.i64.wrap (n_1 * b_0.Den)) - b_0.Level)) + b_0.Num)) - 1)).tdiv b_0.Num)))) 0)))))))
theorem ref12_Wait_ok (b_0 : S_api_Bucket) (n_1 : Int)  {r : S_ref12_Number} (h : ref12_Wait b_0 n_1 = some r) :
    Meets Try.prog 17 [.agg #[.int .i64 b_0.Cap, .int .i64 b_0.Num, .int .i64 b_0.Den, .int .i64 b_0.Level, .int .i64 b_0.At], .int .i64 n_1] [] (fun v G => v = .agg #[.int .i64 r.N, .int .i64 r.E] ∧ G = []) := by
  refine fn_of_run Try.func17 rfl Try.ntmps17 rfl (fun w0 o0 => ?_)
  refine run_seq ?_
  refine run_region' ?_
  refine ops_t (wn rfl) rfl (t_box rfl) ?_
  rintro _ _ ⟨b1, rfl, rfl⟩
  refine ops_t (wn rfl) rfl (t_alloc Try.zeroValue38) ?_
  rintro _ _ ⟨b2, rfl, rfl⟩
  refine ops_nil ?_
  refine goes_code ?_
  refine run_seq ?_
  refine run_seq ?_
  refine run_region' ?_
  refine ops_y (wn rfl) rfl (y_load_boxagg (c := [.int .i64 b_0.Cap, .int .i64 b_0.Num, .int .i64 b_0.Den, .int .i64 b_0.Level, .int .i64 b_0.At]) 0 Try.isAgg23 Try.sizeOf23 rfl rfl rfl) ?_
  obtain ⟨r3, hr4, h⟩ := bind_some h
  refine ops_t (wn rfl) rfl (t_call (vs := [.agg #[.int .i64 b_0.Cap, .int .i64 b_0.Num, .int .i64 b_0.Den, .int .i64 b_0.Level, .int .i64 b_0.At]]) (cs := []) [] rfl Try.call21 rfl (ref12_Valid_ok b_0  hr4) shows_nil (.inl rfl)) ?_
  rintro _ _ ⟨_, ⟨rfl, rfl⟩, rfl⟩
  refine ops_y (wn rfl) rfl (y_not rfl) ?_
  refine ops_y (wn rfl) rfl (y_move rfl) ?_
  refine ops_cut 3 Bool (fun σ => [(1, .int .i64 n_1), (2, boxP b1 0), (4, boxP b2 0), (13, .bool σ)]) (fun σ => [box b1 [.int .i64 b_0.Cap, .int .i64 b_0.Num, .int .i64 b_0.Den, .int .i64 b_0.Level, .int .i64 b_0.At], box b2 [.int .i64 0, .int .i64 0]]) (fun σ => σ = ((!r3) || decide (n_1 < 1))) (fun L5 hL6 => ?_) ?_
  · refine ops_split 10 (!r3) rfl (fun hg7 => ?_) (fun hg7 => ?_)
    · skip
      refine ops_no 3 false 10 rfl rfl rfl rfl rfl ?_
      refine ops_no 3 false 10 rfl rfl rfl rfl rfl ?_
      refine ops_y (wn rfl) rfl (y_pick (b := true) rfl rfl) ?_
      refine ops_nil ?_
      exact goes_cut hL6 true [0, 1] (vcons rfl (vcons rfl (vcons rfl (vcons rfl (vnil))))) (by decide) rfl (by rw [hg7]; simp)
    · skip
      refine ops_y (wg 3 false 10 rfl rfl rfl rfl) rfl (y_move rfl) ?_
      refine ops_y (wg 3 false 10 rfl rfl rfl rfl) rfl (y_lss rfl rfl) ?_
      refine ops_y (wn rfl) rfl (y_pick (b := false) rfl rfl) ?_
      refine ops_nil ?_
      exact goes_cut hL6 (decide (n_1 < 1)) [0, 1] (vcons rfl (vcons rfl (vcons rfl (vcons rfl (vnil))))) (by decide) rfl (by rw [hg7]; simp)
  rintro _ rfl
  refine ops_y (wn rfl) rfl (y_move rfl) ?_
  refine ops_cut 3 Bool (fun σ => [(1, .int .i64 n_1), (2, boxP b1 0), (4, boxP b2 0), (17, .bool σ)]) (fun σ => [box b1 [.int .i64 b_0.Cap, .int .i64 b_0.Num, .int .i64 b_0.Den, .int .i64 b_0.Level, .int .i64 b_0.At], box b2 [.int .i64 0, .int .i64 0]]) (fun σ => σ = (((!r3) || decide (n_1 < 1)) || decide (1073741824 < n_1))) (fun L8 hL9 => ?_) ?_
  · refine ops_split 14 ((!r3) || decide (n_1 < 1)) rfl (fun hg10 => ?_) (fun hg10 => ?_)
    · skip
      refine ops_no 7 false 14 rfl rfl rfl rfl rfl ?_
      refine ops_no 7 false 14 rfl rfl rfl rfl rfl ?_
      refine ops_y (wn rfl) rfl (y_pick (b := true) rfl rfl) ?_
      refine ops_nil ?_
      exact goes_cut hL9 true [0, 1] (vcons rfl (vcons rfl (vcons rfl (vcons rfl (vnil))))) (by decide) rfl (by rw [hg10]; simp)
    · skip
      refine ops_y (wg 7 false 14 rfl rfl rfl rfl) rfl (y_move rfl) ?_
      refine ops_y (wg 7 false 14 rfl rfl rfl rfl) rfl (y_gtr rfl rfl) ?_
      refine ops_y (wn rfl) rfl (y_pick (b := false) rfl rfl) ?_
      refine ops_nil ?_
      exact goes_cut hL9 (decide (1073741824 < n_1)) [0, 1] (vcons rfl (vcons rfl (vcons rfl (vcons rfl (vnil))))) (by decide) rfl (by rw [hg10]; simp)
  rintro _ rfl
  refine ops_nil ?_
  refine goes_code ?_
  refine run_cond (((!r3) || decide (n_1 < 1)) || decide (1073741824 < n_1)) rfl (fun hc11 => ?_) (fun hc11 => ?_)
  · replace h := cond_t h hc11
    refine run_seq ?_
    refine run_region' ?_
    refine ops_y (wn rfl) rfl (y_build_struct (cells := #[.int .i64 0, .int .i64 1]) [(1, .int .i64 1)] [(1, [.int .i64 1])] Try.zeroValue38 Try.runUnderlying38 (fs_cons Try.sizeOf3 (fs_cons Try.sizeOf24 fs_nil)) rfl rfl rfl) ?_
    refine ops_t (wn rfl) rfl (t_store 1 Try.sizeOf38 rfl rfl rfl rfl (by simp [Value.cells]) (by simp [Value.cells, Value.oneCell'])) ?_
    rintro _ _ ⟨rfl, rfl⟩
    refine ops_turn (retell 1 (g := box b2 [.int .i64 0, .int .i64 1]) rfl rfl) ?_
    refine ops_nil ?_
    refine goes_code ?_
    refine run_ret ?_
    obtain rfl := some_eq h
    refine fin_res [.cell 4 38] [.agg #[.int .i64 0, .int .i64 1]] [] [] Try.results17 rfl (rescons (res_box 1 Try.isAgg38 Try.sizeOf38 rfl rfl rfl) resnil) (by decide) rfl ?_
    exact ⟨rfl, rfl⟩
  · replace h := cond_f h hc11
    refine run_skip ?_
    refine goes_code ?_
    refine run_seq ?_
    refine run_seq ?_
    refine run_region' ?_
    refine ops_y (wn rfl) rfl (y_move rfl) ?_
    refine ops_y (wn rfl) rfl (y_fieldAddr_box (sz := 0) Try.runUnderlying23 rfl Try.sizeOf3 rfl) ?_
    refine ops_y (wn rfl) rfl (y_load_box 0 Try.isAgg3 rfl rfl rfl) ?_
    refine ops_y (wn rfl) rfl (y_gtr rfl rfl) ?_
    refine ops_nil ?_
    refine goes_code ?_
    refine run_cond (decide (b_0.Cap < n_1)) rfl (fun hc12 => ?_) (fun hc12 => ?_)
    · replace h := cond_t h hc12
      refine run_seq ?_
      refine run_region' ?_
      refine ops_y (wn rfl) rfl (y_build_struct (cells := #[.int .i64 0, .int .i64 2]) [(1, .int .i64 2)] [(1, [.int .i64 2])] Try.zeroValue38 Try.runUnderlying38 (fs_cons Try.sizeOf3 (fs_cons Try.sizeOf24 fs_nil)) rfl rfl rfl) ?_
      refine ops_t (wn rfl) rfl (t_store 1 Try.sizeOf38 rfl rfl rfl rfl (by simp [Value.cells]) (by simp [Value.cells, Value.oneCell'])) ?_
      rintro _ _ ⟨rfl, rfl⟩
      refine ops_turn (retell 1 (g := box b2 [.int .i64 0, .int .i64 2]) rfl rfl) ?_
      refine ops_nil ?_
      refine goes_code ?_
      refine run_ret ?_
      obtain rfl := some_eq h
      refine fin_res [.cell 4 38] [.agg #[.int .i64 0, .int .i64 2]] [] [] Try.results17 rfl (rescons (res_box 1 Try.isAgg38 Try.sizeOf38 rfl rfl rfl) resnil) (by decide) rfl ?_
      exact ⟨rfl, rfl⟩
    · replace h := cond_f h hc12
      refine run_skip ?_
      refine goes_code ?_
      refine run_seq ?_
      refine run_region' ?_
      refine ops_y (wn rfl) rfl (y_move rfl) ?_
      refine ops_y (wn rfl) rfl (y_fieldAddr_box (sz := 0) Try.runUnderlying23 rfl Try.sizeOf3 rfl) ?_
      refine ops_y (wn rfl) rfl (y_load_box 0 Try.isAgg3 rfl rfl rfl) ?_
      refine ops_y (wn rfl) rfl (y_mul rfl rfl) ?_
      refine ops_y (wn rfl) rfl (y_fieldAddr_box (sz := 0) Try.runUnderlying23 rfl Try.sizeOf3 rfl) ?_
      refine ops_y (wn rfl) rfl (y_load_box 0 Try.isAgg3 rfl rfl rfl) ?_
      refine ops_y (wn rfl) rfl (y_sub rfl rfl) ?_
      refine ops_y (wn rfl) rfl (y_assign rfl) ?_
      refine ops_nil ?_
      refine goes_code ?_
      refine run_seq ?_
      refine run_seq ?_
      refine run_weak [(2, boxP b1 0), (4, boxP b2 0), (5, .int .i64 (IntKind.i64.wrap ((IntKind.i64.wrap (n_1 * b_0.Den)) - b_0.Level)))] [0, 1] [box b1 [.int .i64 b_0.Cap, .int .i64 b_0.Num, .int .i64 b_0.Den, .int .i64 b_0.Level, .int .i64 b_0.At], box b2 [.int .i64 0, .int .i64 0]] (vcons rfl (vcons rfl (vcons rfl (vnil)))) (by decide) rfl ?_
      refine run_region' ?_
      refine ops_y (wn rfl) rfl (y_move rfl) ?_
      refine ops_y (wn rfl) rfl (y_leq rfl rfl) ?_
      refine ops_nil ?_
      refine goes_code ?_
      refine run_cond (decide ((IntKind.i64.wrap ((IntKind.i64.wrap (n_1 * b_0.Den)) - b_0.Level)) ≤ 0)) rfl (fun hc13 => ?_) (fun hc13 => ?_)
      · replace h := cond_t h hc13
        refine run_seq ?_
        refine run_region' ?_
        refine ops_y (wn rfl) rfl (y_fieldAddr_box (sz := 0) Try.runUnderlying23 rfl Try.sizeOf3 rfl) ?_
        refine ops_y (wn rfl) rfl (y_load_box 0 Try.isAgg3 rfl rfl rfl) ?_
        refine ops_y (wn rfl) rfl (y_build_struct (cells := #[.int .i64 b_0.At, .int .i64 0]) [(0, .int .i64 b_0.At)] [(0, [.int .i64 b_0.At])] Try.zeroValue38 Try.runUnderlying38 (fs_cons Try.sizeOf3 (fs_cons Try.sizeOf24 fs_nil)) rfl rfl rfl) ?_
        refine ops_t (wn rfl) rfl (t_store 1 Try.sizeOf38 rfl rfl rfl rfl (by simp [Value.cells]) (by simp [Value.cells, Value.oneCell'])) ?_
        rintro _ _ ⟨rfl, rfl⟩
        refine ops_turn (retell 1 (g := box b2 [.int .i64 b_0.At, .int .i64 0]) rfl rfl) ?_
        refine ops_nil ?_
        refine goes_code ?_
        refine run_ret ?_
        obtain rfl := some_eq h
        refine fin_res [.cell 4 38] [.agg #[.int .i64 b_0.At, .int .i64 0]] [] [] Try.results17 rfl (rescons (res_box 1 Try.isAgg38 Try.sizeOf38 rfl rfl rfl) resnil) (by decide) rfl ?_
        exact ⟨rfl, rfl⟩
      · replace h := cond_f h hc13
        refine run_skip ?_
        refine goes_code ?_
        refine run_seq ?_
        refine run_seq ?_
        refine run_region' ?_
        refine ops_y (wn rfl) rfl (y_fieldAddr_box (sz := 0) Try.runUnderlying23 rfl Try.sizeOf3 rfl) ?_
        refine ops_y (wn rfl) rfl (y_load_box 0 Try.isAgg3 rfl rfl rfl) ?_
        refine ops_y (wn rfl) rfl (y_eql rfl rfl) ?_
        refine ops_nil ?_
        refine goes_code ?_
        refine run_cond (decide (b_0.Num = 0)) rfl (fun hc14 => ?_) (fun hc14 => ?_)
        · replace h := cond_t h hc14
          refine run_seq ?_
          refine run_region' ?_
          refine ops_y (wn rfl) rfl (y_build_struct (cells := #[.int .i64 0, .int .i64 4]) [(1, .int .i64 4)] [(1, [.int .i64 4])] Try.zeroValue38 Try.runUnderlying38 (fs_cons Try.sizeOf3 (fs_cons Try.sizeOf24 fs_nil)) rfl rfl rfl) ?_
          refine ops_t (wn rfl) rfl (t_store 1 Try.sizeOf38 rfl rfl rfl rfl (by simp [Value.cells]) (by simp [Value.cells, Value.oneCell'])) ?_
          rintro _ _ ⟨rfl, rfl⟩
          refine ops_turn (retell 1 (g := box b2 [.int .i64 0, .int .i64 4]) rfl rfl) ?_
          refine ops_nil ?_
          refine goes_code ?_
          refine run_ret ?_
          obtain rfl := some_eq h
          refine fin_res [.cell 4 38] [.agg #[.int .i64 0, .int .i64 4]] [] [] Try.results17 rfl (rescons (res_box 1 Try.isAgg38 Try.sizeOf38 rfl rfl rfl) resnil) (by decide) rfl ?_
          exact ⟨rfl, rfl⟩
        · replace h := cond_f h hc14
          refine run_skip ?_
          refine goes_code ?_
          refine run_seq ?_
          refine run_draw (by kernel_rfl) (by kernel_rfl) ?_
          refine still_y (wn rfl) rfl (y_fieldAddr_box (sz := 0) Try.runUnderlying23 rfl Try.sizeOf3 rfl) ?_
          refine still_y (wn rfl) rfl (y_load_box 0 Try.isAgg3 rfl rfl rfl) ?_
          refine still_y (wn rfl) rfl (y_move rfl) ?_
          refine still_y (wn rfl) rfl (y_fieldAddr_box (sz := 0) Try.runUnderlying23 rfl Try.sizeOf3 rfl) ?_
          refine still_y (wn rfl) rfl (y_load_box 0 Try.isAgg3 rfl rfl rfl) ?_
          refine still_y (wn rfl) rfl (y_add rfl rfl) ?_
          refine still_y (wn rfl) rfl (y_sub rfl rfl) ?_
          refine still_y (wn rfl) rfl (y_fieldAddr_box (sz := 0) Try.runUnderlying23 rfl Try.sizeOf3 rfl) ?_
          refine still_y (wn rfl) rfl (y_load_box 0 Try.isAgg3 rfl rfl rfl) ?_
          obtain ⟨hd15, h⟩ := need_some h
          refine still_y (wn rfl) rfl (y_quo rfl rfl hd15) ?_
          refine still_y (wn rfl) rfl (y_add rfl rfl) ?_
          refine still_y (wn rfl) rfl (y_assign rfl) ?_
          refine still_nil ?_
          refine goes_code ?_
          refine run_seq ?_
          refine run_seq ?_
          refine run_weak [(4, boxP b2 0), (6, .int .i64 (IntKind.i64.wrap (b_0.At + (IntKind.i64.wrap ((IntKind.i64.wrap ((IntKind.i64.wrap ((IntKind.i64.wrap ((IntKind.i64.wrap (n_1 * b_0.Den)) - b_0.Level)) + b_0.Num)) - 1)).tdiv b_0.Num)))))] [1] [box b2 [.int .i64 0, .int .i64 0]] (vcons rfl (vcons rfl (vnil))) (by decide) rfl ?_
          refine run_region' ?_
          refine ops_y (wn rfl) rfl (y_move rfl) ?_
          refine ops_y (wn rfl) rfl (y_gtr rfl rfl) ?_
          refine ops_nil ?_
          refine goes_code ?_
          refine run_cond (decide (1099511627776 < (IntKind.i64.wrap (b_0.At + (IntKind.i64.wrap ((IntKind.i64.wrap ((IntKind.i64.wrap ((IntKind.i64.wrap ((IntKind.i64.wrap (n_1 * b_0.Den)) - b_0.Level)) + b_0.Num)) - 1)).tdiv b_0.Num)))))) rfl (fun hc16 => ?_) (fun hc16 => ?_)
          · replace h := cond_t h hc16
            refine run_seq ?_
            refine run_region' ?_
            refine ops_y (wn rfl) rfl (y_build_struct (cells := #[.int .i64 0, .int .i64 4]) [(1, .int .i64 4)] [(1, [.int .i64 4])] Try.zeroValue38 Try.runUnderlying38 (fs_cons Try.sizeOf3 (fs_cons Try.sizeOf24 fs_nil)) rfl rfl rfl) ?_
            refine ops_t (wn rfl) rfl (t_store 0 Try.sizeOf38 rfl rfl rfl rfl (by simp [Value.cells]) (by simp [Value.cells, Value.oneCell'])) ?_
            rintro _ _ ⟨rfl, rfl⟩
            refine ops_turn (retell 0 (g := box b2 [.int .i64 0, .int .i64 4]) rfl rfl) ?_
            refine ops_nil ?_
            refine goes_code ?_
            refine run_ret ?_
            obtain rfl := some_eq h
            refine fin_res [.cell 4 38] [.agg #[.int .i64 0, .int .i64 4]] [] [] Try.results17 rfl (rescons (res_box 0 Try.isAgg38 Try.sizeOf38 rfl rfl rfl) resnil) (by decide) rfl ?_
            exact ⟨rfl, rfl⟩
          · replace h := cond_f h hc16
            refine run_skip ?_
            refine goes_code ?_
            refine run_seq ?_
            refine run_region' ?_
            refine ops_y (wn rfl) rfl (y_move rfl) ?_
            refine ops_y (wn rfl) rfl (y_build_struct (cells := #[.int .i64 (IntKind.i64.wrap (b_0.At + (IntKind.i64.wrap ((IntKind.i64.wrap ((IntKind.i64.wrap ((IntKind.i64.wrap ((IntKind.i64.wrap (n_1 * b_0.Den)) - b_0.Level)) + b_0.Num)) - 1)).tdiv b_0.Num)))), .int .i64 0]) [(0, .int .i64 (IntKind.i64.wrap (b_0.At + (IntKind.i64.wrap ((IntKind.i64.wrap ((IntKind.i64.wrap ((IntKind.i64.wrap ((IntKind.i64.wrap (n_1 * b_0.Den)) - b_0.Level)) + b_0.Num)) - 1)).tdiv b_0.Num)))))] [(0, [.int .i64 (IntKind.i64.wrap (b_0.At + (IntKind.i64.wrap ((IntKind.i64.wrap ((IntKind.i64.wrap ((IntKind.i64.wrap ((IntKind.i64.wrap (n_1 * b_0.Den)) - b_0.Level)) + b_0.Num)) - 1)).tdiv b_0.Num))))])] Try.zeroValue38 Try.runUnderlying38 (fs_cons Try.sizeOf3 (fs_cons Try.sizeOf24 fs_nil)) rfl rfl rfl) ?_
            refine ops_t (wn rfl) rfl (t_store 0 Try.sizeOf38 rfl rfl rfl rfl (by simp [Value.cells]) (by simp [Value.cells, Value.oneCell'])) ?_
            rintro _ _ ⟨rfl, rfl⟩
            refine ops_turn (retell 0 (g := box b2 [.int .i64 (IntKind.i64.wrap (b_0.At + (IntKind.i64.wrap ((IntKind.i64.wrap ((IntKind.i64.wrap ((IntKind.i64.wrap ((IntKind.i64.wrap (n_1 * b_0.Den)) - b_0.Level)) + b_0.Num)) - 1)).tdiv b_0.Num)))), .int .i64 0]) rfl rfl) ?_
            refine ops_nil ?_
            refine goes_code ?_
            refine run_ret ?_
            obtain rfl := some_eq h
            refine fin_res [.cell 4 38] [.agg #[.int .i64 (IntKind.i64.wrap (b_0.At + (IntKind.i64.wrap ((IntKind.i64.wrap ((IntKind.i64.wrap ((IntKind.i64.wrap ((IntKind.i64.wrap (n_1 * b_0.Den)) - b_0.Level)) + b_0.Num)) - 1)).tdiv b_0.Num)))), .int .i64 0]] [] [] Try.results17 rfl (rescons (res_box 0 Try.isAgg38 Try.sizeOf38 rfl rfl rfl) resnil) (by decide) rfl ?_
            exact ⟨rfl, rfl⟩

def ref12_Most (b_0 : S_api_Bucket) (from_1 : Int) (to_2 : Int) : Option (S_ref12_Number) :=
  (ref12_Valid b_0).bind fun r3 =>
  cond ((!r3) || decide (to_2 < from_1))
    (some (S_ref12_Number.mk 0 1))
    ((ref12_Refill b_0 from_1).bind fun r9 =>
    cond (decide (r9.E ≠ 0))
      (some (S_ref12_Number.mk 0 r9.E))
      (cond (decide (from_1 = to_2))
        (some (S_ref12_Number.mk 0 0))
        (cond (decide (1099511627776 < to_2))
          (some (S_ref12_Number.mk 0 9))
          (need (b_0.Den ≠ 0) (
          some (S_ref12_Number.mk (IntKind.i64.wrap ((IntKind.i64.wrap (r9.B.Level + (IntKind.i64.wrap (b_0.Num * (IntKind.i64.wrap ((IntKind.i64.wrap (to_2 - 1)) - from_1)))))).tdiv b_0.Den)) 0))))))
theorem ref12_Most_ok (b_0 : S_api_Bucket) (from_1 : Int) (to_2 : Int)  {r : S_ref12_Number} (h : ref12_Most b_0 from_1 to_2 = some r) :
    Meets Try.prog 18 [.agg #[.int .i64 b_0.Cap, .int .i64 b_0.Num, .int .i64 b_0.Den, .int .i64 b_0.Level, .int .i64 b_0.At], .int .i64 from_1, .int .i64 to_2] [] (fun v G => v = .agg #[.int .i64 r.N, .int .i64 r.E] ∧ G = []) := by
  refine fn_of_run Try.func18 rfl Try.ntmps18 rfl (fun w0 o0 => ?_)
  refine run_seq ?_
  refine run_region' ?_
  refine ops_t (wn rfl) rfl (t_box rfl) ?_
  rintro _ _ ⟨b1, rfl, rfl⟩
  refine ops_t (wn rfl) rfl (t_alloc Try.zeroValue38) ?_
  rintro _ _ ⟨b2, rfl, rfl⟩
  refine ops_nil ?_
  refine goes_code ?_
  refine run_seq ?_
  refine run_seq ?_
  refine run_region' ?_
  refine ops_y (wn rfl) rfl (y_load_boxagg (c := [.int .i64 b_0.Cap, .int .i64 b_0.Num, .int .i64 b_0.Den, .int .i64 b_0.Level, .int .i64 b_0.At]) 0 Try.isAgg23 Try.sizeOf23 rfl rfl rfl) ?_
  obtain ⟨r3, hr4, h⟩ := bind_some h
  refine ops_t (wn rfl) rfl (t_call (vs := [.agg #[.int .i64 b_0.Cap, .int .i64 b_0.Num, .int .i64 b_0.Den, .int .i64 b_0.Level, .int .i64 b_0.At]]) (cs := []) [] rfl Try.call21 rfl (ref12_Valid_ok b_0  hr4) shows_nil (.inl rfl)) ?_
  rintro _ _ ⟨_, ⟨rfl, rfl⟩, rfl⟩
  refine ops_y (wn rfl) rfl (y_not rfl) ?_
  refine ops_y (wn rfl) rfl (y_move rfl) ?_
  refine ops_cut 4 Bool (fun σ => [(1, .int .i64 from_1), (2, .int .i64 to_2), (3, boxP b1 0), (6, boxP b2 0), (15, .bool σ)]) (fun σ => [box b1 [.int .i64 b_0.Cap, .int .i64 b_0.Num, .int .i64 b_0.Den, .int .i64 b_0.Level, .int .i64 b_0.At], box b2 [.int .i64 0, .int .i64 0]]) (fun σ => σ = ((!r3) || decide (to_2 < from_1))) (fun L5 hL6 => ?_) ?_
  · refine ops_split 11 (!r3) rfl (fun hg7 => ?_) (fun hg7 => ?_)
    · skip
      refine ops_no 3 false 11 rfl rfl rfl rfl rfl ?_
      refine ops_no 3 false 11 rfl rfl rfl rfl rfl ?_
      refine ops_no 3 false 11 rfl rfl rfl rfl rfl ?_
      refine ops_y (wn rfl) rfl (y_pick (b := true) rfl rfl) ?_
      refine ops_nil ?_
      exact goes_cut hL6 true [0, 1] (vcons rfl (vcons rfl (vcons rfl (vcons rfl (vcons rfl (vnil)))))) (by decide) rfl (by rw [hg7]; simp)
    · skip
      refine ops_y (wg 3 false 11 rfl rfl rfl rfl) rfl (y_move rfl) ?_
      refine ops_y (wg 3 false 11 rfl rfl rfl rfl) rfl (y_move rfl) ?_
      refine ops_y (wg 3 false 11 rfl rfl rfl rfl) rfl (y_gtr rfl rfl) ?_
      refine ops_y (wn rfl) rfl (y_pick (b := false) rfl rfl) ?_
      refine ops_nil ?_
      exact goes_cut hL6 (decide (to_2 < from_1)) [0, 1] (vcons rfl (vcons rfl (vcons rfl (vcons rfl (vcons rfl (vnil)))))) (by decide) rfl (by rw [hg7]; simp)
  rintro _ rfl
  refine ops_nil ?_
  refine goes_code ?_
  refine run_cond ((!r3) || decide (to_2 < from_1)) rfl (fun hc8 => ?_) (fun hc8 => ?_)
  · replace h := cond_t h hc8
    refine run_seq ?_
    refine run_region' ?_
    refine ops_y (wn rfl) rfl (y_build_struct (cells := #[.int .i64 0, .int .i64 1]) [(1, .int .i64 1)] [(1, [.int .i64 1])] Try.zeroValue38 Try.runUnderlying38 (fs_cons Try.sizeOf3 (fs_cons Try.sizeOf24 fs_nil)) rfl rfl rfl) ?_
    refine ops_t (wn rfl) rfl (t_store 1 Try.sizeOf38 rfl rfl rfl rfl (by simp [Value.cells]) (by simp [Value.cells, Value.oneCell'])) ?_
    rintro _ _ ⟨rfl, rfl⟩
    refine ops_turn (retell 1 (g := box b2 [.int .i64 0, .int .i64 1]) rfl rfl) ?_
    refine ops_nil ?_
    refine goes_code ?_
    refine run_ret ?_
    obtain rfl := some_eq h
    refine fin_res [.cell 6 38] [.agg #[.int .i64 0, .int .i64 1]] [] [] Try.results18 rfl (rescons (res_box 1 Try.isAgg38 Try.sizeOf38 rfl rfl rfl) resnil) (by decide) rfl ?_
    exact ⟨rfl, rfl⟩
  · replace h := cond_f h hc8
    refine run_skip ?_
    refine goes_code ?_
    refine run_seq ?_
    refine run_region' ?_
    refine ops_y (wn rfl) rfl (y_load_boxagg (c := [.int .i64 b_0.Cap, .int .i64 b_0.Num, .int .i64 b_0.Den, .int .i64 b_0.Level, .int .i64 b_0.At]) 0 Try.isAgg23 Try.sizeOf23 rfl rfl rfl) ?_
    refine ops_y (wn rfl) rfl (y_move rfl) ?_
    obtain ⟨r9, hr10, h⟩ := bind_some h
    refine ops_t (wn rfl) rfl (t_call (vs := [.agg #[.int .i64 b_0.Cap, .int .i64 b_0.Num, .int .i64 b_0.Den, .int .i64 b_0.Level, .int .i64 b_0.At], .int .i64 from_1]) (cs := []) [] rfl Try.call15 rfl (ref12_Refill_ok b_0 from_1  hr10) shows_nil (.inl rfl)) ?_
    rintro _ _ ⟨_, ⟨rfl, rfl⟩, rfl⟩
    refine ops_t (wn rfl) rfl (t_alloc Try.zeroValue33) ?_
    rintro _ _ ⟨b11, rfl, rfl⟩
    refine ops_t (wn rfl) rfl (t_store 2 Try.sizeOf33 rfl rfl rfl rfl (by simp [Value.cells]) (by simp [Value.cells, Value.oneCell'])) ?_
    rintro _ _ ⟨rfl, rfl⟩
    refine ops_turn (retell 2 (g := box b11 [.int .i64 r9.B.Cap, .int .i64 r9.B.Num, .int .i64 r9.B.Den, .int .i64 r9.B.Level, .int .i64 r9.B.At, .int .i64 r9.E]) rfl rfl) ?_
    refine ops_nil ?_
    refine goes_code ?_
    refine run_seq ?_
    refine run_seq ?_
    refine run_region' ?_
    refine ops_y (wn rfl) rfl (y_fieldAddr_box (sz := 0) Try.runUnderlying33 rfl Try.sizeOf24 rfl) ?_
    refine ops_y (wn rfl) rfl (y_load_box 2 Try.isAgg24 rfl rfl rfl) ?_
    refine ops_y (wn rfl) rfl (y_neq rfl rfl) ?_
    refine ops_nil ?_
    refine goes_code ?_
    refine run_cond (decide (r9.E ≠ 0)) rfl (fun hc12 => ?_) (fun hc12 => ?_)
    · replace h := cond_t h hc12
      refine run_seq ?_
      refine run_weak [(6, boxP b2 0), (7, boxP b11 0)] [1, 2] [box b2 [.int .i64 0, .int .i64 0], box b11 [.int .i64 r9.B.Cap, .int .i64 r9.B.Num, .int .i64 r9.B.Den, .int .i64 r9.B.Level, .int .i64 r9.B.At, .int .i64 r9.E]] (vcons rfl (vcons rfl (vnil))) (by decide) rfl ?_
      refine run_region' ?_
      refine ops_y (wn rfl) rfl (y_fieldAddr_box (sz := 0) Try.runUnderlying33 rfl Try.sizeOf24 rfl) ?_
      refine ops_y (wn rfl) rfl (y_load_box 1 Try.isAgg24 rfl rfl rfl) ?_
      refine ops_y (wn rfl) rfl (y_build_struct (cells := #[.int .i64 0, .int .i64 r9.E]) [(1, .int .i64 r9.E)] [(1, [.int .i64 r9.E])] Try.zeroValue38 Try.runUnderlying38 (fs_cons Try.sizeOf3 (fs_cons Try.sizeOf24 fs_nil)) rfl rfl rfl) ?_
      refine ops_t (wn rfl) rfl (t_store 0 Try.sizeOf38 rfl rfl rfl rfl (by simp [Value.cells]) (by simp [Value.cells, Value.oneCell'])) ?_
      rintro _ _ ⟨rfl, rfl⟩
      refine ops_turn (retell 0 (g := box b2 [.int .i64 0, .int .i64 r9.E]) rfl rfl) ?_
      refine ops_nil ?_
      refine goes_code ?_
      refine run_ret ?_
      obtain rfl := some_eq h
      refine fin_res [.cell 6 38] [.agg #[.int .i64 0, .int .i64 r9.E]] [] [] Try.results18 rfl (rescons (res_box 0 Try.isAgg38 Try.sizeOf38 rfl rfl rfl) resnil) (by decide) rfl ?_
      exact ⟨rfl, rfl⟩
    · replace h := cond_f h hc12
      refine run_skip ?_
      refine goes_code ?_
      refine run_seq ?_
      refine run_seq ?_
      refine run_weak [(1, .int .i64 from_1), (2, .int .i64 to_2), (3, boxP b1 0), (6, boxP b2 0), (7, boxP b11 0)] [0, 1, 2] [box b1 [.int .i64 b_0.Cap, .int .i64 b_0.Num, .int .i64 b_0.Den, .int .i64 b_0.Level, .int .i64 b_0.At], box b2 [.int .i64 0, .int .i64 0], box b11 [.int .i64 r9.B.Cap, .int .i64 r9.B.Num, .int .i64 r9.B.Den, .int .i64 r9.B.Level, .int .i64 r9.B.At, .int .i64 r9.E]] (vcons rfl (vcons rfl (vcons rfl (vcons rfl (vcons rfl (vnil)))))) (by decide) rfl ?_
      refine run_region' ?_
      refine ops_y (wn rfl) rfl (y_move rfl) ?_
      refine ops_y (wn rfl) rfl (y_move rfl) ?_
      refine ops_y (wn rfl) rfl (y_eql rfl rfl) ?_
      refine ops_nil ?_
      refine goes_code ?_
      refine run_cond (decide (from_1 = to_2)) rfl (fun hc13 => ?_) (fun hc13 => ?_)
      · replace h := cond_t h hc13
        refine run_seq ?_
        refine run_region' ?_
        refine ops_y (wn rfl) rfl (y_build_struct (cells := #[.int .i64 0, .int .i64 0]) [] [] Try.zeroValue38 Try.runUnderlying38 (fs_cons Try.sizeOf3 (fs_cons Try.sizeOf24 fs_nil)) rfl rfl rfl) ?_
        refine ops_t (wn rfl) rfl (t_store 1 Try.sizeOf38 rfl rfl rfl rfl (by simp [Value.cells]) (by simp [Value.cells, Value.oneCell'])) ?_
        rintro _ _ ⟨rfl, rfl⟩
        refine ops_turn (retell 1 (g := box b2 [.int .i64 0, .int .i64 0]) rfl rfl) ?_
        refine ops_nil ?_
        refine goes_code ?_
        refine run_ret ?_
        obtain rfl := some_eq h
        refine fin_res [.cell 6 38] [.agg #[.int .i64 0, .int .i64 0]] [] [] Try.results18 rfl (rescons (res_box 1 Try.isAgg38 Try.sizeOf38 rfl rfl rfl) resnil) (by decide) rfl ?_
        exact ⟨rfl, rfl⟩
      · replace h := cond_f h hc13
        refine run_skip ?_
        refine goes_code ?_
        refine run_seq ?_
        refine run_seq ?_
        refine run_region' ?_
        refine ops_y (wn rfl) rfl (y_move rfl) ?_
        refine ops_y (wn rfl) rfl (y_gtr rfl rfl) ?_
        refine ops_nil ?_
        refine goes_code ?_
        refine run_cond (decide (1099511627776 < to_2)) rfl (fun hc14 => ?_) (fun hc14 => ?_)
        · replace h := cond_t h hc14
          refine run_seq ?_
          refine run_region' ?_
          refine ops_y (wn rfl) rfl (y_build_struct (cells := #[.int .i64 0, .int .i64 9]) [(1, .int .i64 9)] [(1, [.int .i64 9])] Try.zeroValue38 Try.runUnderlying38 (fs_cons Try.sizeOf3 (fs_cons Try.sizeOf24 fs_nil)) rfl rfl rfl) ?_
          refine ops_t (wn rfl) rfl (t_store 1 Try.sizeOf38 rfl rfl rfl rfl (by simp [Value.cells]) (by simp [Value.cells, Value.oneCell'])) ?_
          rintro _ _ ⟨rfl, rfl⟩
          refine ops_turn (retell 1 (g := box b2 [.int .i64 0, .int .i64 9]) rfl rfl) ?_
          refine ops_nil ?_
          refine goes_code ?_
          refine run_ret ?_
          obtain rfl := some_eq h
          refine fin_res [.cell 6 38] [.agg #[.int .i64 0, .int .i64 9]] [] [] Try.results18 rfl (rescons (res_box 1 Try.isAgg38 Try.sizeOf38 rfl rfl rfl) resnil) (by decide) rfl ?_
          exact ⟨rfl, rfl⟩
        · replace h := cond_f h hc14
          refine run_skip ?_
          refine goes_code ?_
          refine run_seq ?_
          refine run_region' ?_
          refine ops_y (wn rfl) rfl (y_fieldAddr_box (sz := 4) Try.runUnderlying33 rfl Try.sizeOf23 rfl) ?_
          refine ops_y (wn rfl) rfl (y_fieldAddr_box (sz := 0) Try.runUnderlying23 rfl Try.sizeOf3 rfl) ?_
          refine ops_y (wn rfl) rfl (y_load_box 2 Try.isAgg3 rfl rfl rfl) ?_
          refine ops_y (wn rfl) rfl (y_fieldAddr_box (sz := 0) Try.runUnderlying23 rfl Try.sizeOf3 rfl) ?_
          refine ops_y (wn rfl) rfl (y_load_box 0 Try.isAgg3 rfl rfl rfl) ?_
          refine ops_y (wn rfl) rfl (y_move rfl) ?_
          refine ops_y (wn rfl) rfl (y_sub rfl rfl) ?_
          refine ops_y (wn rfl) rfl (y_move rfl) ?_
          refine ops_y (wn rfl) rfl (y_sub rfl rfl) ?_
          refine ops_y (wn rfl) rfl (y_mul rfl rfl) ?_
          refine ops_y (wn rfl) rfl (y_add rfl rfl) ?_
          refine ops_weak [(3, boxP b1 0), (6, boxP b2 0), (43, .int .i64 (IntKind.i64.wrap (r9.B.Level + (IntKind.i64.wrap (b_0.Num * (IntKind.i64.wrap ((IntKind.i64.wrap (to_2 - 1)) - from_1)))))))] [0, 1] [box b1 [.int .i64 b_0.Cap, .int .i64 b_0.Num, .int .i64 b_0.Den, .int .i64 b_0.Level, .int .i64 b_0.At], box b2 [.int .i64 0, .int .i64 0]] (vcons rfl (vcons rfl (vcons rfl (vnil)))) (by decide) rfl ?_
          refine ops_y (wn rfl) rfl (y_fieldAddr_box (sz := 0) Try.runUnderlying23 rfl Try.sizeOf3 rfl) ?_
          refine ops_y (wn rfl) rfl (y_load_box 0 Try.isAgg3 rfl rfl rfl) ?_
          obtain ⟨hd15, h⟩ := need_some h
          refine ops_y (wn rfl) rfl (y_quo rfl rfl hd15) ?_
          refine ops_y (wn rfl) rfl (y_build_struct (cells := #[.int .i64 (IntKind.i64.wrap ((IntKind.i64.wrap (r9.B.Level + (IntKind.i64.wrap (b_0.Num * (IntKind.i64.wrap ((IntKind.i64.wrap (to_2 - 1)) - from_1)))))).tdiv b_0.Den)), .int .i64 0]) [(0, .int .i64 (IntKind.i64.wrap ((IntKind.i64.wrap (r9.B.Level + (IntKind.i64.wrap (b_0.Num * (IntKind.i64.wrap ((IntKind.i64.wrap (to_2 - 1)) - from_1)))))).tdiv b_0.Den)))] [(0, [.int .i64 (IntKind.i64.wrap ((IntKind.i64.wrap (r9.B.Level + (IntKind.i64.wrap (b_0.Num * (IntKind.i64.wrap ((IntKind.i64.wrap (to_2 - 1)) - from_1)))))).tdiv b_0.Den))])] Try.zeroValue38 Try.runUnderlying38 (fs_cons Try.sizeOf3 (fs_cons Try.sizeOf24 fs_nil)) rfl rfl rfl) ?_
          refine ops_t (wn rfl) rfl (t_store 1 Try.sizeOf38 rfl rfl rfl rfl (by simp [Value.cells]) (by simp [Value.cells, Value.oneCell'])) ?_
          rintro _ _ ⟨rfl, rfl⟩
          refine ops_turn (retell 1 (g := box b2 [.int .i64 (IntKind.i64.wrap ((IntKind.i64.wrap (r9.B.Level + (IntKind.i64.wrap (b_0.Num * (IntKind.i64.wrap ((IntKind.i64.wrap (to_2 - 1)) - from_1)))))).tdiv b_0.Den)), .int .i64 0]) rfl rfl) ?_
          refine ops_nil ?_
          refine goes_code ?_
          refine run_ret ?_
          obtain rfl := some_eq h
          refine fin_res [.cell 6 38] [.agg #[.int .i64 (IntKind.i64.wrap ((IntKind.i64.wrap (r9.B.Level + (IntKind.i64.wrap (b_0.Num * (IntKind.i64.wrap ((IntKind.i64.wrap (to_2 - 1)) - from_1)))))).tdiv b_0.Den)), .int .i64 0]] [] [] Try.results18 rfl (rescons (res_box 1 Try.isAgg38 Try.sizeOf38 rfl rfl rfl) resnil) (by decide) rfl ?_
          exact ⟨rfl, rfl⟩

def ref12_Tokens (b_0 : S_api_Bucket) : Option (Int) :=
  (ref12_Valid b_0).bind fun r2 =>
  cond (!r2)
    (some 0)
    (need (b_0.Den ≠ 0) (
    some (IntKind.i64.wrap (b_0.Level.tdiv b_0.Den))))
theorem ref12_Tokens_ok (b_0 : S_api_Bucket)  {r : Int} (h : ref12_Tokens b_0 = some r) :
    Meets Try.prog 23 [.agg #[.int .i64 b_0.Cap, .int .i64 b_0.Num, .int .i64 b_0.Den, .int .i64 b_0.Level, .int .i64 b_0.At]] [] (fun v G => v = .int .i64 r ∧ G = []) := by
  refine fn_of_run Try.func23 rfl Try.ntmps23 rfl (fun w0 o0 => ?_)
  refine run_seq ?_
  refine run_region' ?_
  refine ops_t (wn rfl) rfl (t_box rfl) ?_
  rintro _ _ ⟨b1, rfl, rfl⟩
  refine ops_y (wn rfl) rfl (y_assign rfl) ?_
  refine ops_nil ?_
  refine goes_code ?_
  refine run_seq ?_
  refine run_region' ?_
  refine ops_y (wn rfl) rfl (y_load_boxagg (c := [.int .i64 b_0.Cap, .int .i64 b_0.Num, .int .i64 b_0.Den, .int .i64 b_0.Level, .int .i64 b_0.At]) 0 Try.isAgg23 Try.sizeOf23 rfl rfl rfl) ?_
  obtain ⟨r2, hr3, h⟩ := bind_some h
  refine ops_t (wn rfl) rfl (t_call (vs := [.agg #[.int .i64 b_0.Cap, .int .i64 b_0.Num, .int .i64 b_0.Den, .int .i64 b_0.Level, .int .i64 b_0.At]]) (cs := []) [] rfl Try.call21 rfl (ref12_Valid_ok b_0  hr3) shows_nil (.inl rfl)) ?_
  rintro _ _ ⟨_, ⟨rfl, rfl⟩, rfl⟩
  refine ops_y (wn rfl) rfl (y_assign rfl) ?_
  refine ops_nil ?_
  refine goes_code ?_
  refine run_seq ?_
  refine run_seq ?_
  refine run_region' ?_
  refine ops_y (wn rfl) rfl (y_move rfl) ?_
  refine ops_y (wn rfl) rfl (y_not rfl) ?_
  refine ops_nil ?_
  refine goes_code ?_
  refine run_cond (!r2) rfl (fun hc4 => ?_) (fun hc4 => ?_)
  · replace h := cond_t h hc4
    refine run_seq ?_
    refine run_region' ?_
    refine ops_y (wn rfl) rfl (y_assign rfl) ?_
    refine ops_nil ?_
    refine goes_code ?_
    refine run_ret ?_
    obtain rfl := some_eq h
    refine fin_slots [2] [.int .i64 0] [] [] Try.results23 rfl (by decide) rfl ?_
    exact ⟨rfl, rfl⟩
  · replace h := cond_f h hc4
    refine run_skip ?_
    refine goes_code ?_
    refine run_seq ?_
    refine run_region' ?_
    refine ops_y (wn rfl) rfl (y_fieldAddr_box (sz := 0) Try.runUnderlying23 rfl Try.sizeOf3 rfl) ?_
    refine ops_y (wn rfl) rfl (y_load_box 0 Try.isAgg3 rfl rfl rfl) ?_
    refine ops_y (wn rfl) rfl (y_fieldAddr_box (sz := 0) Try.runUnderlying23 rfl Try.sizeOf3 rfl) ?_
    refine ops_y (wn rfl) rfl (y_load_box 0 Try.isAgg3 rfl rfl rfl) ?_
    obtain ⟨hd5, h⟩ := need_some h
    refine ops_y (wn rfl) rfl (y_quo rfl rfl hd5) ?_
    refine ops_y (wn rfl) rfl (y_assign rfl) ?_
    refine ops_nil ?_
    refine goes_code ?_
    refine run_ret ?_
    obtain rfl := some_eq h
    refine fin_slots [2] [.int .i64 (IntKind.i64.wrap (b_0.Level.tdiv b_0.Den))] [] [] Try.results23 rfl (by decide) rfl ?_
    exact ⟨rfl, rfl⟩

end Go.Proofs.Ytpalglggjndmlaa
